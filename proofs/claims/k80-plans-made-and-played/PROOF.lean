import PyProof.Rows.All
import Wide.All
import OpenK.AllK
import Wide.FinOn
import HandS.ForMost
import HandS.Wide
import HandS.IsInst
import HandS.Property
import HandS.ClsMeth
import HandS.Defaults
import HandS.MakeKw
import HandS.MakeKwOnly
import HandS.FStr
import HandS.Lambda
import HandS.SlotsOwn
import HandS.Evl
import HandS.Walk
import KE.KStateDown
import Lean
import HandS.Text
import PyProof.StrBlock2
import OpenK.KDescr
import KE.GoesEnum
import KE.GoesEnumKw
import KE.GoesZip
import KE.GoesMore
import KE.KUnpackStar
import HandS.Ends
import HandS.Words
import HandS.Head0
import HandS.OwnEq
import HandS.Head1
import HandS.Head2
import HandS.HeadEnd
import HandS.HeadHook1
import HandS.HeadHook2
import HandS.HeadNt
import HandS.HeadHook4
import KE.KNestM
import HandS.ExcIs
import KE.KOpsOwn
import KE.KExcIs
import HandS.ExcInit
import HandS.ExcOwn
import HandS.ExcField
import HandS.RaiseMore
import HandS.Set
import HandS.SetFor
import HandS.Strs
import HandS.Conv
import HandS.DictComp
import HandS.Star
import HandS.More
import KE.KDictSum
import KE.KSortTupG
import HandS.EndTab
import PyProof.ReprLen
import PyProof.StrLawsRepr
import KE.LtData
import KE.DataCmp
import KE.KCallOwn
import KE.KDictPairs
import HandS.TupLen
import HandS.Flow
import HandS.Style
import HandS.ReplaceLit
import HandS.DictEq
import HandS.ExcValue
import HandS.ListEq
import KE.KSuper
import HandS.HeadHook3
import PyProof.MeetsStr3
import PyProof.WalkInts
import PyProof.ListRange
import PyProof.LongRange
import HandS.SortRule
import PySem.Challenge.RW_soundtill_k80_plans_made_and_played
set_option Elab.async false
set_option linter.all false
set_option maxRecDepth 100000
set_option maxHeartbeats 4000000
namespace Q
open PySem PySem.Spec PyProof.Rows L2
/-- nothing is being shown -/
abbrev G0 (A : Around) : Prop := A.guards = some []
theorem g0_deeper {A : Around} {e : Env} (h : G0 A) : G0 (A.deeper e) := h
theorem g0_caller : G0 callerA := rfl
/-- a def's promise where nothing is being shown around it -/
structure FnA (P : Program) (w : World) (K : PySem.W.Frag) (mg : Str → Option Value) (base : Heap) (CX : CXT) (k : Nat) (f : Addr) (fd : FuncData) (ps : List Str) (sp : Sp) : Prop where
  len : ∀ vs H Q E, sp vs H Q E → vs.length = ps.length
  run : ∀ (A : Around) (outer : List Env) (s : Shared) (H : Hp) (args : Args) (us : List Value) (vs : List V) (Q : VK) (E : XK), G0 A → Room k A → Env0 P w K mg base A outer s H →
    BindsTo s fd args (ps.zip us) → Vals vs us → sp vs H Q E → codeAny (model P w) A (.call (.ref f) args) (CR CX outer P w H s Q E) s
section
variable {X : Cx} {CX : CXT} {k : Nat} {f : Addr} {fd : FuncData} {ps : List Str} {sp : Sp} {dvs : List V} {ds : List Value} {E : XK} {x : Str} {e : Expr} {es : List Expr} {t : TA} {pos p : Pos}
theorem pe_callA (F : FnA X.prog X.w X.K X.mg X.base CX k f fd ps sp) (g : G0 X.A) (hr : Room k X.A) (hg : Gl X x) (hm : X.mg x = some (.ref f)) (hk : PySem.W.keepIn X.K (.ref f) = true) (hb : Binds X.K fd ps ds) (hd : Vals dvs ds) (hx : Passes CX X E)
    (ha : PA X (e :: es) t) (hdb : (x == ("__debug__" : Str)) = false := by decide) (he : starEach (e :: es) X.env = (false, eval e X.env) :: starEach es X.env := by rfl) (hpl : (backTo pos (starEach es X.env)).any (·.1) = false := by rfl) :
    PE X (.Call (.Name x p) (e :: es) [] pos) (tCall sp dvs E t) := by
  refine ⟨fun pins s σ H Q I h => wpAny_Call_Name_kw (ld_glob I hg hm ?_ hdb)⟩
  refine PySem.W.callWith_K (h₀ := X.base) I.ok.mod.kin hk (thn (ha.run pos pins s σ H _ I h) fun us s1 hh => ?_) he hpl
  obtain ⟨vs, H1, I1, r, q⟩ := hh
  have r2 := r.append hd
  have hl : (us ++ ds).length = ps.length := by
    rw [← r2.length]
    exact F.len _ _ _ _ q
  refine ⟨I1.kIn, wpAny_call (codeAny_mono (F.run X.A X.stack s1 H1 ⟨us, []⟩ _ _ Q E g hr I1.env0 (hb s1 us I1.kIn hl) r2 q) fun o s2 z => ?_)⟩
  match o, z with
  | .error er, z => exact hx pins σ H1 s1 er s2 I1 z
  | .ok (.ret u), z => exact I1.after z
  | .ok .next, z => exact z.elim
  | .ok .brk, z => exact z.elim
  | .ok .cont, z => exact z.elim
end
section
variable {X : Cx}
def rRepr (K : PySem.W.Frag) : List V → Hp → VK → Prop := fun xs H Q => ∃ (x : V) (d : PyData), xs = [x] ∧ Dp K H x d ∧ d.showable = true ∧ d.depth ≤ 60 ∧ d.shown.length ≤ sizeLine ∧ Q (.str d.shown) H
theorem dp_noDict {K : PySem.W.Frag} {H : Hp} : ∀ (d : PyData) (x : V), Dp K H x d → d.hasDict = false := by
  have key : ∀ (n : Nat) (d : PyData) (x : V), sizeOf d ≤ n → Dp K H x d → d.hasDict = false := by
    intro n
    induction n with
    | zero => intro d x hn h; cases d <;> simp at hn
    | succ n ih =>
      have all : ∀ (ds : List PyData) (vs : List V), sizeOf ds ≤ n → DpAll K H vs ds → PyData.hasDictAll ds = false := by
        intro ds
        induction ds with
        | nil => intro vs _ _; simp only [PyData.hasDictAll]
        | cons d ds ihd =>
          intro vs hs h
          cases h with
          | cons h1 h2 =>
            have s1 : sizeOf d ≤ n := by simp at hs; omega
            have s2 : sizeOf ds ≤ n := by simp at hs; omega
            simp only [PyData.hasDictAll, ih d _ s1 h1, ihd _ s2 h2, Bool.or_self]
      intro d x hn h
      cases h with
      | non => simp only [PyData.hasDict]
      | bl b => simp only [PyData.hasDict]
      | int i => simp only [PyData.hasDict]
      | str x => simp only [PyData.hasDict]
      | lst hs ha => simp only [PyData.hasDict]; exact all _ _ (by simp at hn; omega) ha
      | tup hs ha => simp only [PyData.hasDict]; exact all _ _ (by simp at hn; omega) ha
  exact fun d x h => key (sizeOf d) d x (Nat.le_refl _) h
theorem call_repr (g : G0 X.A) (hu : X.A.units + 64 < cLine) : CallR X (.builtin "repr") (rRepr X.K) := by
  intro pins s σ H xs us Q I r h
  obtain ⟨x, d, rfl, hd, hs, hdp, hz, q⟩ := h
  obtain ⟨u, rfl, ru⟩ := r.one
  have nd := dp_noDict d x hd
  obtain ⟨as, hr⟩ := Dp.reads I d x u hd ru
  cases hd with
  | non =>
    cases (show u = Value.none from ru)
    exact PySem.P.repr_of_none ⟨.str "None", H, I.tok _, ⟨_, rfl⟩, by simpa only [PyData.shown] using q⟩
  | bl b =>
    cases (show u = Value.bool b from ru)
    exact PySem.P.repr_of_bool ⟨.str (if b then "True" else "False"), H, I.tok _, ⟨_, rfl⟩, by simpa only [PyData.shown] using q⟩
  | int i =>
    obtain ⟨t, e⟩ := (show ∃ t, u = Value.int i t from ru)
    cases e
    exact PySem.P.repr_of_int (by simpa [PyData.showable] using hs) ⟨.str (toString i), H, I.tok _, ⟨_, rfl⟩, by simpa only [PyData.shown] using q⟩
  | str z =>
    obtain ⟨t, e⟩ := (show ∃ t, u = Value.str z t from ru)
    cases e
    exact PySem.P.repr_of_str ⟨.str (reprText z), H, I.tok _, ⟨_, rfl⟩, by simpa only [PyData.shown] using q⟩ (by simpa only [PyData.shown] using hz)
  | lst h1 h2 =>
    cases (show u = Value.ref _ from ru)
    exact repr_of_reads' hr hs (PyData.noDict_hsm nd) g (by omega) (fun _ _ e => e) (fun h' u tk hk => ⟨.str _, H, I.kept (t' := tk) hk, ⟨_, rfl⟩, q⟩) hz
  | tup h1 h2 =>
    cases (show u = Value.ref _ from ru)
    exact repr_of_reads' hr hs (PyData.noDict_hsm nd) g (by omega) (fun _ _ e => e) (fun h' u tk hk => ⟨.str _, H, I.kept (t' := tk) hk, ⟨_, rfl⟩, q⟩) hz
end
end Q
namespace Q
open PySem PySem.Spec PyProof.Rows L2
/-- no table of code objects -/
abbrev NoT (o : HO) : Prop := ∀ ps, o ≠ .tbl ps
/-- neither a table nor a thing by its heap -/
def plainB : HO → Bool
  | .tbl _ => false
  | .ext _ => false
  | _ => true
/-- told: as it is, and no table -/
def Gh (G H : Hp) : Prop := Same G H ∧ ∀ a o, G a = some o → NoT o
/-- all but p is as it was -/
def But (p : Addr) (H H' : Hp) : Prop := ∀ b o, b ≠ p → H b = some o → H' b = some o
/-- the entry: the heap, the ghost, the objects of the caller that the def may change -/
structure En where
  H0 : Hp
  G0 : Hp
  P0 : List Addr
  T : List (Addr × Str)
structure Wd (e : En) (G H : Hp) (M : List Addr) : Prop where
  le : Same G H
  mu : ∀ a ∈ M, G a = none ∧ (∃ o, H a = some o) ∧ (e.H0 a = none ∨ a ∈ e.P0)
  nd : M.Nodup
  dom : ∀ a, e.H0 a ≠ none → H a ≠ none
  gr : Same e.G0 G
  fr : ∀ a, e.H0 a ≠ none → G a = e.G0 a
  kp : ∀ a o, a ∉ e.P0 → e.H0 a = some o → H a = some o
  nt : ∀ a o, G a = some o → NoT o
  mt : ∀ a ∈ M, ∀ o, H a = some o → plainB o = true
  tb : LamX.Tabs e.T H
theorem pl_nt {o : HO} (h : plainB o = true) : NoT o := fun ps z => by
  rw [z] at h
  cases h
theorem tabs_but {T : List (Addr × Str)} {H H' : Hp} {p : Addr} {o : HO} (t : LamX.Tabs T H) (b : But p H H') (hp : H p = some o) (pl : plainB o = true) : LamX.Tabs T H' := fun q hq => by
  obtain ⟨ps, h1, h2, h3⟩ := t q hq
  refine ⟨ps, b _ _ (fun z => ?_) h1, h2, fun pos cv hc => ?_⟩
  · rw [z, hp] at h1
    rw [Option.some.inj h1] at pl
    cases pl
  · obtain ⟨c, e1, e2⟩ := h3 pos cv hc
    refine ⟨c, e1, b _ _ (fun z => ?_) e2⟩
    rw [z, hp] at e2
    rw [Option.some.inj e2] at pl
    cases pl
theorem tabs_nil {H : Hp} : LamX.Tabs [] H := fun p hp => by cases hp
theorem Wd.gh {e : En} {G H : Hp} {M : List Addr} (w : Wd e G H M) : Gh G H := ⟨w.le, w.nt⟩
section
variable {e : En} {G H H' : Hp} {M : List Addr} {q p : Addr} {o u : HO}
theorem same_upd (h : H q = none) : Same H (upd H q o) := fun a u e => by
  rw [upd_ne (ne_of_none e h)]
  exact e
theorem some_ne {α : Type} {x : Option α} {y : α} (h : x = some y) : x ≠ none := by rw [h]; exact Option.some_ne_none y
theorem wd_startT {H G : Hp} {P : List Addr} {T : List (Addr × Str)} {M : List Addr} (s : Gh G H) (hp : ∀ a ∈ M, G a = none ∧ ∃ o, H a = some o ∧ plainB o = true) (nd : M.Nodup) (sub : ∀ a ∈ M, a ∈ P) (t : LamX.Tabs T H) : Wd ⟨H, G, P, T⟩ G H M :=
  ⟨s.1, fun a ha => ⟨(hp a ha).1, (hp a ha).2.elim fun o z => ⟨o, z.1⟩, .inr (sub a ha)⟩, nd, fun _ h => h, Same.refl _, fun _ _ => rfl, fun _ _ _ h => h, s.2, fun a ha o h => by
    obtain ⟨_, u, h1, h2⟩ := hp a ha
    rw [h1] at h
    rw [← Option.some.inj h]
    exact h2, t⟩
theorem wd_start {H G : Hp} {P : List Addr} (s : Gh G H) (hp : ∀ a ∈ P, G a = none ∧ ∃ o, H a = some o ∧ plainB o = true) (nd : P.Nodup) : Wd ⟨H, G, P, []⟩ G H P := wd_startT s hp nd (fun _ h => h) tabs_nil
theorem wd_pure {H G : Hp} (s : Gh G H) : Wd ⟨H, G, [], []⟩ G H [] := wd_start s (fun a h => by simp at h) List.nodup_nil
theorem Wd.g (w : Wd e G H M) (h : H q = none) : G q = none := by
  cases z : G q with
  | none => rfl
  | some o => rw [w.le _ _ z] at h; cases h
theorem Wd.nm (w : Wd e G H M) (h : H q = none) {m : Addr} (hm : m ∈ M) : q ≠ m := fun z => by
  obtain ⟨_, ⟨o, ho⟩, _⟩ := w.mu m hm
  rw [← z, h] at ho
  cases ho
theorem Wd.n0 (w : Wd e G H M) (h : H q = none) : e.H0 q = none := by
  cases z : e.H0 q with
  | none => rfl
  | some o => exact absurd h (w.dom q (some_ne z))
/-- a new object, told -/
theorem wd_lay (w : Wd e G H M) (h : H q = none) (no : NoT o := by intro ps z; cases z) : Wd e (upd G q o) (upd H q o) M where
  le := fun a u z => by
    by_cases x : a = q
    · subst x; rw [upd_same] at z ⊢; exact z
    · rw [upd_ne x] at z ⊢; exact w.le _ _ z
  mu := fun a ha => by
    obtain ⟨h1, h2, h3⟩ := w.mu a ha
    have x : a ≠ q := (w.nm h ha).symm
    rw [upd_ne x, upd_ne x]
    exact ⟨h1, h2, h3⟩
  nd := w.nd
  dom := fun a ha => by
    by_cases x : a = q
    · rw [x, upd_same]; simp
    · rw [upd_ne x]; exact w.dom a ha
  gr := fun a u z => same_upd (w.g h) _ _ (w.gr _ _ z)
  fr := fun a ha => by
    have x : a ≠ q := fun z => by rw [z, w.n0 h] at ha; exact ha rfl
    rw [upd_ne x]
    exact w.fr a ha
  kp := fun a u hp z => same_upd h _ _ (w.kp a u hp z)
  nt := fun a u z => by
    by_cases x : a = q
    · rw [x, upd_same] at z
      rw [← Option.some.inj z]
      exact no
    · rw [upd_ne x] at z
      exact w.nt a u z
  mt := fun a ha u z => by
    rw [upd_ne (w.nm h ha).symm] at z
    exact w.mt a ha u z
  tb := w.tb.ext (same_upd h)
/-- a new object, to be changed -/
theorem wd_layM (w : Wd e G H M) (h : H q = none) (no : plainB o = true := by rfl) : Wd e G (upd H q o) (q :: M) where
  le := fun a u z => same_upd h _ _ (w.le _ _ z)
  mu := fun a ha => by
    rcases List.mem_cons.mp ha with x | ha
    · subst x
      exact ⟨w.g h, ⟨o, upd_same⟩, .inl (w.n0 h)⟩
    · obtain ⟨h1, h2, h3⟩ := w.mu a ha
      rw [upd_ne (w.nm h ha).symm]
      exact ⟨h1, h2, h3⟩
  nd := List.nodup_cons.mpr ⟨fun z => w.nm h z rfl, w.nd⟩
  dom := fun a ha => by
    by_cases x : a = q
    · rw [x, upd_same]; simp
    · rw [upd_ne x]; exact w.dom a ha
  gr := w.gr
  fr := w.fr
  kp := fun a u hp z => same_upd h _ _ (w.kp a u hp z)
  nt := w.nt
  mt := fun a ha u z => by
    rcases List.mem_cons.mp ha with x | ha
    · rw [x, upd_same] at z
      rw [← Option.some.inj z]
      exact no
    · rw [upd_ne (w.nm h ha).symm] at z
      exact w.mt a ha u z
  tb := w.tb.ext (same_upd h)
/-- a changed object -/
theorem wd_but (w : Wd e G H M) (hq : q ∈ M) (b : But q H H') (ho : H' q = some o) (no : plainB o = true := by rfl) : Wd e G H' M where
  le := fun a u z => b a u (fun x => by rw [x, (w.mu q hq).1] at z; cases z) (w.le _ _ z)
  mu := fun a ha => by
    obtain ⟨h1, ⟨o1, h2⟩, h3⟩ := w.mu a ha
    refine ⟨h1, ?_, h3⟩
    by_cases x : a = q
    · subst x; exact ⟨_, ho⟩
    · exact ⟨_, b a _ x h2⟩
  nd := w.nd
  dom := fun a ha => by
    by_cases x : a = q
    · rw [x, ho]; simp
    · cases z : H a with
      | none => exact absurd z (w.dom a ha)
      | some u => rw [b a u x z]; simp
  gr := w.gr
  fr := w.fr
  kp := fun a u hp z => by
    have h1 := w.kp a u hp z
    refine b a u (fun x => ?_) h1
    subst x
    rcases (w.mu a hq).2.2 with y | y
    · rw [y] at z; cases z
    · exact hp y
  nt := w.nt
  mt := fun a ha u z => by
    by_cases x : a = q
    · rw [x, ho] at z
      rw [← Option.some.inj z]
      exact no
    · obtain ⟨_, ⟨v, hv⟩, _⟩ := w.mu a ha
      rw [b a v x hv] at z
      rw [← Option.some.inj z]
      exact w.mt a ha v hv
  tb := by
    obtain ⟨_, ⟨v, hv⟩, _⟩ := w.mu q hq
    exact tabs_but w.tb b hv (w.mt q hq v hv)
theorem but_upd : But q H (upd H q o) := fun b u hb h => by rw [upd_ne hb]; exact h
theorem wd_mut (w : Wd e G H M) (hq : q ∈ M) (no : plainB o = true := by rfl) : Wd e G (upd H q o) M := wd_but w hq but_upd upd_same no
theorem wd_same (w : Wd e G H M) (s : Same H H') : Wd e G H' M where
  le := fun a u z => s _ _ (w.le _ _ z)
  mu := fun a ha => by
    obtain ⟨h1, ⟨o1, h2⟩, h3⟩ := w.mu a ha
    exact ⟨h1, ⟨o1, s _ _ h2⟩, h3⟩
  nd := w.nd
  dom := fun a ha => by
    cases z : H a with
    | none => exact absurd z (w.dom a ha)
    | some u => rw [s a u z]; simp
  gr := w.gr
  fr := w.fr
  kp := fun a u hp z => s _ _ (w.kp a u hp z)
  nt := w.nt
  mt := fun a ha u z => by
    obtain ⟨_, ⟨v, hv⟩, _⟩ := w.mu a ha
    rw [s _ _ hv] at z
    rw [← Option.some.inj z]
    exact w.mt a ha v hv
  tb := w.tb.ext s
/-- what is changed no more is told -/
theorem wd_freeze (w : Wd e G H (q :: M)) (h : H q = some o) (h0 : e.H0 q = none) : Wd e (upd G q o) H M ∧ Same G (upd G q o) := by
  have gq := (w.mu q (List.mem_cons_self)).1
  have nq := List.nodup_cons.mp w.nd
  refine ⟨⟨fun a u z => ?_, fun a ha => ?_, nq.2, w.dom, fun a u z => same_upd gq _ _ (w.gr _ _ z), fun a ha => ?_, w.kp, fun a u z => ?_, fun a ha => w.mt a (List.mem_cons_of_mem _ ha), w.tb⟩, same_upd gq⟩
  · by_cases x : a = q
    · subst x; rw [upd_same] at z; rw [← z]; exact h
    · rw [upd_ne x] at z; exact w.le _ _ z
  · obtain ⟨h1, h2, h3⟩ := w.mu a (List.mem_cons_of_mem _ ha)
    rw [upd_ne (show a ≠ q from fun x => nq.1 (by rw [← x]; exact ha))]
    exact ⟨h1, h2, h3⟩
  · have x : a ≠ q := fun z => by rw [z, h0] at ha; exact ha rfl
    rw [upd_ne x]
    exact w.fr a ha
  · by_cases x : a = q
    · rw [x, upd_same] at z
      rw [← Option.some.inj z]
      exact pl_nt (w.mt q List.mem_cons_self o h)
    · rw [upd_ne x] at z
      exact w.nt a u z
theorem wd_drop {M' : List Addr} (w : Wd e G H M) (h : M'.Sublist M) : Wd e G H M' := ⟨w.le, fun a ha => w.mu a (h.subset ha), w.nd.sublist h, w.dom, w.gr, w.fr, w.kp, w.nt, fun a ha => w.mt a (h.subset ha), w.tb⟩
theorem Wd.ne (w : Wd e G H M) (hq : q ∈ M) (h : G p = some o) : p ≠ q := fun z => by rw [z, (w.mu q hq).1] at h; cases h
end
/-- a def that changes nothing hands back what P tells: P of the value and the ghost -/
def Ret (G H : Hp) (P : V → Hp → Prop) (Q : VK) : Prop := ∀ v H' G', Same H H' → Gh G' H' → Same G G' → (∀ a, H a ≠ none → G' a = G a) → P v G' → Q v H'
theorem ret_of {G H G' H' : Hp} {M : List Addr} {P : V → Hp → Prop} {Q : VK} {v : V} (k : Ret G H P Q) (w : Wd ⟨H, G, [], []⟩ G' H' M) (p : P v G') : Q v H' :=
  k v H' G' (fun a o h => w.kp a o (by simp) h) w.gh w.gr w.fr p
/-- a call of such a def -/
theorem ret_use {e : En} {G H : Hp} {M : List Addr} {P : V → Hp → Prop} {Q : VK} (w : Wd e G H M) (k : ∀ v G' H', Wd e G' H' M → Same G G' → Same H H' → P v G' → Q v H') : Ret G H P Q := by
  intro v H' G' s1 s2 s3 fr p
  refine k v G' H' ?_ s3 s1 p
  have w1 := wd_same w s1
  refine ⟨s2.1, fun a ha => ?_, w.nd, w1.dom, fun a o h => s3 _ _ (w.gr _ _ h), fun a ha => by rw [fr a (w.dom a ha)]; exact w.fr a ha, w1.kp, s2.2, w1.mt, w1.tb⟩
  obtain ⟨h1, ⟨o, h2⟩, h3⟩ := w.mu a ha
  obtain ⟨_, h4, _⟩ := w1.mu a ha
  exact ⟨by rw [fr a (some_ne h2)]; exact h1, h4, h3⟩
/-- the pen at p, its cells at c, at most n of them begun -/
def PenAt (p c : Addr) (n : Nat) (H : Hp) : Prop := ∃ (at_ : Nat) (g : Int), H p = some (.lst [.ref c, .int at_, .int g]) ∧ at_ ≤ n ∧ 0 ≤ g
theorem PenAt.more {p c : Addr} {n m : Nat} {H : Hp} (P : PenAt p c n H) (h : n ≤ m) : PenAt p c m H := by
  obtain ⟨a, g, h1, h2, h3⟩ := P
  exact ⟨a, g, h1, Nat.le_trans h2 h, h3⟩
theorem PenAt.same {p c : Addr} {n : Nat} {H H' : Hp} (P : PenAt p c n H) (s : Same H H') : PenAt p c n H' := by
  obtain ⟨a, g, h1, h2⟩ := P
  exact ⟨a, g, s _ _ h1, h2⟩
theorem PenAt.but {p c q : Addr} {n : Nat} {H H' : Hp} (P : PenAt p c n H) (b : But q H H') (h : p ≠ q) : PenAt p c n H' := by
  obtain ⟨a, g, h1, h2⟩ := P
  exact ⟨a, g, b _ _ h h1, h2⟩
def Cells (c : Addr) (G : Hp) : Prop := ∃ ns : List Int, G c = some (.lst (ns.map V.int)) ∧ ns.length ≤ 63
theorem Cells.same {c : Addr} {G G' : Hp} (h : Cells c G) (s : Same G G') : Cells c G' := by
  obtain ⟨ns, h1, h2⟩ := h
  exact ⟨ns, s _ _ h1, h2⟩
/-- a def that takes from the pen alone -/
def RetP (p c : Addr) (n : Nat) (G H : Hp) (P : V → Hp → Prop) (Q : VK) : Prop := ∀ v H' G', But p H H' → PenAt p c n H' → Gh G' H' → Same G G' → (∀ a, H a ≠ none → G' a = G a) → P v G' → Q v H'
theorem retP_of {p c : Addr} {n : Nat} {G H G' H' : Hp} {M : List Addr} {P : V → Hp → Prop} {Q : VK} {v : V} (k : RetP p c n G H P Q) (w : Wd ⟨H, G, [p], []⟩ G' H' M) (hp : PenAt p c n H') (h : P v G') : Q v H' :=
  k v H' G' (fun a o hn h => w.kp a o (by simpa using hn) h) hp w.gh w.gr w.fr h
theorem retP_use {p c : Addr} {n : Nat} {e : En} {G H : Hp} {M : List Addr} {P : V → Hp → Prop} {Q : VK} (w : Wd e G H M) (hp : p ∈ M) (k : ∀ v G' H', Wd e G' H' M → Same G G' → But p H H' → PenAt p c n H' → P v G' → Q v H') : RetP p c n G H P Q := by
  intro v H' G' b P' s2 s3 fr p'
  obtain ⟨a, g, h1, h2⟩ := id P'
  have w1 := wd_but w hp b h1
  refine k v G' H' ⟨s2.1, fun a ha => ?_, w.nd, w1.dom, fun a o h => s3 _ _ (w.gr _ _ h), fun a ha => by rw [fr a (w.dom a ha)]; exact w.fr a ha, w1.kp, s2.2, w1.mt, w1.tb⟩ s3 b P' p'
  obtain ⟨h1, ⟨o, h2⟩, h3⟩ := w.mu a ha
  obtain ⟨_, h4, _⟩ := w1.mu a ha
  exact ⟨by rw [fr a (some_ne h2)]; exact h1, h4, h3⟩
theorem same_at {H H' : Hp} {p : Addr} {o : HO} (s : Same H H') (h : H p = some o) : H' p = some o := s _ _ h
theorem but_at {H H' : Hp} {p q : Addr} {o : HO} (s : But q H H') (n : p ≠ q) (h : H p = some o) : H' p = some o := s _ _ n h
theorem wd_at {e : En} {G H : Hp} {M : List Addr} {p : Addr} {o : HO} (w : Wd e G H M) (h : G p = some o) : H p = some o := w.le _ _ h
theorem same_sqL {K : PySem.W.Frag} {H H' : Hp} {p : Addr} {xs : List V} (s : Same H H') (h : SqL K H p xs) : SqL K H' p xs := s.seq h
theorem wd_sqL {e : En} {G H : Hp} {M : List Addr} {K : PySem.W.Frag} {p : Addr} {xs : List V} (w : Wd e G H M) (h : SqL K G p xs) : SqL K H p xs := w.le.seq h
theorem same_sqT {K : PySem.W.Frag} {H H' : Hp} {p : Addr} {xs : List V} (s : Same H H') (h : SqT K H p xs) : SqT K H' p xs := by
  rcases h with (h | ⟨o, h⟩) | h
  · exact .inl (.inl (s _ _ h))
  · exact .inl (.inr ⟨o, s _ _ h⟩)
  · exact .inr h
theorem wd_sqT {e : En} {G H : Hp} {M : List Addr} {K : PySem.W.Frag} {p : Addr} {xs : List V} (w : Wd e G H M) (h : SqT K G p xs) : SqT K H p xs := same_sqT w.le h
theorem same_dpAll {K : PySem.W.Frag} {H H' : Hp} (s : Same H H') : ∀ (n : Nat), (∀ d x, sizeOf d ≤ n → Dp K H x d → Dp K H' x d) ∧ (∀ ds vs, sizeOf ds ≤ n → DpAll K H vs ds → DpAll K H' vs ds) := by
  intro n
  induction n with
  | zero => exact ⟨fun d x hn h => (by cases d <;> simp at hn), fun ds vs hn h => (by cases ds <;> simp at hn)⟩
  | succ n ih =>
    have h1 : ∀ d x, sizeOf d ≤ n + 1 → Dp K H x d → Dp K H' x d := by
      intro d x hn h
      cases h with
      | non => exact .non
      | bl b => exact .bl b
      | int i => exact .int i
      | str x => exact .str x
      | lst hs ha => exact .lst (s.seq hs) (ih.2 _ _ (by simp at hn; omega) ha)
      | tup hs ha => exact .tup (same_sqT s hs) (ih.2 _ _ (by simp at hn; omega) ha)
    refine ⟨h1, fun ds vs hn h => ?_⟩
    cases h with
    | nil => exact .nil
    | cons a b => exact .cons (h1 _ _ (by simp at hn; omega) a) (ih.2 _ _ (by simp at hn; omega) b)
theorem same_dp {K : PySem.W.Frag} {H H' : Hp} (s : Same H H') {x : V} {d : PyData} (h : Dp K H x d) : Dp K H' x d := (same_dpAll s (sizeOf d)).1 d x (Nat.le_refl _) h
theorem same_dpa {K : PySem.W.Frag} {H H' : Hp} (s : Same H H') {xs : List V} {ds : List PyData} (h : DpAll K H xs ds) : DpAll K H' xs ds := (same_dpAll s (sizeOf ds)).2 ds xs (Nat.le_refl _) h
theorem wd_dp {e : En} {G H : Hp} {M : List Addr} {K : PySem.W.Frag} {x : V} {d : PyData} (w : Wd e G H M) (h : Dp K G x d) : Dp K H x d := same_dp w.le h
section
variable {σ : L2.St} {H : Hp} {i : Nat} {v x y z : V} {ta tb tc te : TE} {t u : TT} {ts tl : TA} {D : Ends} {sa sb : TS} {g : TG} {Qv : VK} {Qa : List V → Hp → Prop} {Qb : Bool → Hp → Prop} {r r' : R2} {K : PySem.W.Frag}
theorem r_var (h : σ[i]? = some (some v)) (q : Qv v H) : tVar i σ H Qv := ⟨v, h, q⟩
theorem r_c (q : Qv v H) : tC v σ H Qv := q
theorem r_op (q : ta σ H fun x H1 => tb σ H1 fun y H2 => r x y H2 Qv) : tOp r ta tb σ H Qv := q
theorem r_un {r : V → Hp → VK → Prop} (q : ta σ H fun x H1 => r x H1 Qv) : tUn r ta σ H Qv := q
theorem r_cb {r : List V → Hp → VK → Prop} (q : ts σ H fun vs H1 => r vs H1 Qv) : tCB r ts σ H Qv := q
theorem r_call {sp : Sp} {dvs : List V} {E : XK} (q : ts σ H fun vs H1 => sp (vs ++ dvs) H1 Qv E) : tCall sp dvs E ts σ H Qv := q
theorem r_call0 {sp : Sp} {E : XK} (q : ts σ H fun vs H1 => sp vs H1 Qv E) : tCall sp [] E ts σ H Qv := by
  unfold tCall
  simp only [List.append_nil]
  exact q
theorem r_nil (q : Qa [] H) : tNil σ H Qa := q
theorem r_cons (q : ta σ H fun x H1 => ts σ H1 fun xs H2 => Qa (x :: xs) H2) : tCons ta ts σ H Qa := q
theorem r_seq (q : sa { D with nx := sb D } σ H) : tSeq sa sb D σ H := q
theorem r_asg (q : te σ H fun x H1 => g x σ H1 D.nx) : tAsg te g D σ H := q
theorem r_name {Q : L2.St → Hp → Prop} (q : Q (σ.set i (some v)) H) : gName i v σ H Q := q
theorem r_ret (q : te σ H D.rt) : tRet te D σ H := q
theorem r_next (q : D.nx σ H) : tNext D σ H := q
theorem r_drop (q : te σ H fun _ H1 => D.nx σ H1) : tDrop te D σ H := q
theorem r_ifS (q : t σ H fun b H1 => if b = true then sa D σ H1 else sb D σ H1) : tIfS t sa sb D σ H := q
theorem r_test (q : te σ H fun x H' => ∃ k, x = .bl k ∧ Qb k H') : tTest te σ H Qb := q
theorem r_tB (q : te σ H fun x H' => ∃ k, x = .bl k ∧ Qb k H') : tB te σ H Qb := q
theorem r_exb {P : Bool → Prop} {b : Bool} (q : P b) : ∃ k, V.bl b = .bl k ∧ P k := ⟨b, rfl, q⟩
theorem r_and (q : t σ H fun c H1 => if c = true then u σ H1 Qb else Qb false H1) : tAnd t u σ H Qb := q
theorem r_or (q : t σ H fun c H1 => if c = true then Qb true H1 else u σ H1 Qb) : tOr t u σ H Qb := q
theorem r_not (q : t σ H fun c H1 => Qb (!c) H1) : tNot t σ H Qb := q
theorem r_andV (q : ta σ H fun x H1 => ∃ c, x = .bl c ∧ if c = true then tb σ H1 Qv else Qv (.bl false) H1) : tAndV ta tb σ H Qv := q
theorem r_orV (q : ta σ H fun x H1 => ∃ c, x = .bl c ∧ if c = true then Qv (.bl true) H1 else tb σ H1 Qv) : tOrV ta tb σ H Qv := q
theorem r_notV (q : ta σ H fun x H1 => ∃ c, x = .bl c ∧ Qv (.bl (!c)) H1) : tNotV ta σ H Qv := q
theorem r_ifE (q : t σ H fun c H1 => if c = true then ta σ H1 Qv else tb σ H1 Qv) : tIf t ta tb σ H Qv := q
theorem r_chain (q : ta σ H fun x H1 => tb σ H1 fun y H2 => r x y H2 fun z H3 => ∃ k, z = .bl k ∧ (if k = true then tc σ H3 fun w' H4 => r' y w' H4 Qv else Qv (.bl false) H3)) : tChain r r' ta tb tc σ H Qv := q
theorem r_eq (h : scal x y = true) (q : Qv (.bl (decide (x = y))) H) : rEq x y H Qv := ⟨h, q⟩
theorem r_gSub {to ti : TE} {s : TSet} {Q : L2.St → Hp → Prop} (q : to σ H fun o H1 => ti σ H1 fun i H2 => s o i v H2 fun H3 => Q σ H3) : gSub to ti s v σ H Q := q
/-- a new object is laid, then R of its address -/
def Lay (n : Nat) (o : HO) (R : VK) (H : Hp) : Prop := n ≤ sizeLine ∧ ∀ p, H p = none → R (.ref p) (upd H p o)
theorem r_lay {e : En} {G : Hp} {M : List Addr} {n : Nat} {o : HO} {R : VK} (w : Wd e G H M) (hl : n ≤ sizeLine) (no : NoT o) (k : ∀ p G' H', H p = none → Wd e G' H' M → Same G G' → G' p = some o → Same H H' → R (.ref p) H') : Lay n o R H :=
  ⟨hl, fun p hp => k p _ _ hp (wd_lay w hp no) (same_upd (w.g hp)) upd_same (same_upd hp)⟩
def LayM (n : Nat) (o : HO) (R : VK) (H : Hp) : Prop := Lay n o R H
theorem r_layM {e : En} {G : Hp} {M : List Addr} {n : Nat} {o : HO} {R : VK} (w : Wd e G H M) (hl : n ≤ sizeLine) (no : plainB o = true) (k : ∀ p H', H p = none → Wd e G H' (p :: M) → H' p = some o → Same H H' → (∀ m ∈ M, p ≠ m) → R (.ref p) H') : LayM n o R H :=
  ⟨hl, fun p hp => k p _ hp (wd_layM w hp no) upd_same (same_upd hp) fun m hm => w.nm hp hm⟩
/-- a list that will be changed -/
def tLstM (ts : TA) : TE := tLst ts
theorem pe_lstM {X : Cx} {es : List Expr} {pos : Pos} (h : PA X es ts) : PE X (.List es pos) (tLstM ts) := pe_lst h
theorem r_lstM (q : ts σ H fun xs H1 => LayM xs.length (.lst xs) Qv H1) : tLstM ts σ H Qv := q
theorem r_tup (q : ts σ H fun xs H1 => Lay xs.length (.tup xs) Qv H1) : tTup ts σ H Qv := q
theorem r_lst (q : ts σ H fun xs H1 => Lay xs.length (.lst xs) Qv H1) : tLst ts σ H Qv := q
theorem opr_or {X : Cx} {f : Value → Value → Sem Value} {r1 r2 : R2} (h1 : OpR X f r1) (h2 : OpR X f r2) : OpR X f (fun x y H Q => r1 x y H Q ∨ r2 x y H Q) := fun pins s σ H x y v u Q I rx ry h =>
  h.elim (fun h => h1 pins s σ H x y v u Q I rx ry h) fun h => h2 pins s σ H x y v u Q I rx ry h
theorem cr_or {X : Cx} {f : Value} {r1 r2 : List V → Hp → VK → Prop} (h1 : CallR X f r1) (h2 : CallR X f r2) : CallR X f (fun xs H Q => r1 xs H Q ∨ r2 xs H Q) := fun pins s σ H xs us Q I r h =>
  h.elim (fun h => h1 pins s σ H xs us Q I r h) fun h => h2 pins s σ H xs us Q I r h
def rStr2 (f : Str → Str → V) : R2 := fun x y H Q => ∃ a b, x = .str a ∧ y = .str b ∧ Q (f a b) H
def rAddS : R2 := fun x y H Q => ∃ i j, x = .str i ∧ y = .str j ∧ i.length + j.length ≤ sizeLine ∧ Q (.str (i ++ j)) H
/-- + : ints, texts, lists -/
def rAdd : R2 := fun x y H Q => rI0 (fun i j => .int (i + j)) x y H Q ∨ (rAddS x y H Q ∨ rCat x y H Q)
theorem q_add {X : Cx} : OpR X (binaryOp .Add) rAdd := opr_or op_add (opr_or op_add_str op_cat)
theorem r_addI {a b : Int} (q : Qv (.int (a + b)) H) : rAdd (.int a) (.int b) H Qv := .inl ⟨a, b, rfl, rfl, q⟩
theorem r_addS {a b : Str} (h : a.length + b.length ≤ sizeLine) (q : Qv (.str (a ++ b)) H) : rAdd (.str a) (.str b) H Qv := .inr (.inl ⟨a, b, rfl, rfl, h, q⟩)
theorem r_addL {a b : Addr} {xs zs : List V} (h1 : H a = some (.lst xs)) (h2 : H b = some (.lst zs)) (q : Lay (xs.length + zs.length) (.lst (xs ++ zs)) Qv H) : rAdd (.ref a) (.ref b) H Qv := .inr (.inr ⟨a, b, xs, zs, rfl, rfl, h1, h2, q⟩)
def rSub : R2 := rI0 fun i j => .int (i - j)
theorem q_sub {X : Cx} : OpR X (binaryOp .Sub) rSub := op_sub
theorem r_sub {a b : Int} (q : Qv (.int (a - b)) H) : rSub (.int a) (.int b) H Qv := ⟨a, b, rfl, rfl, q⟩
def rMul : R2 := rI CMul fun i j => .int (i * j)
theorem q_mul {X : Cx} : OpR X (binaryOp .Mult) rMul := op_mul
theorem r_mul {a b : Int} (c : CMul a b) (q : Qv (.int (a * b)) H) : rMul (.int a) (.int b) H Qv := ⟨a, b, rfl, rfl, c, q⟩
def rFdiv : R2 := rI CDivW fun i j => .int (i / j)
theorem q_fdiv {X : Cx} : OpR X (binaryOp .FloorDiv) rFdiv := op_fdivW
theorem r_fdiv {a b : Int} (c : CDivW a b) (q : Qv (.int (a / b)) H) : rFdiv (.int a) (.int b) H Qv := ⟨a, b, rfl, rfl, c, q⟩
def rMod : R2 := rI (fun _ j => 0 < j) fun i j => .int (i % j)
theorem q_mod {X : Cx} : OpR X (binaryOp .Mod) rMod := op_mod
theorem r_mod {a b : Int} (c : 0 < b) (q : Qv (.int (a % b)) H) : rMod (.int a) (.int b) H Qv := ⟨a, b, rfl, rfl, c, q⟩
def rPow : R2 := rI CPow fun i j => .int (i ^ j.toNat)
theorem q_pow {X : Cx} : OpR X (binaryOp .Pow) rPow := op_pow
theorem r_pow {a b : Int} (c : CPow a b) (q : Qv (.int (a ^ b.toNat)) H) : rPow (.int a) (.int b) H Qv := ⟨a, b, rfl, rfl, c, q⟩
/-- comparisons of ints | of texts -/
def rLtX : R2 := fun x y H Q => rI0 (fun i j => .bl (decide (i < j))) x y H Q ∨ rStr2 (fun a b => .bl (decide (a.cps.toList < b.cps.toList))) x y H Q
theorem q_lt {X : Cx} : OpR X (compareOp .Lt) rLtX := opr_or op_lt op_lt_str
theorem r_lt {a b : Int} (q : Qv (.bl (decide (a < b))) H) : rLtX (.int a) (.int b) H Qv := .inl ⟨a, b, rfl, rfl, q⟩
theorem r_ltS {a b : Str} (q : Qv (.bl (decide (a.cps.toList < b.cps.toList))) H) : rLtX (.str a) (.str b) H Qv := .inr ⟨a, b, rfl, rfl, q⟩
def rLeX : R2 := rI0 fun i j => .bl (decide (i ≤ j))
theorem q_le {X : Cx} : OpR X (compareOp .LtE) rLeX := op_le
theorem r_le {a b : Int} (q : Qv (.bl (decide (a ≤ b))) H) : rLeX (.int a) (.int b) H Qv := ⟨a, b, rfl, rfl, q⟩
def rGtX : R2 := rI0 fun i j => .bl (decide (j < i))
theorem q_gt {X : Cx} : OpR X (compareOp .Gt) rGtX := op_gt
theorem r_gt {a b : Int} (q : Qv (.bl (decide (b < a))) H) : rGtX (.int a) (.int b) H Qv := ⟨a, b, rfl, rfl, q⟩
def rGeX : R2 := rI0 fun i j => .bl (decide (j ≤ i))
theorem q_ge {X : Cx} : OpR X (compareOp .GtE) rGeX := op_ge
theorem r_ge {a b : Int} (q : Qv (.bl (decide (b ≤ a))) H) : rGeX (.int a) (.int b) H Qv := ⟨a, b, rfl, rfl, q⟩
/-- == : scalars, data -/
def rEqX (K : PySem.W.Frag) : R2 := fun x y H Q => rEq x y H Q ∨ rEqD K x y H Q
theorem q_eq {X : Cx} (hu : X.A.units + 64 < cLine) : OpR X (compareOp .Eq) (rEqX X.K) := opr_or op_eq (op_eqD hu)
theorem r_eqS (h : scal x y = true) (q : Qv (.bl (decide (x = y))) H) : rEqX K x y H Qv := .inl ⟨h, q⟩
theorem r_eqD {d e : PyData} (h1 : Dp K H x d) (h2 : Dp K H y e) (s1 : SeqAt.shaped d = true) (s2 : SeqAt.shaped e = true) (q : Qv (.bl (PyData.eqv d e)) H) : rEqX K x y H Qv := .inr ⟨d, e, h1, h2, s1, s2, q⟩
def rNeX (K : PySem.W.Frag) : R2 := fun x y H Q => rNe x y H Q ∨ rNeD K x y H Q
theorem q_ne {X : Cx} (hu : X.A.units + 64 < cLine) : OpR X (compareOp .NotEq) (rNeX X.K) := opr_or op_ne (op_neD hu)
theorem r_neS (h : scal x y = true) (q : Qv (.bl (!decide (x = y))) H) : rNeX K x y H Qv := .inl ⟨h, q⟩
theorem r_neD {d e : PyData} (h1 : Dp K H x d) (h2 : Dp K H y e) (s1 : SeqAt.shaped d = true) (s2 : SeqAt.shaped e = true) (q : Qv (.bl (!PyData.eqv d e)) H) : rNeX K x y H Qv := .inr ⟨d, e, h1, h2, s1, s2, q⟩
theorem r_inL {p : Addr} {xs : List V} (h : SqL K H p xs) (f1 : flatV x = true) (f2 : xs.all flatV = true) (q : Qv (.bl (inV x xs)) H) : rIn K false x (.ref p) H Qv := ⟨p, xs, rfl, .inl h, f1, f2, q⟩
theorem r_inT {p : Addr} {xs : List V} (h : SqT K H p xs) (f1 : flatV x = true) (f2 : xs.all flatV = true) (q : Qv (.bl (inV x xs)) H) : rIn K false x (.ref p) H Qv := ⟨p, xs, rfl, .inr h, f1, f2, q⟩
theorem r_ninL {p : Addr} {xs : List V} (h : SqL K H p xs) (f1 : flatV x = true) (f2 : xs.all flatV = true) (q : Qv (.bl (!inV x xs)) H) : rIn K true x (.ref p) H Qv := ⟨p, xs, rfl, .inl h, f1, f2, q⟩
theorem r_ninT {p : Addr} {xs : List V} (h : SqT K H p xs) (f1 : flatV x = true) (f2 : xs.all flatV = true) (q : Qv (.bl (!inV x xs)) H) : rIn K true x (.ref p) H Qv := ⟨p, xs, rfl, .inr h, f1, f2, q⟩
def rIsN : R2 := fun x y H Q => y = .non ∧ Q (.bl (decide (x = .non))) H
theorem q_isN {X : Cx} : OpR X (compareOp .Is) rIsN := op_isN
theorem r_isN (q : Qv (.bl (decide (x = .non))) H) : rIsN x .non H Qv := ⟨rfl, q⟩
def rNotN : R2 := fun x y H Q => y = .non ∧ Q (.bl (!decide (x = .non))) H
theorem q_notN {X : Cx} : OpR X (compareOp .IsNot) rNotN := op_notN
theorem r_notN (q : Qv (.bl (!decide (x = .non))) H) : rNotN x .non H Qv := ⟨rfl, q⟩
theorem q_ix {X : Cx} : IxR X (rIx X.K) := ix_seq
theorem r_ixL {p : Addr} {xs : List V} {k : Int} (h : SqL K H p xs) (e : atI xs k = some v) (q : Qv v H) : rIx K (.ref p) (.int k) H Qv := .inl ⟨p, xs, k, v, rfl, rfl, h, e, q⟩
theorem r_ixT {p : Addr} {xs : List V} {k : Int} (h : SqT K H p xs) (e : atI xs k = some v) (q : Qv v H) : rIx K (.ref p) (.int k) H Qv := .inr (.inl ⟨p, xs, k, v, rfl, rfl, h, e, q⟩)
theorem r_ixS {z : Str} {k : Int} {c : Nat} (h : z.length ≤ sizeLine) (e : atI z.cps.toList k = some c) (q : Qv (.str ⟨#[c]⟩) H) : rIx K (.str z) (.int k) H Qv := .inr (.inr ⟨z, k, c, rfl, rfl, h, e, q⟩)
theorem r_setM {e : En} {G : Hp} {M : List Addr} {p : Addr} {xs : List V} {k : Int} {j : Nat} {Q : Hp → Prop} (w : Wd e G H M) (hm : p ∈ M) (h : H p = some (.lst xs)) (e' : ixN xs.length k = some j)
    (q : ∀ H', Wd e G H' M → H' p = some (.lst (xs.set j v)) → But p H H' → Q H') : rSetL (.ref p) (.int k) v H Q := ⟨p, xs, k, j, rfl, rfl, h, e', q _ (wd_mut w hm) upd_same but_upd⟩
def rInt1 : List V → Hp → VK → Prop := fun xs H Q => (∃ i, xs = [.int i] ∧ Q (.int i) H) ∨ ∃ k, xs = [.bl k] ∧ Q (.int (if k then 1 else 0)) H
theorem q_int {X : Cx} : CallR X (.type "int") rInt1 := call_int1
theorem r_int {a : Int} (q : Qv (.int a) H) : rInt1 [.int a] H Qv := .inl ⟨a, rfl, q⟩
theorem r_intB {b : Bool} (q : Qv (.int (if b then 1 else 0)) H) : rInt1 [.bl b] H Qv := .inr ⟨b, rfl, q⟩
def rAbs : List V → Hp → VK → Prop := fun xs H Q => ∃ i, xs = [.int i] ∧ Q (.int (if i < 0 then -i else i)) H
theorem q_abs {X : Cx} : CallR X (.builtin "abs") rAbs := call_abs
theorem r_abs {a : Int} (q : Qv (.int (if a < 0 then -a else a)) H) : rAbs [.int a] H Qv := ⟨a, rfl, q⟩
def rLenX (K : PySem.W.Frag) : List V → Hp → VK → Prop := fun xs H Q => ∃ x n, xs = [x] ∧ LenV K x H n ∧ Q (.int n) H
theorem q_len {X : Cx} : CallR X (.builtin "len") (rLenX X.K) := call_len
theorem r_lenL {p : Addr} {xs : List V} (h : SqL K H p xs) (q : Qv (.int (xs.length : Nat)) H) : rLenX K [.ref p] H Qv := ⟨_, _, rfl, .inl ⟨xs, h, rfl⟩, q⟩
theorem r_lenT {p : Addr} {xs : List V} (h : SqT K H p xs) (q : Qv (.int (xs.length : Nat)) H) : rLenX K [.ref p] H Qv := ⟨_, _, rfl, .inr ⟨xs, h, rfl⟩, q⟩
theorem r_lenS {z : Str} (h : z.length ≤ sizeLine) (q : Qv (.int (z.length : Nat)) H) : rLenX K [.str z] H Qv := ⟨_, _, rfl, ⟨h, rfl⟩, q⟩
def rListOf (K : PySem.W.Frag) : List V → Hp → VK → Prop := fun xs H Q => ∃ p ys, xs = [.ref p] ∧ (SqL K H p ys ∨ SqT K H p ys) ∧ ∀ l, H l = none → Q (.ref l) (upd H l (.lst ys))
theorem q_list {X : Cx} : CallR X (.type "list") (rListOf X.K) := call_list_of
theorem r_listL {p : Addr} {ys : List V} (h : SqL K H p ys) (q : Lay 0 (.lst ys) Qv H) : rListOf K [.ref p] H Qv := ⟨p, ys, rfl, .inl h, q.2⟩
theorem r_listT {p : Addr} {ys : List V} (h : SqT K H p ys) (q : Lay 0 (.lst ys) Qv H) : rListOf K [.ref p] H Qv := ⟨p, ys, rfl, .inr h, q.2⟩
theorem r_sl {r : V → Option Int → Option Int → Hp → VK → Prop} {t1 t2 : TO} (q : te σ H fun x H1 => t1 σ H1 fun l H2 => t2 σ H2 fun u H3 => r x l u H3 Qv) : tSl r te t1 t2 σ H Qv := q
theorem r_noPart {Q : Option Int → Hp → Prop} (q : Q none H) : tNoPart σ H Q := q
theorem r_part {Q : Option Int → Hp → Prop} (q : te σ H fun x H1 => ∃ i, x = .int i ∧ Q (some i) H1) : tPart te σ H Q := q
theorem r_exi {P : Int → Prop} {a : Int} (q : P a) : ∃ i, V.int a = .int i ∧ P i := ⟨a, rfl, q⟩
theorem r_slL {p : Addr} {xs : List V} {lo hi : Option Int} (h : SqL K H p xs) (q : Lay 0 (.lst (cutV xs lo hi)) Qv H) : rSlL K (.ref p) lo hi H Qv := ⟨p, xs, rfl, h, q.2⟩
theorem r_repr {d : PyData} (h : Dp K H x d) (s : d.showable = true) (dp : d.depth ≤ 60) (sz : d.shown.length ≤ sizeLine) (q : Qv (.str d.shown) H) : rRepr K [x] H Qv := ⟨x, d, rfl, h, s, dp, sz, q⟩
end
theorem dpa_ints {K : PySem.W.Frag} {H : Hp} : ∀ ns : List Int, DpAll K H (ns.map V.int) (ns.map PyData.int)
  | [] => .nil
  | n :: r => .cons (.int n) (dpa_ints r)
theorem canLay_ints : ∀ ns : List Int, PyData.canLayAll0 (ns.map PyData.int) = true
  | [] => by simp [PyData.canLayAll0]
  | n :: r => by simp [PyData.canLayAll0, PyData.canLay0, canLay_ints r]
theorem depth_ints : ∀ ns : List Int, PyData.depthAll (ns.map PyData.int) = 0
  | [] => by simp [PyData.depthAll]
  | n :: r => by simp [PyData.depthAll, PyData.depth, depth_ints r]
theorem shaped_ints (ns : List Int) : SeqAt.shaped (.list (ns.map PyData.int)) = true := by
  simp [SeqAt.shaped, PyData.canLay0, PyData.depth, canLay_ints, depth_ints]
theorem shaped_nil : SeqAt.shaped (.list []) = true := shaped_ints []
theorem eqv_nil (ds : List PyData) : PyData.eqv (.list ds) (.list []) = ds.isEmpty := by
  cases ds <;> simp [PyData.eqv, PyData.eqvAll]
theorem sq_bound {a c : Int} (h0 : 0 ≤ a) (h1 : a ≤ 1048576) (c0 : 0 ≤ c) (c1 : c ≤ 1048576) : 0 ≤ c * a * a ∧ c * a * a ≤ 1152921504606846976 := by
  have e1 : c * a ≤ 1048576 * 1048576 := Int.mul_le_mul c1 h1 h0 (by decide)
  have e0 : 0 ≤ c * a := Int.mul_nonneg c0 h0
  refine ⟨Int.mul_nonneg e0 h0, ?_⟩
  exact Int.le_trans (Int.mul_le_mul e1 h1 h0 (by decide)) (by decide)
theorem mul_bound {m k : Int} (h0 : 0 ≤ m) (h1 : m ≤ 4294967296) (k0 : 0 ≤ k) (k1 : k ≤ 134217728) : 0 ≤ m * k ∧ m * k ≤ 576460752303423488 :=
  ⟨Int.mul_nonneg h0 k0, Int.le_trans (Int.mul_le_mul h1 k1 k0 (by decide)) (by decide)⟩
theorem at_mod {α : Type} {xs : List α} (a : Int) (h : xs ≠ []) : ∃ j v, (a % (xs.length : Int)) = (j : Nat) ∧ xs[j]? = some v ∧ atI xs (a % (xs.length : Int)) = some v := by
  have h0 : 0 < xs.length := by cases xs with
    | nil => exact absurd rfl h
    | cons _ _ => simp
  have h1 := Int.emod_nonneg a (show (xs.length : Int) ≠ 0 by omega)
  have h2 := Int.emod_lt_of_pos a (show (0 : Int) < xs.length by omega)
  obtain ⟨j, e⟩ := Int.eq_ofNat_of_zero_le h1
  have hj : j < xs.length := by omega
  refine ⟨j, xs[j], e, List.getElem?_eq_getElem hj, ?_⟩
  rw [e]
  exact atI_nat (List.getElem?_eq_getElem hj)
theorem at_mod_ints {ns : List Int} (a : Int) (h : ns ≠ []) : ∃ z, atI (ns.map V.int) (a % ((ns.map V.int).length : Int)) = some (V.int z) := by
  obtain ⟨j, v, _, h2, h3⟩ := at_mod (xs := ns.map V.int) a (by simpa using h)
  rw [List.getElem?_map] at h2
  cases e : ns[j]? with
  | none => rw [e] at h2; cases h2
  | some z =>
    rw [e] at h2
    exact ⟨z, by rw [h3]; exact h2.symm⟩
theorem pow_small {m k c a e : Int} (m0 : 0 ≤ m) (m1 : m ≤ 4294967296) (k0 : 0 ≤ k) (k1 : k ≤ 134217728) (c0 : 0 ≤ c) (c1 : c ≤ 1048576) (a0 : 0 ≤ a) (a1 : a ≤ 1048576) (e0 : 0 ≤ e) (e1 : e ≤ 4294967296) : (m * k + c * a * a + e).natAbs < 2 ^ 64 := by
  have h1 := mul_bound m0 m1 k0 k1
  have h2 := sq_bound a0 a1 c0 c1
  omega
theorem cdiv_lit {i j : Int} (h : 0 < j) (h2 : j < 1073741824) : CDivW i j := wide_div (b := 30) h (by omega) (by decide) (by decide)
def spDraw : Sp := fun vs H Q _ => ∃ (G : Hp) (p c : Addr) (n : Nat) (many : Int), vs = [.ref p, .int many] ∧ Gh G H ∧ G p = none ∧ Cells c G ∧ PenAt p c n H ∧ n ≤ 1048576 ∧ 0 < many ∧ many ≤ 10000000000000000000000000000000000000000000000000000000000000000000000 ∧
  RetP p c (n + 1) G H (fun v _ => ∃ d : Int, v = .int d ∧ 0 ≤ d ∧ d < many) Q
theorem u_draw {e : En} {G H : Hp} {M : List Addr} {p c : Addr} {n : Nat} {many : Int} {Q : VK} {E : XK} (w : Wd e G H M) (hm : p ∈ M) (hc : Cells c G) (P : PenAt p c n H) (hn : n ≤ 1048576) (h0 : 0 < many)
    (hb : many ≤ 10000000000000000000000000000000000000000000000000000000000000000000000) (k : ∀ (d : Int) (G' H' : Hp), Wd e G' H' M → Same G G' → But p H H' → PenAt p c (n + 1) H' → 0 ≤ d → d < many → Q (.int d) H') : spDraw [.ref p, .int many] H Q E :=
  ⟨G, p, c, n, many, rfl, w.gh, (w.mu p hm).1, hc, P, hn, h0, hb, retP_use w hm fun v G' H' w' s b P' ⟨d, e, h1, h2⟩ => by subst e; exact k d G' H' w' s b P' h1 h2⟩
theorem cutV_ints (ns : List Int) (lo hi : Option Int) : ∃ ms : List Int, cutV (ns.map V.int) lo hi = ms.map V.int := by
  unfold cutV
  exact ⟨_, by rw [← List.map_drop, ← List.map_take]⟩
/-- the pen is made -/
def spPen (K : PySem.W.Frag) : Sp := fun vs H Q _ => ∃ (G : Hp) (a : Addr) (ns : List Int), vs = [.ref a] ∧ Gh G H ∧ SqL K G a (ns.map V.int) ∧ ns.length ≤ 63 ∧
  ∀ (p c : Addr) (G' H' : Hp), Same H H' → Gh G' H' → Same G G' → (∀ a, H a ≠ none → G' a = G a) → G' p = none → H p = none → Cells c G' → PenAt p c 0 H' → Q (.ref p) H'
theorem wd_grow {e : En} {G H G' H' : Hp} {M : List Addr} {p : Addr} {o : HO} (w : Wd e G H M) (s1 : Same H H') (s2 : Gh G' H') (s3 : Same G G') (fr : ∀ a, H a ≠ none → G' a = G a) (gp : G' p = none) (hp : H p = none) (ho : H' p = some o)
    (no : plainB o = true := by rfl) : Wd e G' H' (p :: M) := by
  have w1 := wd_same w s1
  refine ⟨s2.1, fun a ha => ?_, List.nodup_cons.mpr ⟨fun z => w.nm hp z rfl, w.nd⟩, w1.dom, fun a o h => s3 _ _ (w.gr _ _ h), fun a ha => by rw [fr a (w.dom a ha)]; exact w.fr a ha, w1.kp, s2.2, fun a ha u z => ?_, w1.tb⟩
  · rcases List.mem_cons.mp ha with x | ha
    · subst x
      exact ⟨gp, ⟨o, ho⟩, .inl (w.n0 hp)⟩
    · obtain ⟨h1, ⟨o, h2⟩, h3⟩ := w.mu a ha
      obtain ⟨_, h4, _⟩ := w1.mu a ha
      exact ⟨by rw [fr a (some_ne h2)]; exact h1, h4, h3⟩
  · rcases List.mem_cons.mp ha with x | ha
    · rw [x, ho] at z
      rw [← Option.some.inj z]
      exact no
    · exact w1.mt a ha u z
theorem u_pen {K : PySem.W.Frag} {e : En} {G H : Hp} {M : List Addr} {a : Addr} {ns : List Int} {Q : VK} {E : XK} (w : Wd e G H M) (h : SqL K G a (ns.map V.int)) (hl : ns.length ≤ 63)
    (k : ∀ (p c : Addr) (G' H' : Hp), Wd e G' H' (p :: M) → Same G G' → Same H H' → Cells c G' → PenAt p c 0 H' → Q (.ref p) H') : spPen K [.ref a] H Q E :=
  ⟨G, a, ns, rfl, w.gh, h, hl, fun p c G' H' s1 s2 s3 fr gp hp hc P => by
    obtain ⟨_, _, h1, _⟩ := id P
    exact k p c G' H' (wd_grow w s1 s2 s3 fr gp hp h1) s3 s1 hc P⟩
/-- what can be picked from -/
def IsSq (K : PySem.W.Frag) (G : Hp) (s : V) (xs : List V) : Prop := (∃ l, s = .ref l ∧ (SqL K G l xs ∨ SqT K G l xs)) ∨ ∃ z : Str, s = .str z ∧ z.length ≤ 1000 ∧ xs = z.cps.toList.map fun c => V.str ⟨#[c]⟩
def spPick (K : PySem.W.Frag) : Sp := fun vs H Q _ => ∃ (G : Hp) (p c : Addr) (n : Nat) (s : V) (xs : List V), vs = [.ref p, s] ∧ Gh G H ∧ G p = none ∧ Cells c G ∧ PenAt p c n H ∧ n ≤ 1048576 ∧ IsSq K G s xs ∧ xs ≠ [] ∧ xs.length ≤ 1000000 ∧
  RetP p c (n + 1) G H (fun v _ => v ∈ xs) Q
theorem u_pick {K : PySem.W.Frag} {e : En} {G H : Hp} {M : List Addr} {p c : Addr} {n : Nat} {s : V} {xs : List V} {Q : VK} {E : XK} (w : Wd e G H M) (hm : p ∈ M) (hc : Cells c G) (P : PenAt p c n H) (hn : n ≤ 1048576) (hs : IsSq K G s xs) (h0 : xs ≠ []) (hb : xs.length ≤ 1000000)
    (k : ∀ (v : V) (G' H' : Hp), Wd e G' H' M → Same G G' → But p H H' → PenAt p c (n + 1) H' → v ∈ xs → Q v H') : spPick K [.ref p, s] H Q E :=
  ⟨G, p, c, n, s, xs, rfl, w.gh, (w.mu p hm).1, hc, P, hn, hs, h0, hb, retP_use w hm fun v G' H' w' s b P' h => k v G' H' w' s b P' h⟩
theorem same_ty {K : PySem.W.Frag} {H H' : Hp} {x : V} {t : Value} (s : Same H H') (h : TyX K H x t) : TyX K H' x t := by
  cases h with
  | base b =>
    cases b with
    | non => exact .base .non
    | bl y => exact .base (.bl y)
    | int i => exact .base (.int i)
    | str y => exact .base (.str y)
    | flt y => exact .base (.flt y)
    | lst e => exact .base (.lst (s _ _ e))
    | frz e => exact .base (.frz (s _ _ e))
    | tup e => exact .base (.tup (s _ _ e))
    | dK e => exact .base (.dK (s _ _ e))
    | dT e => exact .base (.dT (s _ _ e))
    | ins e cl ha hn htk hm => exact .base (.ins (s _ _ e) cl ha hn htk hm)
  | byt y => exact .byt y
  | set e => exact .set (s _ _ e)
  | kList e c => exact .kList e c
  | kTuple e c => exact .kTuple e c
  | kDict e c => exact .kDict e c
  | fTuple e => exact .fTuple (s _ _ e)
  | fDict e => exact .fDict (s _ _ e)
theorem r_isi {K : PySem.W.Frag} {H : Hp} {x : V} {n : String} {t : Value} {b : Bool} {Qv : VK} (h : TyX K H x t) (e : PySem.W.kitOne K t (.type n) = some b) (q : Qv (.bl b) H) : rIsi K [x, .ty n] H Qv := ⟨x, .ty n, t, .type n, b, rfl, .ty n, h, e, q⟩
theorem r_isiC {K : PySem.W.Frag} {H : Hp} {x : V} {C : Addr} {t : Value} {b : Bool} {Qv : VK} (h : TyX K H x t) (e : PySem.W.kitOne K t (.ref C) = some b) (q : Qv (.bl b) H) : rIsi K [x, .ref C] H Qv := ⟨x, .ref C, t, .ref C, b, rfl, .own C, h, e, q⟩
end Q
namespace Q
open PySem PySem.Spec PyProof.Rows L2
abbrev FnP (K : PySem.W.Frag) (x qual : Str) (st : Stmt) (dvs : List V) (f : Addr) (fd : FuncData) : Prop := FunD K x qual (defArgs st) (defBody st) (defScope st) dvs [] f fd
structure Df (P : Program) (w : World) (K : PySem.W.Frag) (mg : Str → Option Value) (base : Heap) (CX : CXT) (k : Nat) (x : Str) (dvs : List V) (sp : Sp) : Prop where
  ex : ∃ (f : Addr) (fd : FuncData) (ps : List Str) (ds : List Value), mg x = some (.ref f) ∧ PySem.W.keepIn K (.ref f) = true ∧ Binds K fd ps ds ∧ Vals dvs ds ∧ FnOk P w K mg base CX k f fd ps sp
structure DfA (P : Program) (w : World) (K : PySem.W.Frag) (mg : Str → Option Value) (base : Heap) (CX : CXT) (k : Nat) (x : Str) (dvs : List V) (sp : Sp) : Prop where
  ex : ∃ (f : Addr) (fd : FuncData) (ps : List Str) (ds : List Value), mg x = some (.ref f) ∧ PySem.W.keepIn K (.ref f) = true ∧ Binds K fd ps ds ∧ Vals dvs ds ∧ FnA P w K mg base CX k f fd ps sp
section
variable {X : Cx} {CX : CXT} {k j : Nat} {sp : Sp} {dvs : List V} {E : XK} {x : Str} {e : Expr} {es : List Expr} {t : TA} {pos p : Pos}
theorem pe_callD (D : Df X.prog X.w X.K X.mg X.base CX k x dvs sp) (hr : Room j X.A) (hx : Passes CX X E) (ha : PA X (e :: es) t) (hj : k ≤ j := by decide) (hg : Gl X x := by rfl)
    (hdb : (x == ("__debug__" : Str)) = false := by decide) (he : starEach (e :: es) X.env = (false, eval e X.env) :: starEach es X.env := by rfl) (hpl : (backTo pos (starEach es X.env)).any (·.1) = false := by rfl) :
    PE X (.Call (.Name x p) (e :: es) [] pos) (tCall sp dvs E t) := by
  obtain ⟨f, fd, ps, ds, h1, h2, h3, h4, h5⟩ := D.ex
  exact pe_call h5 (hr.mono hj) hg h1 h2 h3 h4 hx ha hdb he hpl
theorem pe_callDA (D : DfA X.prog X.w X.K X.mg X.base CX k x dvs sp) (g : G0 X.A) (hr : Room j X.A) (hx : Passes CX X E) (ha : PA X (e :: es) t) (hj : k ≤ j := by decide) (hg : Gl X x := by rfl)
    (hdb : (x == ("__debug__" : Str)) = false := by decide) (he : starEach (e :: es) X.env = (false, eval e X.env) :: starEach es X.env := by rfl) (hpl : (backTo pos (starEach es X.env)).any (·.1) = false := by rfl) :
    PE X (.Call (.Name x p) (e :: es) [] pos) (tCall sp dvs E t) := by
  obtain ⟨f, fd, ps, ds, h1, h2, h3, h4, h5⟩ := D.ex
  exact pe_callA h5 g (hr.mono hj) hg h1 h2 h3 h4 hx ha hdb he hpl
end
section
variable {P : Program} {w : World} {K : PySem.W.Frag} {mg : Str → Option Value} {base : Heap} {x qual : Str} {st : Stmt} {f : Addr} {fd : FuncData} {N ps : List Str} {k : Nat} {sp : Sp} {dvs : List V}
/-- a def from which nothing is raised -/
theorem fnP_ok (F : FnP K x qual st dvs f fd) (S : FnScope N ps (defScope st)) (len : ∀ vs H Q E, sp vs H Q E → vs.length = ps.length)
    (body : ∀ (cdv : Value) (A : Around) (outer : List Env) (s : Shared) (H : Hp) (vs : List V) (Q : VK) (E : XK), Room k (A.deeper (envOfC qual (defScope st) s.heap.objs.size f cdv)) → sp vs H Q E →
      ∃ t, PSs (cxOf CX0 P w K mg base N qual (defScope st) f cdv A outer s H E).nox (defBody st) t ∧ t { nx := fun _ H' => Q .non H', rt := Q } (start N vs) H) :
    FnOk P w K mg base CX0 (k + 1) f fd ps sp := FunD.ok F S len fun cdv A outer s H vs Q E hr h => by
  obtain ⟨t, h1, q⟩ := body cdv A outer s H vs Q E hr h
  exact ⟨t, h1.nox, q⟩
theorem df_of {CX : CXT} (F : FnP K x qual st [] f fd) (hm : mg x = some (.ref f)) (G : FnOk P w K mg base CX k f fd ps sp)
    (b : ∀ (kV doc pm : Value) (an : Option Addr) (cdv ct : Value) (us : List Value), us.length = ps.length → bindArgs (PySem.W.fnOf x qual (defArgs st) (defBody st) (defScope st) .none kV doc pm an cdv ct) ⟨us, []⟩ = pure (ps.zip us)) :
    Df P w K mg base CX k x [] sp := ⟨f, fd, ps, [], hm, F.kp, F.bindsN b, .nil, G⟩
theorem dfA_of {CX : CXT} (F : FnP K x qual st [] f fd) (hm : mg x = some (.ref f)) (G : FnA P w K mg base CX k f fd ps sp)
    (b : ∀ (kV doc pm : Value) (an : Option Addr) (cdv ct : Value) (us : List Value), us.length = ps.length → bindArgs (PySem.W.fnOf x qual (defArgs st) (defBody st) (defScope st) .none kV doc pm an cdv ct) ⟨us, []⟩ = pure (ps.zip us)) :
    DfA P w K mg base CX k x [] sp := ⟨f, fd, ps, [], hm, F.kp, F.bindsN b, .nil, G⟩
end
end Q
namespace Q
open PySem PySem.Spec PyProof.Rows L2
def ForGo (J : It) (g : TG) (tb : TS) (D : Ends) (σ : L2.St) (H : Hp) : Prop := ∃ W : Nat → Nat → L2.St → Hp → Prop, (∃ m, W 0 m σ H) ∧ ∀ i m σ H, W i m σ H →
  (J.stop i H ∧ D.nx σ H) ∨ (J.go i H ∧ ∃ N : L2.St → Hp → Prop, (∀ σ' H', N σ' H' → ∃ m', m' < m ∧ W (i + 1) m' σ' H') ∧ ∀ x H', J.yld i H x H' → g x σ H' fun σ2 H2 => tb { D with nx := N, ct := N, bk := D.nx } σ2 H2)
theorem r_for {wi : TI} {g : TG} {tb : TS} {D : Ends} {σ : L2.St} {H : Hp} (q : wi σ H fun J H1 => ForGo J g tb D σ H1) : tFor wi g tb D σ H := q
theorem for_go {J : It} {n : Nat} {G : Hp → Prop} {Y : Nat → Hp → V → Hp → Prop} {g : TG} {tb : TS} {D : Ends} {σ : L2.St} {H : Hp} (w : Walk J n G Y) (Pv : Nat → L2.St → Hp → Prop) (h0 : Pv 0 σ H) (hG : ∀ i σ H, i ≤ n → Pv i σ H → G H)
    (hs : ∀ i x σ H H', i < n → Pv i σ H → Y i H x H' → g x σ H' fun σ2 H2 => tb { D with nx := Pv (i + 1), ct := Pv (i + 1), bk := D.nx } σ2 H2) (hd : ∀ σ H, Pv n σ H → D.nx σ H) : ForGo J g tb D σ H := for_it w Pv h0 hG hs hd
def LcGo (J : It) (g : TG) (tt : TT) (te : TE) (vs : List Nat) (σ : L2.St) (Q : VK) (H1 : Hp) : Prop := ∀ D, H1 D = none → ∃ W : Nat → Nat → Hp → Prop, (∃ m, W 0 m (upd H1 D (.lst []))) ∧ ∀ i m H, W i m H →
  (J.stop i H ∧ Q (.ref D) H) ∨ (J.go i H ∧ ∃ Nx : Hp → Prop, (∀ H', Nx H' → ∃ m', m' < m ∧ W (i + 1) m' H') ∧ ∀ x H', J.yld i H x H' → g x (wipe σ vs) H' fun σ2 H2 => wipe σ2 vs = wipe σ vs ∧ tt σ2 H2 fun b H3 =>
    if b = true then te σ2 H3 fun y H4 => ∃ acc, H4 D = some (.lst acc) ∧ acc.length < sizeLine ∧ Nx (upd H4 D (.lst (acc ++ [y]))) else Nx H3)
theorem r_lc {wi : TI} {g : TG} {tt : TT} {te : TE} {vs : List Nat} {σ : L2.St} {H : Hp} {Q : VK} (q : wi σ H fun J H1 => LcGo J g tt te vs σ Q H1) : tLc wi g tt te vs σ H Q := q
/-- a comprehension on its way: D the new list's place, acc what it holds, Gi the ghost -/
def LcP (e : En) (G : Hp) (M : List Addr) (R : Nat → List V → Hp → Hp → Prop) (Dd : Addr) (i : Nat) (H : Hp) : Prop := ∃ acc Gi, Wd e Gi H (Dd :: M) ∧ Same G Gi ∧ H Dd = some (.lst acc) ∧ acc.length ≤ i ∧ R i acc Gi H
def LcAdd (Dd : Addr) (P : Hp → Prop) : VK := fun y H4 => ∃ acc, H4 Dd = some (.lst acc) ∧ acc.length < sizeLine ∧ P (upd H4 Dd (.lst (acc ++ [y])))
def LcT (Dd : Addr) (P : Hp → Prop) (tt : TT) (te : TE) (vs : List Nat) (σ : L2.St) : L2.St → Hp → Prop := fun σ2 H2 => wipe σ2 vs = wipe σ vs ∧ tt σ2 H2 fun b H3 => if b = true then te σ2 H3 (LcAdd Dd P) else P H3
theorem r_lcT {Dd : Addr} {P : Hp → Prop} {tt : TT} {te : TE} {vs : List Nat} {σ σ2 : L2.St} {H : Hp} (h : wipe σ2 vs = wipe σ vs) (q : tt σ2 H fun b H3 => if b = true then te σ2 H3 (LcAdd Dd P) else P H3) : LcT Dd P tt te vs σ σ2 H := ⟨h, q⟩
theorem r_yes {σ : L2.St} {H : Hp} {Q : Bool → Hp → Prop} (q : Q true H) : tYes σ H Q := q
theorem r_lcAdd {e : En} {G Gy H4 : Hp} {M : List Addr} {R : Nat → List V → Hp → Hp → Prop} {Dd : Addr} {i : Nat} {acc : List V} {y : V} (w : Wd e Gy H4 (Dd :: M)) (s : Same G Gy) (h : H4 Dd = some (.lst acc)) (hl : acc.length ≤ i) (hi : i ≤ 1000000)
    (k : ∀ H5, Wd e Gy H5 (Dd :: M) → But Dd H4 H5 → R (i + 1) (acc ++ [y]) Gy H5) : LcAdd Dd (LcP e G M R Dd (i + 1)) y H4 := by
  have w5 := wd_mut (o := .lst (acc ++ [y])) w List.mem_cons_self
  refine ⟨acc, h, Nat.lt_of_le_of_lt (Nat.le_trans hl hi) (by decide), _, Gy, w5, s, upd_same, ?_, k _ w5 but_upd⟩
  rw [List.length_append]
  exact Nat.add_le_add_right hl 1
theorem lc_go {e : En} {G H1 : Hp} {M : List Addr} {J : It} {n : Nat} {Gd : Hp → Prop} {Y : Nat → Hp → V → Hp → Prop} {g : TG} {tt : TT} {te : TE} {vs : List Nat} {σ : L2.St} {Q : VK} (w : Wd e G H1 M) (hw : Walk J n Gd Y) (R : Nat → List V → Hp → Hp → Prop)
    (h0 : ∀ (Dd : Addr) (H : Hp), Wd e G H (Dd :: M) → Same H1 H → (∀ m ∈ M, Dd ≠ m) → R 0 [] G H)
    (hG : ∀ i acc Gi H, Wd e Gi H M → Same G Gi → R i acc Gi H → Gd H)
    (hs : ∀ (Dd : Addr) i acc Gi H x H', i < n → acc.length ≤ i → Wd e Gi H (Dd :: M) → Same G Gi → H Dd = some (.lst acc) → (∀ m ∈ M, Dd ≠ m) → R i acc Gi H → Y i H x H' → g x (wipe σ vs) H' (LcT Dd (LcP e G M R Dd (i + 1)) tt te vs σ))
    (hd : ∀ (p : Addr) acc Gi Gp H, acc.length ≤ n → Wd e Gp H M → Same G Gp → Same Gi Gp → Gp p = some (.lst acc) → R n acc Gi H → Q (.ref p) H) : LcGo J g tt te vs σ Q H1 := by
  intro Dd hD
  have w1 := wd_layM (o := .lst []) w hD
  have nm : ∀ m ∈ M, Dd ≠ m := fun m hm => w.nm hD hm
  refine lc_it hw (LcP e G M R Dd) ⟨[], G, w1, Same.refl _, upd_same, Nat.le_refl _, h0 Dd _ w1 (same_upd hD) nm⟩ (fun i H _ ⟨acc, Gi, w2, s2, _, _, r⟩ => hG i acc Gi H (wd_drop w2 (List.sublist_cons_self _ _)) s2 r) (fun i x H H' hi ⟨acc, Gi, w2, s2, h2, l2, r⟩ y => hs Dd i acc Gi H x H' hi l2 w2 s2 h2 nm r y) fun H ⟨acc, Gi, w2, s2, h2, l2, r⟩ => ?_
  obtain ⟨w3, s3⟩ := wd_freeze w2 h2 (w.n0 hD)
  exact hd Dd acc Gi _ H l2 w3 (s2.trans s3) s3 upd_same r
theorem r_iList {K : PySem.W.Frag} {tl : TE} {σ : L2.St} {H : Hp} {R : It → Hp → Prop} (q : tl σ H fun x H1 => ∃ a, x = .ref a ∧ (∃ xs, SqL K H1 a xs) ∧ R (Itl K a) H1) : iList K tl σ H R := q
theorem r_iTup {K : PySem.W.Frag} {tl : TE} {σ : L2.St} {H : Hp} {R : It → Hp → Prop} (q : tl σ H fun x H1 => ∃ a, x = .ref a ∧ (∃ xs, SqT K H1 a xs) ∧ R (Itt K a) H1) : iTup K tl σ H R := q
theorem r_iListR {K : PySem.W.Frag} {H : Hp} {R : Addr → Prop} {a : Addr} {xs : List V} (h : SqL K H a xs) (q : R a) : ∃ b, V.ref a = .ref b ∧ (∃ xs, SqL K H b xs) ∧ R b := ⟨a, rfl, ⟨xs, h⟩, q⟩
theorem r_iTupR {K : PySem.W.Frag} {H : Hp} {R : Addr → Prop} {a : Addr} {xs : List V} (h : SqT K H a xs) (q : R a) : ∃ b, V.ref a = .ref b ∧ (∃ xs, SqT K H b xs) ∧ R b := ⟨a, rfl, ⟨xs, h⟩, q⟩
theorem r_iStr {te : TE} {σ : L2.St} {H : Hp} {R : It → Hp → Prop} (q : te σ H fun v H1 => ∃ x, v = .str x ∧ R (Its x) H1) : iStr te σ H R := q
theorem r_exs {P : Str → Prop} {a : Str} (q : P a) : ∃ x, V.str a = .str x ∧ P x := ⟨a, rfl, q⟩
theorem r_rng1 {ta : TA} {σ : L2.St} {H : Hp} {R : It → Hp → Prop} (q : ta σ H fun vs H1 => ∃ j : Int, vs = [.int j] ∧ -(2 ^ 62) ≤ j ∧ j < 2 ^ 62 ∧ R (Itr 0 j.toNat) H1) : iRng1 ta σ H R := q
theorem r_rng1R {P : Int → Prop} {j : Int} (h1 : -(2 ^ 62) ≤ j) (h2 : j < 2 ^ 62) (q : P j) : ∃ i : Int, [V.int j] = [.int i] ∧ -(2 ^ 62) ≤ i ∧ i < 2 ^ 62 ∧ P i := ⟨j, rfl, h1, h2, q⟩
theorem r_rng2 {ta : TA} {σ : L2.St} {H : Hp} {R : It → Hp → Prop} (q : ta σ H fun vs H1 => ∃ i j : Int, vs = [.int i, .int j] ∧ (-(2 ^ 62) ≤ i ∧ i < 2 ^ 62 ∧ -(2 ^ 62) ≤ j ∧ j < 2 ^ 62) ∧ R (Itr i (j - i).toNat) H1) : iRng2 ta σ H R := q
theorem r_rng2R {P : Int → Int → Prop} {i j : Int} (h : -(2 ^ 62) ≤ i ∧ i < 2 ^ 62 ∧ -(2 ^ 62) ≤ j ∧ j < 2 ^ 62) (q : P i j) : ∃ a b : Int, [V.int i, V.int j] = [.int a, .int b] ∧ (-(2 ^ 62) ≤ a ∧ a < 2 ^ 62 ∧ -(2 ^ 62) ≤ b ∧ b < 2 ^ 62) ∧ P a b := ⟨i, j, rfl, h, q⟩
theorem r_iEnum {K : PySem.W.Frag} {ta : TA} {σ : L2.St} {H : Hp} {R : It → Hp → Prop} (q : ta σ H fun vs H1 => ∃ a xs, vs = [.ref a] ∧ SqL K H1 a xs ∧ R (Ite K a) H1) : iEnum K ta σ H R := q
theorem r_iEnumR {K : PySem.W.Frag} {H : Hp} {R : Addr → Prop} {a : Addr} {xs : List V} (h : SqL K H a xs) (q : R a) : ∃ b xs, [V.ref a] = [.ref b] ∧ SqL K H b xs ∧ R b := ⟨a, xs, rfl, h, q⟩
def rInSign : R2 := fun x y H Q => ∃ (c : Nat) (z : Str), x = .str ⟨#[c]⟩ ∧ y = .str z ∧ Q (.bl (decide (c ∈ z.cps.toList))) H
theorem q_inSign {X : Cx} : OpR X (compareOp .In) rInSign := op_in_sign
theorem r_inSign {c : Nat} {z : Str} {H : Hp} {Qv : VK} (q : Qv (.bl (decide (c ∈ z.cps.toList))) H) : rInSign (.str ⟨#[c]⟩) (.str z) H Qv := ⟨c, z, rfl, rfl, q⟩
theorem r_all {K : PySem.W.Frag} {H : Hp} {a : Addr} {bs : List Bool} {Qv : VK} (h : SqL K H a (bs.map V.bl)) (q : Qv (.bl (bs.all id)) H) : rAll K [.ref a] H Qv := ⟨a, bs, rfl, h, q⟩
/-- a name of the module -/
def Gc (mg : Str → Option Value) (x : Str) (v : V) : Prop := ∃ u, mg x = some u ∧ RelV v u
theorem pe_gc {X : Cx} {x : Str} {v : V} {pos : Pos} (h : Gc X.mg x v) (hg : Gl X x := by rfl) (hd : (x == ("__debug__" : Str)) = false := by decide) : PE X (.Name x pos) (tC v) := by
  obtain ⟨u, h1, h2⟩ := h
  exact pe_glob hg h1 h2 hd
/-- the built-ins that the texts ask for -/
structure Bi (mg : Str → Option Value) : Prop where
  int : mg "int" = none
  len : mg "len" = none
  abs : mg "abs" = none
  list : mg "list" = none
  range : mg "range" = none
  repr : mg "repr" = none
  str : mg "str" = none
  isinstance : mg "isinstance" = none
  all : mg "all" = none
  any : mg "any" = none
  bool : mg "bool" = none
  tuple : mg "tuple" = none
  sorted : mg "sorted" = none
  set : mg "set" = none
  dict : mg "dict" = none
  enumerate : mg "enumerate" = none
  zip : mg "zip" = none
  min : mg "min" = none
  max : mg "max" = none
  ValueError : mg "ValueError" = none
def isI : V → Bool
  | .int _ => true
  | _ => false
def isB : V → Bool
  | .bl _ => true
  | _ => false
def isS : V → Bool
  | .str _ => true
  | _ => false
/-- what isinstance says of a value, int, bool and str asked -/
structure Kd (K : PySem.W.Frag) (G : Hp) (x : V) (t : Value) : Prop where
  ty : TyX K G x t
  int : PySem.W.kitOne K t (.type "int") = some (isI x || isB x)
  bool : PySem.W.kitOne K t (.type "bool") = some (isB x)
  str : PySem.W.kitOne K t (.type "str") = some (isS x)
section
variable {K : PySem.W.Frag} {G G' : Hp}
theorem Kd.same {x : V} {t : Value} (h : Kd K G x t) (s : Same G G') : Kd K G' x t := ⟨same_ty s h.ty, h.int, h.bool, h.str⟩
theorem kd_int (i : Int) : Kd K G (.int i) (.type "int") := ⟨.base (.int i), kit_ty (show kitB "int" "int" = some true from by decide +kernel), kit_ty (show kitB "int" "bool" = some false from by decide +kernel), kit_ty (show kitB "int" "str" = some false from by decide +kernel)⟩
theorem kd_bl (b : Bool) : Kd K G (.bl b) (.type "bool") := ⟨.base (.bl b), kit_ty (show kitB "bool" "int" = some true from by decide +kernel), kit_ty (show kitB "bool" "bool" = some true from by decide +kernel), kit_ty (show kitB "bool" "str" = some false from by decide +kernel)⟩
theorem kd_str (z : Str) : Kd K G (.str z) (.type "str") := ⟨.base (.str z), kit_ty (show kitB "str" "int" = some false from by decide +kernel), kit_ty (show kitB "str" "bool" = some false from by decide +kernel), kit_ty (show kitB "str" "str" = some true from by decide +kernel)⟩
theorem kd_non : Kd K G .non (.type "NoneType") := ⟨.base .non, kit_ty (show kitB "NoneType" "int" = some false from by decide +kernel), kit_ty (show kitB "NoneType" "bool" = some false from by decide +kernel), kit_ty (show kitB "NoneType" "str" = some false from by decide +kernel)⟩
theorem kd_ref {a : Addr} {n : String} (h : TyX K G (.ref a) (.type n)) (h1 : kitB n "int" = some false) (h2 : kitB n "bool" = some false) (h3 : kitB n "str" = some false) : Kd K G (.ref a) (.type n) := ⟨h, kit_ty h1, kit_ty h2, kit_ty h3⟩
theorem kd_lst {a : Addr} {xs : List V} (h : G a = some (.lst xs)) : Kd K G (.ref a) (.type "list") := kd_ref (.base (.lst h)) (by decide +kernel) (by decide +kernel) (by decide +kernel)
theorem kd_tup {a : Addr} {xs : List V} (h : G a = some (.tup xs)) : Kd K G (.ref a) (.type "tuple") := kd_ref (.base (.tup h)) (by decide +kernel) (by decide +kernel) (by decide +kernel)
theorem kd_dK {a : Addr} {xs : List (Key × V)} (h : G a = some (.dK xs)) : Kd K G (.ref a) (.type "dict") := kd_ref (.base (.dK h)) (by decide +kernel) (by decide +kernel) (by decide +kernel)
end
theorem r_isi_int_int {K : PySem.W.Frag} {H : Hp} {Qv : VK} {i : Int} (q : Qv (.bl true) H) : rIsi K [(.int i), .ty "int"] H Qv := ⟨(.int i), .ty "int", .type "int", .type "int", true, rfl, .ty "int", .base (.int i), kit_ty (by decide +kernel), q⟩
theorem r_isi_int_bool {K : PySem.W.Frag} {H : Hp} {Qv : VK} {i : Int} (q : Qv (.bl false) H) : rIsi K [(.int i), .ty "bool"] H Qv := ⟨(.int i), .ty "bool", .type "int", .type "bool", false, rfl, .ty "bool", .base (.int i), kit_ty (by decide +kernel), q⟩
theorem r_isi_int_str {K : PySem.W.Frag} {H : Hp} {Qv : VK} {i : Int} (q : Qv (.bl false) H) : rIsi K [(.int i), .ty "str"] H Qv := ⟨(.int i), .ty "str", .type "int", .type "str", false, rfl, .ty "str", .base (.int i), kit_ty (by decide +kernel), q⟩
theorem r_isi_int_list {K : PySem.W.Frag} {H : Hp} {Qv : VK} {i : Int} (q : Qv (.bl false) H) : rIsi K [(.int i), .ty "list"] H Qv := ⟨(.int i), .ty "list", .type "int", .type "list", false, rfl, .ty "list", .base (.int i), kit_ty (by decide +kernel), q⟩
theorem r_isi_int_tuple {K : PySem.W.Frag} {H : Hp} {Qv : VK} {i : Int} (q : Qv (.bl false) H) : rIsi K [(.int i), .ty "tuple"] H Qv := ⟨(.int i), .ty "tuple", .type "int", .type "tuple", false, rfl, .ty "tuple", .base (.int i), kit_ty (by decide +kernel), q⟩
theorem r_isi_int_dict {K : PySem.W.Frag} {H : Hp} {Qv : VK} {i : Int} (q : Qv (.bl false) H) : rIsi K [(.int i), .ty "dict"] H Qv := ⟨(.int i), .ty "dict", .type "int", .type "dict", false, rfl, .ty "dict", .base (.int i), kit_ty (by decide +kernel), q⟩
theorem r_isi_bl_int {K : PySem.W.Frag} {H : Hp} {Qv : VK} {b : Bool} (q : Qv (.bl true) H) : rIsi K [(.bl b), .ty "int"] H Qv := ⟨(.bl b), .ty "int", .type "bool", .type "int", true, rfl, .ty "int", .base (.bl b), kit_ty (by decide +kernel), q⟩
theorem r_isi_bl_bool {K : PySem.W.Frag} {H : Hp} {Qv : VK} {b : Bool} (q : Qv (.bl true) H) : rIsi K [(.bl b), .ty "bool"] H Qv := ⟨(.bl b), .ty "bool", .type "bool", .type "bool", true, rfl, .ty "bool", .base (.bl b), kit_ty (by decide +kernel), q⟩
theorem r_isi_bl_str {K : PySem.W.Frag} {H : Hp} {Qv : VK} {b : Bool} (q : Qv (.bl false) H) : rIsi K [(.bl b), .ty "str"] H Qv := ⟨(.bl b), .ty "str", .type "bool", .type "str", false, rfl, .ty "str", .base (.bl b), kit_ty (by decide +kernel), q⟩
theorem r_isi_bl_list {K : PySem.W.Frag} {H : Hp} {Qv : VK} {b : Bool} (q : Qv (.bl false) H) : rIsi K [(.bl b), .ty "list"] H Qv := ⟨(.bl b), .ty "list", .type "bool", .type "list", false, rfl, .ty "list", .base (.bl b), kit_ty (by decide +kernel), q⟩
theorem r_isi_bl_tuple {K : PySem.W.Frag} {H : Hp} {Qv : VK} {b : Bool} (q : Qv (.bl false) H) : rIsi K [(.bl b), .ty "tuple"] H Qv := ⟨(.bl b), .ty "tuple", .type "bool", .type "tuple", false, rfl, .ty "tuple", .base (.bl b), kit_ty (by decide +kernel), q⟩
theorem r_isi_bl_dict {K : PySem.W.Frag} {H : Hp} {Qv : VK} {b : Bool} (q : Qv (.bl false) H) : rIsi K [(.bl b), .ty "dict"] H Qv := ⟨(.bl b), .ty "dict", .type "bool", .type "dict", false, rfl, .ty "dict", .base (.bl b), kit_ty (by decide +kernel), q⟩
theorem r_isi_str_int {K : PySem.W.Frag} {H : Hp} {Qv : VK} {z : Str} (q : Qv (.bl false) H) : rIsi K [(.str z), .ty "int"] H Qv := ⟨(.str z), .ty "int", .type "str", .type "int", false, rfl, .ty "int", .base (.str z), kit_ty (by decide +kernel), q⟩
theorem r_isi_str_bool {K : PySem.W.Frag} {H : Hp} {Qv : VK} {z : Str} (q : Qv (.bl false) H) : rIsi K [(.str z), .ty "bool"] H Qv := ⟨(.str z), .ty "bool", .type "str", .type "bool", false, rfl, .ty "bool", .base (.str z), kit_ty (by decide +kernel), q⟩
theorem r_isi_str_str {K : PySem.W.Frag} {H : Hp} {Qv : VK} {z : Str} (q : Qv (.bl true) H) : rIsi K [(.str z), .ty "str"] H Qv := ⟨(.str z), .ty "str", .type "str", .type "str", true, rfl, .ty "str", .base (.str z), kit_ty (by decide +kernel), q⟩
theorem r_isi_str_list {K : PySem.W.Frag} {H : Hp} {Qv : VK} {z : Str} (q : Qv (.bl false) H) : rIsi K [(.str z), .ty "list"] H Qv := ⟨(.str z), .ty "list", .type "str", .type "list", false, rfl, .ty "list", .base (.str z), kit_ty (by decide +kernel), q⟩
theorem r_isi_str_tuple {K : PySem.W.Frag} {H : Hp} {Qv : VK} {z : Str} (q : Qv (.bl false) H) : rIsi K [(.str z), .ty "tuple"] H Qv := ⟨(.str z), .ty "tuple", .type "str", .type "tuple", false, rfl, .ty "tuple", .base (.str z), kit_ty (by decide +kernel), q⟩
theorem r_isi_str_dict {K : PySem.W.Frag} {H : Hp} {Qv : VK} {z : Str} (q : Qv (.bl false) H) : rIsi K [(.str z), .ty "dict"] H Qv := ⟨(.str z), .ty "dict", .type "str", .type "dict", false, rfl, .ty "dict", .base (.str z), kit_ty (by decide +kernel), q⟩
theorem r_isi_non_int {K : PySem.W.Frag} {H : Hp} {Qv : VK}  (q : Qv (.bl false) H) : rIsi K [.non, .ty "int"] H Qv := ⟨.non, .ty "int", .type "NoneType", .type "int", false, rfl, .ty "int", .base .non, kit_ty (by decide +kernel), q⟩
theorem r_isi_non_bool {K : PySem.W.Frag} {H : Hp} {Qv : VK}  (q : Qv (.bl false) H) : rIsi K [.non, .ty "bool"] H Qv := ⟨.non, .ty "bool", .type "NoneType", .type "bool", false, rfl, .ty "bool", .base .non, kit_ty (by decide +kernel), q⟩
theorem r_isi_non_str {K : PySem.W.Frag} {H : Hp} {Qv : VK}  (q : Qv (.bl false) H) : rIsi K [.non, .ty "str"] H Qv := ⟨.non, .ty "str", .type "NoneType", .type "str", false, rfl, .ty "str", .base .non, kit_ty (by decide +kernel), q⟩
theorem r_isi_non_list {K : PySem.W.Frag} {H : Hp} {Qv : VK}  (q : Qv (.bl false) H) : rIsi K [.non, .ty "list"] H Qv := ⟨.non, .ty "list", .type "NoneType", .type "list", false, rfl, .ty "list", .base .non, kit_ty (by decide +kernel), q⟩
theorem r_isi_non_tuple {K : PySem.W.Frag} {H : Hp} {Qv : VK}  (q : Qv (.bl false) H) : rIsi K [.non, .ty "tuple"] H Qv := ⟨.non, .ty "tuple", .type "NoneType", .type "tuple", false, rfl, .ty "tuple", .base .non, kit_ty (by decide +kernel), q⟩
theorem r_isi_non_dict {K : PySem.W.Frag} {H : Hp} {Qv : VK}  (q : Qv (.bl false) H) : rIsi K [.non, .ty "dict"] H Qv := ⟨.non, .ty "dict", .type "NoneType", .type "dict", false, rfl, .ty "dict", .base .non, kit_ty (by decide +kernel), q⟩
theorem kt_list_int {K : PySem.W.Frag} : PySem.W.kitOne K (.type "list") (.type "int") = some false := kit_ty (by decide +kernel)
theorem kt_list_bool {K : PySem.W.Frag} : PySem.W.kitOne K (.type "list") (.type "bool") = some false := kit_ty (by decide +kernel)
theorem kt_list_str {K : PySem.W.Frag} : PySem.W.kitOne K (.type "list") (.type "str") = some false := kit_ty (by decide +kernel)
theorem kt_list_list {K : PySem.W.Frag} : PySem.W.kitOne K (.type "list") (.type "list") = some true := kit_ty (by decide +kernel)
theorem kt_list_tuple {K : PySem.W.Frag} : PySem.W.kitOne K (.type "list") (.type "tuple") = some false := kit_ty (by decide +kernel)
theorem kt_list_dict {K : PySem.W.Frag} : PySem.W.kitOne K (.type "list") (.type "dict") = some false := kit_ty (by decide +kernel)
theorem kt_tuple_int {K : PySem.W.Frag} : PySem.W.kitOne K (.type "tuple") (.type "int") = some false := kit_ty (by decide +kernel)
theorem kt_tuple_bool {K : PySem.W.Frag} : PySem.W.kitOne K (.type "tuple") (.type "bool") = some false := kit_ty (by decide +kernel)
theorem kt_tuple_str {K : PySem.W.Frag} : PySem.W.kitOne K (.type "tuple") (.type "str") = some false := kit_ty (by decide +kernel)
theorem kt_tuple_list {K : PySem.W.Frag} : PySem.W.kitOne K (.type "tuple") (.type "list") = some false := kit_ty (by decide +kernel)
theorem kt_tuple_tuple {K : PySem.W.Frag} : PySem.W.kitOne K (.type "tuple") (.type "tuple") = some true := kit_ty (by decide +kernel)
theorem kt_tuple_dict {K : PySem.W.Frag} : PySem.W.kitOne K (.type "tuple") (.type "dict") = some false := kit_ty (by decide +kernel)
theorem kt_dict_int {K : PySem.W.Frag} : PySem.W.kitOne K (.type "dict") (.type "int") = some false := kit_ty (by decide +kernel)
theorem kt_dict_bool {K : PySem.W.Frag} : PySem.W.kitOne K (.type "dict") (.type "bool") = some false := kit_ty (by decide +kernel)
theorem kt_dict_str {K : PySem.W.Frag} : PySem.W.kitOne K (.type "dict") (.type "str") = some false := kit_ty (by decide +kernel)
theorem kt_dict_list {K : PySem.W.Frag} : PySem.W.kitOne K (.type "dict") (.type "list") = some false := kit_ty (by decide +kernel)
theorem kt_dict_tuple {K : PySem.W.Frag} : PySem.W.kitOne K (.type "dict") (.type "tuple") = some false := kit_ty (by decide +kernel)
theorem kt_dict_dict {K : PySem.W.Frag} : PySem.W.kitOne K (.type "dict") (.type "dict") = some true := kit_ty (by decide +kernel)
theorem sz_m {n : Nat} (h : n ≤ 1000000) : n ≤ sizeLine := Nat.le_trans h (by decide)
theorem ite_nt {A B : Prop} (a : A) : if (!false) = true then A else B := by
  rw [if_pos (by decide)]
  exact a
theorem ite_nf {A B : Prop} (b : B) : if (!true) = true then A else B := by
  rw [if_neg (by decide)]
  exact b
theorem ite_d {p : Prop} [Decidable p] {A B : Prop} (h1 : p → A) (h2 : ¬ p → B) : if decide p = true then A else B := ite2 (fun h => h1 (of_decide_eq_true h)) fun h => h2 fun q => h (decide_eq_true q)
theorem ite_nd {p : Prop} [Decidable p] {A B : Prop} (h1 : ¬ p → A) (h2 : p → B) : if (!decide p) = true then A else B := by
  by_cases h : p
  · rw [decide_eq_true h]; exact ite_nf (h2 h)
  · rw [decide_eq_false h]; exact ite_nt (h1 h)
theorem ite_b {b : Bool} {A B : Prop} (h1 : b = true → A) (h2 : b = false → B) : if b = true then A else B := ite2 h1 fun h => h2 (Bool.eq_false_iff.mpr h)
theorem atI_0 {α : Type} (c : α) (r : List α) : atI (c :: r) 0 = some c := atI_nat (j := 0) rfl
theorem take_snoc {α : Type} {l : List α} {i : Nat} {x : α} (h : l[i]? = some x) : l.take (i + 1) = l.take i ++ [x] := by
  rw [List.take_add_one, h]
  rfl
theorem take_map_snoc {α β : Type} {l : List α} {i : Nat} {x : α} (f : α → β) (h : l[i]? = some x) : (l.take (i + 1)).map f = (l.take i).map f ++ [f x] := by
  rw [take_snoc h, List.map_append]
  rfl
end Q
namespace Q
open PySem PySem.Spec PyProof.Rows L2
abbrev zLetters : Str := "abcdefghijklmnopqrstuvwxyz"
abbrev zFigures : Str := "0123456789"
def resS : List Str := ["begun", "setby", "found", "trusted", "passed", "failed", "agreed", "differed", "served", "backed", "sound", "unsound", "sure", "never", "open", "none", "record", "lot", "menu", "wanted"]
def resV : List V := resS.map V.str
def letB (c : Nat) : Bool := decide (c ∈ zLetters.cps.toList)
def figB (c : Nat) : Bool := decide (c ∈ zFigures.cps.toList)
def headB : List Nat → Bool
  | c :: _ => letB c
  | [] => false
def nmOk (z : Str) : Bool := (decide (1 ≤ z.length) && decide (z.length ≤ 8)) && (!inV (.str z) resV && (headB z.cps.toList && z.cps.toList.all fun c => letB c || figB c))
def nameV : V → Bool
  | .str z => nmOk z
  | _ => false
def momV (x : V) (l : Int) : Bool := match x with
  | .int i => decide (l ≤ i) && decide (i ≤ 1000000000000000000000000000000)
  | _ => false
structure Nm (K : PySem.W.Frag) (mg : Str → Option Value) : Prop where
  RESERVED : ∃ a, Gc mg "RESERVED" (.ref a) ∧ ∀ H, SqT K H a resV
  LETTERS : Gc mg "LETTERS" (.str zLetters)
  FIGURES : Gc mg "FIGURES" (.str zFigures)
  MOST_SIGNS : Gc mg "MOST_SIGNS" (.int 8)
  MOST_MOMENT : Gc mg "MOST_MOMENT" (.int 1000000000000000000000000000000)
def spIsInt (K : PySem.W.Frag) : Sp := fun vs H Q _ => ∃ (G : Hp) (x : V) (t : Value), vs = [x] ∧ Gh G H ∧ Kd K G x t ∧ Ret G H (fun v _ => v = .bl (isI x)) Q
def spMoment (K : PySem.W.Frag) : Sp := fun vs H Q _ => ∃ (G : Hp) (x : V) (t : Value) (l : Int), vs = [x, .int l] ∧ Gh G H ∧ Kd K G x t ∧ Ret G H (fun v _ => v = .bl (momV x l)) Q
def spIsName (K : PySem.W.Frag) : Sp := fun vs H Q _ => ∃ (G : Hp) (x : V) (t : Value), vs = [x] ∧ Gh G H ∧ Kd K G x t ∧ (∀ z, x = .str z → z.length ≤ 1000000) ∧ Ret G H (fun v _ => v = .bl (nameV x)) Q
section
variable {K : PySem.W.Frag} {e : En} {G H : Hp} {M : List Addr} {x : V} {t : Value} {Q : VK} {E : XK}
theorem u_isInt (w : Wd e G H M) (h : Kd K G x t) (k : ∀ G' H', Wd e G' H' M → Same G G' → Same H H' → Q (.bl (isI x)) H') : spIsInt K [x] H Q E :=
  ⟨G, x, t, rfl, w.gh, h, ret_use w fun v G' H' w' s1 s2 p => by subst p; exact k G' H' w' s1 s2⟩
theorem u_moment {l : Int} (w : Wd e G H M) (h : Kd K G x t) (k : ∀ G' H', Wd e G' H' M → Same G G' → Same H H' → Q (.bl (momV x l)) H') : spMoment K [x, .int l] H Q E :=
  ⟨G, x, t, l, rfl, w.gh, h, ret_use w fun v G' H' w' s1 s2 p => by subst p; exact k G' H' w' s1 s2⟩
theorem u_isName (w : Wd e G H M) (h : Kd K G x t) (hz : ∀ z, x = .str z → z.length ≤ 1000000) (k : ∀ G' H', Wd e G' H' M → Same G G' → Same H H' → Q (.bl (nameV x)) H') : spIsName K [x] H Q E :=
  ⟨G, x, t, rfl, w.gh, h, hz, ret_use w fun v G' H' w' s1 s2 p => by subst p; exact k G' H' w' s1 s2⟩
end
end Q
namespace Q
open PySem PySem.Spec PyProof.Rows L2
section
variable {X : Cx} {CX : CXT} {k : Nat} {C f : Addr} {fd : FuncData} {ps : List Str} {sp : Sp} {E : XK}
theorem run_under {pins : List (Addr × Obj)} {σ : L2.St} {H : Hp} {s : Shared} {Q : VK} {us : List Value} {vs : List V} {A' : Around} (F : FnOk X.prog X.w X.K X.mg X.base CX k f fd ps sp) (hr : Room k A')
    (e0 : Env0 X.prog X.w X.K X.mg X.base A' X.stack s H) (hb : Binds X.K fd ps []) (hx : Passes CX X E) (I : Inv X pins σ H s) (r : Vals vs us) (h : sp vs H Q E) :
    wpAny (model X.prog X.w) A' (call (.ref f) us) (EP X pins σ Q) X.xe s := by
  have hl : (us ++ []).length = ps.length := by
    rw [List.append_nil, ← r.length]
    exact F.len _ _ _ _ h
  have hbb := hb s us I.kIn hl
  rw [List.append_nil] at hbb
  refine wpAny_call (codeAny_mono (F.run A' X.stack s H ⟨us, []⟩ us vs Q E hr e0 hbb r h) fun o s' hq => ?_)
  match o, hq with
  | .error e, hq => exact hx pins σ H s e s' I hq
  | .ok (.ret u), hq => exact I.after hq
  | .ok .next, hq => exact hq.elim
  | .ok .brk, hq => exact hq.elim
  | .ok .cont, hq => exact hq.elim
/-- x == y by the def of x's class -/
def rEqI (K : PySem.W.Frag) (C : Addr) (sp : Sp) (E : XK) : R2 := fun x y H Q => ∃ a dx fs t, x = .ref a ∧ H a = some (.ins C dx fs) ∧ TyX K H y t ∧ PySem.W.notFirst K C t = true ∧ sp [x, y] H Q E
theorem q_eqI (hs : PySem.W.findIn X.K (.ref C) "__eq__" = some (some (.ref f))) (hf : PySem.W.isFn X.K (.ref f) = true) (F : FnOk X.prog X.w X.K X.mg X.base CX k f fd ps sp) (hr : Room k X.A) (hb : Binds X.K fd ps []) (hx : Passes CX X E) :
    OpR X (compareOp .Eq) (rEqI X.K C sp E) := by
  intro pins s σ H x y v u Q I rx ry h
  obtain ⟨a, dx, fs, t, rfl, ea, ty, hn, q⟩ := h
  cases (show v = Value.ref a from rx)
  obtain ⟨mA, O, _, _, _, _⟩ := ins_get I.hok ea
  obtain ⟨od, J, _⟩ := O.look
  obtain ⟨P, Z, p, _⟩ := kit_of I ry ty
  obtain ⟨m, hF⟩ := I.fr
  have key : wpAny (model X.prog X.w) X.A (richCompare .Eq (.ref a) u) (EP X pins σ Q) X.xe s := by
    refine PySem.W.cmp_K (op := .Eq) (tb := t) hr.units0 hF I.ok.mod.kin J (Z.ty _ _ I.kIn p) hn hs hf ?_
    refine wpAny_mono (run_under (us := [.ref a, u]) (vs := [.ref a, y]) F hr I.env0 hb hx I (.cons rfl (.cons ry .nil)) q) (fun w s' z => ?_) fun _ _ x => x
    obtain ⟨z', H', I', rz, qz⟩ := z
    exact SlX.cmpback rz ⟨z', H', I', rz, qz⟩
  exact key
theorem r_eqI {K : PySem.W.Frag} {H : Hp} {a : Addr} {dx : Addr} {fs : List (Str × V)} {y : V} {t : Value} {Qv : VK} (h : H a = some (.ins C dx fs)) (ty : TyX K H y t) (n : PySem.W.notFirst K C t = true) (q : sp [.ref a, y] H Qv E) :
    rEqI K C sp E (.ref a) y H Qv := ⟨a, dx, fs, t, rfl, h, ty, n, q⟩
theorem ifBound_b {K : PySem.W.Frag} {M : Model} {A : Around} {E : Value → Shared → Prop} {s : Shared} {x C : Addr} {ox : Obj} {od : Option Obj} {name : Str} {id : String} {args : List Value} {Q : Option Value → Shared → Prop} (X : K.In s.heap)
    (I : PySem.W.InstAt s.heap x ox C od) (hs : PySem.W.findIn K (.ref C) name = some (some (.builtin id))) (hb : ∀ self, bindSpecial (.builtin id) self = pure (.builtin id, [self]))
    (h : wpAny M A (call (.builtin id) (.ref x :: args)) (fun v => Q (some v)) E s) : wpAny M A (callSpecialIfBound? (.ref x) name args) Q E s := by
  simp only [callSpecialIfBound?, bindSpecialIfBound?]
  refine wpAny_holding (wpAny_bind (wpAny_bind (wpAny_bind (I.type.here ((PySem.W.looks_findIn X hs).here ?_)))))
  refine wpAny_bind (wpAny_askSetting (wpAny_ite ?_))
  have fin : wpAny M A (call (.builtin id) ([.ref x] ++ args) >>= fun v => pure (some v)) Q E s := wpAny_bind (wpAny_mono h (fun v s' h' => wpAny_pure h') fun _ _ h' => h')
  split
  · exact wpAny_bind ((PySem.W.Looks.of_pure (hb _)).here (wpAny_pure (by exact fin)))
  · exact wpAny_tryCatch (wpAny_bind ((PySem.W.Looks.of_pure (hb _)).here (wpAny_pure (by exact fin))))
theorem cmp_b {K : PySem.W.Frag} {prog : Program} {w : World} {A : Around} {E : Value → Shared → Prop} {s : Shared} {x C : Addr} {b tb : Value} {ox : Obj} {od : Option Obj} {op : CmpOp} {id : String} {Q : Value → Shared → Prop}
    (hu : A.units < cLine) (X : K.In s.heap) (I : PySem.W.InstAt s.heap x ox C od) (hb : PySem.W.Looks (model prog w) s.heap (typeOf b) tb) (hn : PySem.W.notFirst K C tb = true)
    (hs : PySem.W.findIn K (.ref C) (cmpInfo op).2.1 = some (some (.builtin id))) (hbd : ∀ self, bindSpecial (.builtin id) self = pure (.builtin id, [self]))
    (h : wpAny (model prog w) A (call (.builtin id) [.ref x, b]) (PySem.W.CmpBack Q) E s) : wpAny (model prog w) A (richCompare op (.ref x) b) Q E s := by
  have one : wpAny (model prog w) A (tryCompare (.ref x) (cmpInfo op).2.1 b) (fun r s' => ∃ v, r = some v ∧ Q v s') E s := by
    unfold tryCompare
    refine wpAny_bind (ifBound_b X I hs hbd (wpAny_mono h (fun v s' hv => ?_) fun _ _ e => e))
    cases v <;> first | exact hv.elim | exact wpAny_pure ⟨_, rfl, hv⟩
  unfold richCompare
  simp only [oneThing_ref]
  refine wpAny_holding (wpAny_bind (wpAny_cRoomFor hu ?_))
  refine wpAny_bind (I.type.here (wpAny_bind (hb.here ?_)))
  split
  · rename_i q
    have e : PySem.W.subIn K tb (.ref C) = some false := by
      rcases Bool.or_eq_true_iff.mp hn with e | e
      · rw [beq_iff_eq.mp e] at q; simp at q
      · exact beq_iff_eq.mp e
    refine wpAny_bind ((PySem.W.looks_subIn X e).here ?_)
    simp only [Bool.false_eq_true, if_false]
    refine wpAny_bind (wpAny_mono one (fun r s' z => ?_) fun _ _ e => e)
    obtain ⟨v, rfl, hq⟩ := z
    exact wpAny_pure hq
  · refine wpAny_bind (wpAny_pure ?_)
    simp only [Bool.false_eq_true, if_false]
    refine wpAny_bind (wpAny_mono one (fun r s' z => ?_) fun _ _ e => e)
    obtain ⟨v, rfl, hq⟩ := z
    exact wpAny_pure hq
/-- x != y where the class has an own == alone -/
def rNeI (K : PySem.W.Frag) (C : Addr) (sp : Sp) (E : XK) : R2 := fun x y H Q => ∃ a dx fs t, x = .ref a ∧ H a = some (.ins C dx fs) ∧ TyX K H y t ∧ PySem.W.notFirst K C t = true ∧ sp [x, y] H (fun v H' => ∃ b, v = .bl b ∧ Q (.bl (!b)) H') E
theorem q_neI (hne : PySem.W.findIn X.K (.ref C) "__ne__" = some (some (.builtin "object.__ne__"))) (hm : PySem.W.mroIn X.K C (.type "object") = some true) (hs : PySem.W.findIn X.K (.ref C) "__eq__" = some (some (.ref f))) (hf : PySem.W.isFn X.K (.ref f) = true)
    (F : FnOk X.prog X.w X.K X.mg X.base CX k f fd ps sp) (hr : Room (k + 1) X.A) (hb : Binds X.K fd ps []) (hx : Passes CX X E) :
    OpR X (compareOp .NotEq) (rNeI X.K C sp E) := by
  intro pins s σ H x y v u Q I rx ry h
  obtain ⟨a, dx, fs, t, rfl, ea, ty, hn, q⟩ := h
  cases (show v = Value.ref a from rx)
  obtain ⟨mA, O, _, _, _, _⟩ := ins_get I.hok ea
  obtain ⟨od, J, _⟩ := O.look
  obtain ⟨P, Z, p, _⟩ := kit_of I ry ty
  obtain ⟨m, hF⟩ := I.fr
  have hr1 : Room k X.A.in1 := hr.in1
  have key : wpAny (model X.prog X.w) X.A (richCompare .NotEq (.ref a) u) (EP X pins σ Q) X.xe s := by
    refine cmp_b (op := .NotEq) (tb := t) hr.units0 I.kIn J (Z.ty _ _ I.kIn p) hn hne PySem.F.slot_object_ne.bind ?_
    refine wpAny_call (codeAny_call_builtin PySem.F.slot_object_ne.plain PySem.F.cmpEntry_ne (PySem.W.check_slot (i := "object.__ne__") (owner := "object") (n := "__ne__") PySem.F.cmpKind_ne PySem.F.cmpSplit_ne (J.type.andThen (PySem.W.looks_mroIn I.kIn hm)) (PySem.F.cmpArgs_ne _ _) ?_))
    unfold Builtin.«object.__ne__»
    refine wpAny_bind (m := slotArgs "__ne__" 1 _) (wpAny_pure ?_)
    refine wpAny_bind (m := cRoomFor _ _) (wpAny_cRoomFor hr1.units0 ?_)
    refine wpAny_bind (m := callSpecialIfBound? (.ref a) (Str.ofString "__eq__") [u]) (PySem.W.ifBound_K I.kIn J hs hf ?_)
    refine wpAny_mono (run_under (us := [.ref a, u]) (vs := [.ref a, y]) F hr1 I.env0.in1 hb hx I (.cons rfl (.cons ry .nil)) q) (fun w s' z => ?_) fun _ _ x => x
    obtain ⟨z', H', I', rz, b, e, qz⟩ := z
    subst e
    cases (show w = Value.bool b from rz)
    refine wpAny_bind (m := truthy (.bool b)) (wpAny_truthy_bool ?_)
    exact wpAny_pure ⟨.bl (!b), H', I', rfl, qz⟩
  exact key
theorem r_neI {K : PySem.W.Frag} {H : Hp} {a : Addr} {dx : Addr} {fs : List (Str × V)} {y : V} {t : Value} {Qv : VK} (h : H a = some (.ins C dx fs)) (ty : TyX K H y t) (n : PySem.W.notFirst K C t = true) (q : sp [.ref a, y] H (fun v H' => ∃ b, v = .bl b ∧ Qv (.bl (!b)) H') E) :
    rNeI K C sp E (.ref a) y H Qv := ⟨a, dx, fs, t, rfl, h, ty, n, q⟩
/-- str(x) by the class's own def -/
def rStrI (C : Addr) (sp : Sp) (E : XK) : List V → Hp → VK → Prop := fun xs H Q => ∃ a dx fs, xs = [.ref a] ∧ H a = some (.ins C dx fs) ∧ sp [.ref a] H (fun v H' => ∃ z, v = .str z ∧ Q v H') E
theorem q_strI (hs : PySem.W.findIn X.K (.ref C) "__str__" = some (some (.ref f))) (hf : PySem.W.isFn X.K (.ref f) = true) (F : FnOk X.prog X.w X.K X.mg X.base CX k f fd ps sp) (hr : Room (k + 2) X.A) (hb : Binds X.K fd ps []) (hx : Passes CX X E) :
    CallR X (.type "str") (rStrI C sp E) := by
  intro pins s σ H xs us Q I r h
  obtain ⟨a, dx, fs, rfl, ea, q⟩ := h
  obtain ⟨u, rfl, ru⟩ := r.one
  cases (show u = Value.ref a from ru)
  obtain ⟨mA, O, _, _, _, _⟩ := ins_get I.hok ea
  obtain ⟨od, J, _⟩ := O.look
  have hr2 : Room k X.A.in1.in1 := (show Room (k + 1) X.A.in1 from Room.in1 hr).in1
  refine PySem.W.kso_call hr2.units0 I.kIn J hs hf ?_
  refine wpAny_mono (run_under (us := [.ref a]) (vs := [.ref a]) F hr2 I.env0.in1.in1 hb hx I (.cons rfl .nil) q) (fun w s' z => ?_) fun _ _ x => x
  obtain ⟨z', H', I', rz, y, e, qz⟩ := z
  subst e
  obtain ⟨t, e⟩ := (show ∃ t, w = Value.str y t from rz)
  subst e
  exact ⟨.str y, H', I', ⟨t, rfl⟩, qz⟩
theorem r_strI {H : Hp} {a : Addr} {dx : Addr} {fs : List (Str × V)} {Qv : VK} (h : H a = some (.ins C dx fs)) (q : sp [.ref a] H (fun v H' => ∃ z, v = .str z ∧ Qv v H') E) : rStrI C sp E [.ref a] H Qv := ⟨a, dx, fs, rfl, h, q⟩
end
/-- o.m(k = v, ..): m keywords -/
def tMethK (C : Addr) (m : Str) (n : Nat) (sp : Sp) (E : XK) (ta : TE) (tk : TA) (gV : List V → List V → List V) : TE := fun σ H Q => ta σ H fun x H1 => ∃ a dx fs, x = .ref a ∧ H1 a = some (.ins C dx fs) ∧ fs.lookup m = none ∧
  tk σ H1 fun zs H2 => zs.length = n ∧ sp (gV [x] zs) H2 Q E
end Q
namespace Q
open PySem PySem.Spec PyProof.Rows L2
def FldK (K : PySem.W.Frag) (f : Str) (x : V) (H : Hp) (Q : VK) : Prop := ∃ a C dx fs v, x = .ref a ∧ H a = some (.ins C dx fs) ∧ Cls K C ∧ NoAttr K C f ∧ fs.lookup f = some v ∧ Q v H
def SetK (K : PySem.W.Frag) (f : Str) (y x : V) (H : Hp) (R : Hp → Prop) : Prop := ∃ a C dx fs, x = .ref a ∧ H a = some (.ins C dx fs) ∧ Cls K C ∧ NoAttr K C f ∧ fs.length < 1000 ∧ R (upd H a (.ins C dx (putF f y fs)))
section
variable {K : PySem.W.Frag} {f : Str} {ta tv : TE} {σ : L2.St} {H G : Hp} {Qv : VK} {D : Ends} {a C dx : Addr} {fs : List (Str × V)} {v y : V} {e : En} {M : List Addr}
theorem r_tFld (q : ta σ H fun x H1 => FldK K f x H1 Qv) : tFld K ta f σ H Qv := q
theorem r_fld (h : H a = some (.ins C dx fs)) (c : Cls K C) (n : NoAttr K C f) (l : fs.lookup f = some v) (q : Qv v H) : FldK K f (.ref a) H Qv := ⟨a, C, dx, fs, v, rfl, h, c, n, l, q⟩
theorem r_sFld (q : tv σ H fun y H1 => ta σ H1 fun x H2 => SetK K f y x H2 fun H3 => D.nx σ H3) : sFld K ta tv f D σ H := q
theorem r_setF {R : Hp → Prop} (w : Wd e G H M) (hm : a ∈ M) (h : H a = some (.ins C dx fs)) (c : Cls K C) (n : NoAttr K C f) (l : fs.length < 1000)
    (q : ∀ H', Wd e G H' M → H' a = some (.ins C dx (putF f y fs)) → But a H H' → R H') : SetK K f y (.ref a) H R := ⟨a, C, dx, fs, rfl, h, c, n, l, q _ (wd_mut w hm) upd_same but_upd⟩
/-- a property is read -/
def PropK (C : Addr) (sp : Sp) (dvs : List V) (E : XK) (x : V) (H : Hp) (Q : VK) : Prop := ∃ a dx fs, x = .ref a ∧ H a = some (.ins C dx fs) ∧ sp (.ref a :: dvs) H Q E
theorem r_tProp {sp : Sp} {dvs : List V} {E : XK} (q : ta σ H fun x H1 => PropK C sp dvs E x H1 Qv) : tProp C sp dvs E ta σ H Qv := q
theorem r_prop {sp : Sp} {dvs : List V} {E : XK} (h : H a = some (.ins C dx fs)) (q : sp (.ref a :: dvs) H Qv E) : PropK C sp dvs E (.ref a) H Qv := ⟨a, dx, fs, rfl, h, q⟩
/-- a method is called -/
def MethGo (C : Addr) (m : Str) (x : V) (H : Hp) (R : Addr → Prop) : Prop := ∃ a dx fs, x = .ref a ∧ H a = some (.ins C dx fs) ∧ fs.lookup m = none ∧ R a
theorem r_tMeth {m : Str} {sp : Sp} {dvs : List V} {E : XK} {t : TA} (q : ta σ H fun x H1 => MethGo C m x H1 fun _ => t σ H1 fun vs H2 => sp (x :: (vs ++ dvs)) H2 Qv E) : tMeth C m sp dvs E ta t σ H Qv := by
  have key : ∀ (x : V) (H1 : Hp), MethGo C m x H1 (fun _ => t σ H1 fun vs H2 => sp (x :: (vs ++ dvs)) H2 Qv E) = (∃ a dx fs, x = .ref a ∧ H1 a = some (.ins C dx fs) ∧ fs.lookup m = none ∧ t σ H1 fun vs H2 => sp (x :: (vs ++ dvs)) H2 Qv E) := fun _ _ => rfl
  simp only [key] at q
  exact q
theorem r_meth {m : Str} {R : Addr → Prop} (h : H a = some (.ins C dx fs)) (l : fs.lookup m = none) (q : R a) : MethGo C m (.ref a) H R := ⟨a, dx, fs, rfl, h, l, q⟩
def MethGoK (C : Addr) (m : Str) (x : V) (H : Hp) (R : Prop) : Prop := ∃ a dx fs, x = .ref a ∧ H a = some (.ins C dx fs) ∧ fs.lookup m = none ∧ R
theorem r_tMethK {m : Str} {sp : Sp} {n : Nat} {E : XK} {tk : TA} {gV : List V → List V → List V} (q : ta σ H fun x H1 => MethGoK C m x H1 (tk σ H1 fun zs H2 => zs.length = n ∧ sp (gV [x] zs) H2 Qv E)) : tMethK C m n sp E ta tk gV σ H Qv := q
theorem r_methK {m : Str} {R : Prop} (h : H a = some (.ins C dx fs)) (l : fs.lookup m = none) (q : R) : MethGoK C m (.ref a) H R := ⟨a, dx, fs, rfl, h, l, q⟩
/-- an instance is made -/
def MakeGo (C : Addr) (sp : Sp) (vs : List V) (E : XK) (H : Hp) (Q : VK) : Prop := ∀ x dx, H x = none → H dx = none → dx ≠ x → sp (.ref x :: vs) (upd (upd H dx (.own x)) x (.ins C dx [])) (fun v H2 => v = .non ∧ Q (.ref x) H2) E
theorem r_tMake {sp : Sp} {dvs : List V} {E : XK} {t : TA} (q : t σ H fun vs H1 => MakeGo C sp (vs ++ dvs) E H1 Qv) : tMake C sp dvs E t σ H Qv := q
theorem make_go {sp : Sp} {vs : List V} {E : XK} (w : Wd e G H M)
    (k : ∀ x dx G' H', H x = none → (∀ m ∈ M, x ≠ m) → Same G G' → Same H H' → Wd e G' H' (x :: M) → H' x = some (.ins C dx []) → e.H0 x = none → sp (.ref x :: vs) H' (fun v H2 => v = .non ∧ Qv (.ref x) H2) E) : MakeGo C sp vs E H Qv := by
  intro x dx hx hd ne
  have w1 := wd_lay (o := .own x) w hd
  have hx1 : upd H dx (.own x) x = none := by rw [upd_ne ne.symm]; exact hx
  exact k x dx _ _ hx (fun m hm => w.nm hx hm) (same_upd (w.g hd)) ((same_upd hd).trans (same_upd hx1)) (wd_layM w1 hx1) upd_same (w.n0 hx)
end
theorem lc_goM {e : En} {G H1 : Hp} {M : List Addr} {J : It} {n : Nat} {Gd : Hp → Prop} {Y : Nat → Hp → V → Hp → Prop} {g : TG} {tt : TT} {te : TE} {vs : List Nat} {σ : L2.St} {Q : VK} (w : Wd e G H1 M) (hw : Walk J n Gd Y) (R : Nat → List V → Hp → Hp → Prop)
    (h0 : ∀ (Dd : Addr) (H : Hp), Wd e G H (Dd :: M) → Same H1 H → (∀ m ∈ M, Dd ≠ m) → R 0 [] G H)
    (hG : ∀ i acc Gi H, Wd e Gi H M → Same G Gi → R i acc Gi H → Gd H)
    (hs : ∀ (Dd : Addr) i acc Gi H x H', i < n → acc.length ≤ i → Wd e Gi H (Dd :: M) → Same G Gi → H Dd = some (.lst acc) → (∀ m ∈ M, Dd ≠ m) → R i acc Gi H → Y i H x H' → g x (wipe σ vs) H' (LcT Dd (LcP e G M R Dd (i + 1)) tt te vs σ))
    (hd : ∀ (p : Addr) acc Gi H, acc.length ≤ n → Wd e Gi H (p :: M) → Same G Gi → H p = some (.lst acc) → (∀ m ∈ M, p ≠ m) → R n acc Gi H → Q (.ref p) H) : LcGo J g tt te vs σ Q H1 := by
  intro Dd hD
  have w1 := wd_layM (o := .lst []) w hD
  have nm : ∀ m ∈ M, Dd ≠ m := fun m hm => w.nm hD hm
  refine lc_it hw (LcP e G M R Dd) ⟨[], G, w1, Same.refl _, upd_same, Nat.le_refl _, h0 Dd _ w1 (same_upd hD) nm⟩ (fun i H _ ⟨acc, Gi, w2, s2, _, _, r⟩ => hG i acc Gi H (wd_drop w2 (List.sublist_cons_self _ _)) s2 r) (fun i x H H' hi ⟨acc, Gi, w2, s2, h2, l2, r⟩ y => hs Dd i acc Gi H x H' hi l2 w2 s2 h2 nm r y) fun H ⟨acc, Gi, w2, s2, h2, l2, r⟩ => ?_
  exact hd Dd acc Gi H l2 w2 s2 h2 nm r
theorem r_tBM {K : PySem.W.Frag} {T : String} {r : V → List V → Hp → VK → Prop} {to : TE} {t : TA} {σ : L2.St} {H : Hp} {Qv : VK} (q : to σ H fun x H1 => tyV K T x H1 ∧ t σ H1 fun xs H2 => r x xs H2 Qv) : tBM K T r to t σ H Qv := q
theorem r_appM {e : En} {G H : Hp} {M : List Addr} {l : Addr} {xs : List V} {y : V} {Qv : VK} (w : Wd e G H M) (hm : l ∈ M) (h : H l = some (.lst xs)) (hl : xs.length < sizeLine) (q : ∀ H', Wd e G H' M → H' l = some (.lst (xs ++ [y])) → But l H H' → Qv .non H') :
    rAppend (.ref l) [y] H Qv := ⟨l, xs, y, rfl, rfl, h, hl, q _ (wd_mut w hm) upd_same but_upd⟩
structure SyC (K : PySem.W.Frag) (C : Addr) : Prop where
  c : Cls K C
  n1 : NoAttr K C "tool"
  n2 : NoAttr K C "moment"
  n3 : NoAttr K C "is_sound"
  n4 : NoAttr K C "face"
  ca : PySem.W.findIn K (.ref C) "__class__" = some (some (.builtin "object.__class__"))
  cn : PySem.W.specialIn K (.builtin "object.__class__") "__get__" = some (some (.builtin "getset_descriptor.__get__"))
  ct : PySem.W.takesIn K (.builtin "object.__class__") = some true
  cm : PySem.W.mroIn K C (.type "object") = some true
  me : PySem.W.kitOne K (.ref C) (.ref C) = some true
  non : PySem.W.kitOne K (.type "NoneType") (.ref C) = some false
  int : PySem.W.kitOne K (.type "int") (.ref C) = some false
  bl : PySem.W.kitOne K (.type "bool") (.ref C) = some false
  str : PySem.W.kitOne K (.type "str") (.ref C) = some false
  lst : PySem.W.kitOne K (.type "list") (.ref C) = some false
  tup : PySem.W.kitOne K (.type "tuple") (.ref C) = some false
  dK : PySem.W.kitOne K (.type "dict") (.ref C) = some false
  fme : PySem.W.notFirst K C (.ref C) = true
  fnon : PySem.W.notFirst K C (.type "NoneType") = true
  fint : PySem.W.notFirst K C (.type "int") = true
  fbl : PySem.W.notFirst K C (.type "bool") = true
  fstr : PySem.W.notFirst K C (.type "str") = true
  flst : PySem.W.notFirst K C (.type "list") = true
  ftup : PySem.W.notFirst K C (.type "tuple") = true
  fdK : PySem.W.notFirst K C (.type "dict") = true
def faceD (z : Str) (i : Int) (b : Bool) : PyData := .tuple [.str z, .int i, .bool b]
/-- name and moment as they must be -/
def Right (z : Str) (i : Int) : Prop := nmOk z = true ∧ 0 ≤ i ∧ i ≤ 1000000000000000000000000000000
def SayAt (C : Addr) (G : Hp) (a : Addr) (z : Str) (i : Int) (b : Bool) : Prop := Right z i ∧ ∃ dx fc, G a = some (.ins C dx [("tool", .str z), ("moment", .int i), ("is_sound", .bl b), ("face", .ref fc)]) ∧ G fc = some (.tup [.str z, .int i, .bl b])
theorem SayAt.same {C a : Addr} {G G' : Hp} {z : Str} {i : Int} {b : Bool} (h : SayAt C G a z i b) (s : Same G G') : SayAt C G' a z i b := by
  obtain ⟨r, dx, fc, h1, h2⟩ := h
  exact ⟨r, dx, fc, s _ _ h1, s _ _ h2⟩
theorem nmOk_len {z : Str} (h : nmOk z = true) : z.length ≤ 8 := by
  unfold nmOk at h
  rw [Bool.and_eq_true, Bool.and_eq_true] at h
  exact of_decide_eq_true h.1.2
theorem Right.name {z : Str} {i : Int} (h : Right z i) : nameV (.str z) = true := h.1
theorem Right.mom {z : Str} {i : Int} (h : Right z i) : momV (.int i) 0 = true := by
  show (decide (0 ≤ i) && decide (i ≤ 1000000000000000000000000000000)) = true
  rw [decide_eq_true h.2.1, decide_eq_true h.2.2]
  rfl
theorem Right.len {z : Str} {i : Int} (h : Right z i) : z.length ≤ 8 := nmOk_len h.1
/-- what == of a saying with y answers -/
def EqTo (K : PySem.W.Frag) (C : Addr) (G : Hp) (z : Str) (i : Int) (b : Bool) (y : V) (r : Bool) : Prop := (∃ t, TyX K G y t ∧ PySem.W.kitOne K t (.ref C) = some false ∧ r = false) ∨
  ∃ (c : Addr) (z' : Str) (i' : Int) (b' : Bool), y = .ref c ∧ SayAt C G c z' i' b' ∧ r = PyData.eqv (faceD z i b) (faceD z' i' b')
def sayText (z : Str) (i : Int) (b : Bool) : Str := Str.empty ++ z ++ Str.ofString " " ++ Str.ofString (toString i) ++ Str.ofString " " ++ (if b then Str.ofString "sound" else Str.ofString "unsound")
section
variable {K : PySem.W.Frag} {C a c : Addr} {e : En} {G H : Hp} {M : List Addr} {z z' : Str} {i i' : Int} {b b' r : Bool} {y : V} {Q : VK} {E : XK}
theorem SyC.ty (S : SyC K C) (h : SayAt C G a z i b) : TyX K G (.ref a) (.ref C) := by
  obtain ⟨_, dx, fc, h1, _⟩ := h
  exact .base (.ins h1 S.c S.ca S.cn S.ct S.cm)
theorem EqTo.non (S : SyC K C) : EqTo K C G z i b .non false := .inl ⟨_, .base .non, S.non, rfl⟩
theorem EqTo.int (S : SyC K C) {j : Int} : EqTo K C G z i b (.int j) false := .inl ⟨_, .base (.int j), S.int, rfl⟩
theorem EqTo.bl (S : SyC K C) {j : Bool} : EqTo K C G z i b (.bl j) false := .inl ⟨_, .base (.bl j), S.bl, rfl⟩
theorem EqTo.str (S : SyC K C) {j : Str} : EqTo K C G z i b (.str j) false := .inl ⟨_, .base (.str j), S.str, rfl⟩
theorem EqTo.lst (S : SyC K C) {l : Addr} {xs : List V} (h : G l = some (.lst xs)) : EqTo K C G z i b (.ref l) false := .inl ⟨_, .base (.lst h), S.lst, rfl⟩
theorem EqTo.tup (S : SyC K C) {l : Addr} {xs : List V} (h : G l = some (.tup xs)) : EqTo K C G z i b (.ref l) false := .inl ⟨_, .base (.tup h), S.tup, rfl⟩
end
theorem nmOk_str {z : Str} (h : nmOk z = true) : PyData.strOk z = true := by
  unfold nmOk at h
  rw [Bool.and_eq_true, Bool.and_eq_true, Bool.and_eq_true, Bool.and_eq_true] at h
  have h1 := h.2.2.2
  unfold PyData.strOk
  rw [Array.all_eq_true_iff_forall_mem]
  intro c hc
  have h2 := List.all_eq_true.mp h1 c (Array.mem_toList_iff.mpr hc)
  have l1 : ∀ c ∈ zLetters.cps.toList, c < 0x110000 := by decide
  have l2 : ∀ c ∈ zFigures.cps.toList, c < 0x110000 := by decide
  rcases Bool.or_eq_true_iff.mp h2 with h3 | h3
  · exact decide_eq_true (l1 c (of_decide_eq_true h3))
  · exact decide_eq_true (l2 c (of_decide_eq_true h3))
theorem lenZ {i : Int} (h0 : 0 ≤ i) (h1 : i ≤ 1000000000000000000000000000000) : (Str.ofString (toString i)).length ≤ 31 := toString_length_le h0 (by decide) (Int.lt_of_le_of_lt h1 (by decide))
theorem logZ {i : Int} (h0 : 0 ≤ i) (h1 : i ≤ 1000000000000000000000000000000) : i.natAbs.log2 < 1920 := by
  by_cases z : i.natAbs = 0
  · rw [z]; decide
  · refine (Nat.log2_lt z).mpr (Nat.lt_of_le_of_lt (m := 1000000000000000000000000000000) (by omega) ?_)
    exact Nat.lt_of_lt_of_le (m := 2 ^ 100) (by decide) (Nat.pow_le_pow_right (by decide) (by decide))
section
variable {te : TE} {ts : List TE} {acc y : Str} {i : Int} {σ : L2.St} {H : Hp} {Q : Str → Hp → Prop} {Qv : VK}
def FmtK (x : V) (H : Hp) (Q : VK) : Prop := (∃ y : Str, x = .str y ∧ y.length ≤ sizeLine ∧ Q (.str y) H) ∨ ∃ i : Int, x = .int i ∧ i.natAbs.log2 < 1920 ∧ Q (.str (toString i)) H
theorem r_tFmt (q : te σ H fun x H1 => FmtK x H1 Qv) : tFmt te σ H Qv := q
theorem r_fmtS (h : y.length ≤ sizeLine) (q : Qv (.str y) H) : FmtK (.str y) H Qv := .inl ⟨y, rfl, h, q⟩
theorem r_fmtI (h : i.natAbs.log2 < 1920) (q : Qv (.str (toString i)) H) : FmtK (.int i) H Qv := .inr ⟨i, rfl, h, q⟩
theorem r_jnil (q : Q acc H) : tJs [] acc σ H Q := q
def JK (acc : Str) (x : V) (R : Str → Prop) : Prop := ∃ y : Str, x = .str y ∧ (acc ++ y).length ≤ sizeLine ∧ R (acc ++ y)
theorem r_jcons (q : te σ H fun x H1 => JK acc x fun s => tJs ts s σ H1 Q) : tJs (te :: ts) acc σ H Q := q
theorem r_jk {R : Str → Prop} (h : (acc ++ y).length ≤ sizeLine) (q : R (acc ++ y)) : JK acc (.str y) R := ⟨y, rfl, h, q⟩
end
end Q
namespace Q
open PySem PySem.Spec PyProof.Rows L2
section
variable {P : Program} {w : World} {K : PySem.W.Frag} {mg : Str → Option Value} {base : Heap} {CX : CXT} {k : Nat}
theorem kbn_of {x qual : Str} {params : Arguments} {body : List Stmt} {scope : Scope} {kws : List (Str × V)} {f : Addr} {fd : FuncData} {ps : List Str} (F : FunD K x qual params body scope [] kws f fd) (n : Nat) (ks : List Str) (g : {α : Type} → List α → List α → List α)
    (hrel : ∀ {vs zs : List V} {us ws : List Value}, Vals vs us → Vals zs ws → Vals (g vs zs) (g us ws))
    (h : ∀ (kV doc pm : Value) (an : Option Addr) (cdv ct : Value) (us ws : List Value), us.length = n → ws.length = ks.length →
      bindArgs (PySem.W.fnOf x qual params body scope .none kV doc pm an cdv ct) ⟨us, ks.zip ws⟩ = pure (ps.zip (g us ws))) : KBn K fd ps n ks (fun us ws => g us ws) (fun vs zs => g vs zs) := by
  obtain ⟨oc, od, dV, kV, doc, pm, an, cdv, ct, osl, rfl, lk, hcd, hD, hK⟩ := F.ex
  rcases hD with ⟨_, rfl⟩ | ⟨e, _⟩
  · exact ⟨fun s us ws X l1 l2 => .of_eq (h kV doc pm an cdv ct us ws l1 l2), fun r1 r2 => hrel r1 r2⟩
  · exact absurd rfl e
variable (P w K mg base CX k)
structure MkD (x : Str) (C : Addr) (dvs : List V) (sp : Sp) : Prop where
  ex : ∃ (f : Addr) (fd : FuncData) (ps : List Str) (ds : List Value), mg x = some (.ref C) ∧ Mk K C f ∧ Binds K fd ps ds ∧ Vals dvs ds ∧ FnOk P w K mg base CX k f fd ps sp
structure PrD (C : Addr) (m : Str) (sp : Sp) : Prop where
  ex : ∃ (p g : Addr) (fd : FuncData) (ps : List Str), Cls K C ∧ PropOf K C m p g ∧ Binds K fd ps [] ∧ FnOk P w K mg base CX k g fd ps sp
/-- a special def: ==, str -/
structure SpD (C : Addr) (m : Str) (sp : Sp) : Prop where
  ex : ∃ (f : Addr) (fd : FuncData) (ps : List Str), PySem.W.findIn K (.ref C) m = some (some (.ref f)) ∧ PySem.W.isFn K (.ref f) = true ∧ Binds K fd ps [] ∧ FnOk P w K mg base CX k f fd ps sp
end
section
variable {X : Cx} {CX : CXT} {k j n : Nat} {C : Addr} {sp : Sp} {dvs : List V} {E : XK} {x m : Str} {o e : Expr} {es : List Expr} {t tk : TA} {ta : TE} {pos p apos : Pos} {pl : Sem Bool} {ks : List Str} {kws : List Keyword} {gV : List V → List V → List V}
theorem pe_makeD (D : MkD X.prog X.w X.K X.mg X.base CX k x C dvs sp) (hr : Room j X.A) (hx : Passes CX X E) (ha : PA X (e :: es) t) (hj : k + 1 ≤ j := by decide) (hg : Gl X x := by rfl)
    (hdb : (x == ("__debug__" : Str)) = false := by decide) (he : starEach (e :: es) X.env = (false, eval e X.env) :: starEach es X.env := by rfl) (hpl : (backTo pos (starEach es X.env)).any (·.1) = false := by rfl) :
    PE X (.Call (.Name x p) (e :: es) [] pos) (tMake C sp dvs E t) := by
  obtain ⟨f, fd, ps, ds, h1, h2, h3, h4, h5⟩ := D.ex
  exact pe_make h2 h5 (hr.mono hj) hg h1 h3 h4 hx ha hdb he hpl
theorem pe_propD (he : PE X e ta) (D : PrD X.prog X.w X.K X.mg X.base CX k C m sp) (hr : Room j X.A) (hx : Passes CX X.nox E) (hj : k + 1 ≤ j := by decide)
    (hab : attributeBase e m X.env (eval e X.env) = eval e X.env := by rfl) : PE X (.Attribute e m pos) (tProp C sp [] E ta) := by
  obtain ⟨p, g, fd, ps, h1, h2, h3, h5⟩ := D.ex
  exact pe_prop he h1 h2 h5 (hr.mono hj) h3 .nil hx hab
theorem q_eqD (D : SpD X.prog X.w X.K X.mg X.base CX k C "__eq__" sp) (hr : Room j X.A) (hx : Passes CX X E) (hj : k ≤ j := by decide) : OpR X (compareOp .Eq) (rEqI X.K C sp E) := by
  obtain ⟨f, fd, ps, h1, h2, h3, h4⟩ := D.ex
  exact q_eqI h1 h2 h4 (hr.mono hj) h3 hx
theorem q_neD (hne : PySem.W.findIn X.K (.ref C) "__ne__" = some (some (.builtin "object.__ne__"))) (hm : PySem.W.mroIn X.K C (.type "object") = some true) (D : SpD X.prog X.w X.K X.mg X.base CX k C "__eq__" sp) (hr : Room j X.A) (hx : Passes CX X E)
    (hj : k + 1 ≤ j := by decide) : OpR X (compareOp .NotEq) (rNeI X.K C sp E) := by
  obtain ⟨f, fd, ps, h1, h2, h3, h4⟩ := D.ex
  exact q_neI hne hm h1 h2 h4 (hr.mono hj) h3 hx
theorem q_strD (D : SpD X.prog X.w X.K X.mg X.base CX k C "__str__" sp) (hr : Room j X.A) (hx : Passes CX X E) (hj : k + 2 ≤ j := by decide) : CallR X (.type "str") (rStrI C sp E) := by
  obtain ⟨f, fd, ps, h1, h2, h3, h4⟩ := D.ex
  exact q_strI h1 h2 h4 (hr.mono hj) h3 hx
end
theorem u_moment0 {K : PySem.W.Frag} {e : En} {G H : Hp} {M : List Addr} {x : V} {t : Value} {Q : VK} {E : XK} {l : Int} (w : Wd e G H M) (h : Kd K G x t) (k : ∀ G' H', Wd e G' H' M → Same G G' → Same H H' → Q (.bl (momV x l)) H') :
    spMoment K ([x] ++ [.int l]) H Q E := u_moment w h k
theorem r_tyL {K : PySem.W.Frag} {H : Hp} {p : Addr} {xs : List V} {R : Prop} (h : SqL K H p xs) (q : R) : tyV K "list" (.ref p) H ∧ R := ⟨.inl ⟨rfl, xs, h⟩, q⟩
def bl3 (a b c : Bool) : PyData := .list [.bool a, .bool b, .bool c]
theorem EqTo.same {K : PySem.W.Frag} {C : Addr} {G G' : Hp} {z : Str} {i : Int} {b r : Bool} {y : V} (h : EqTo K C G z i b y r) (s : Same G G') : EqTo K C G' z i b y r := by
  rcases h with ⟨t, h1, h2, h3⟩ | ⟨c, z', i', b', h1, h2, h3⟩
  · exact .inl ⟨t, same_ty s h1, h2, h3⟩
  · exact .inr ⟨c, z', i', b', h1, h2.same s, h3⟩
end Q
namespace Q
open PySem PySem.Spec PyProof.Rows L2
/-- a property's getter -/
def getterOf (K : PySem.W.Frag) (p : Addr) : Addr := match PySem.W.recIn K p "property" with
  | some (.ref g :: _) => g
  | _ => 0
def propB (K : PySem.W.Frag) (C : Addr) (f : Str) : Bool := He.eqO (PySem.W.findIn K (.ref C) f) (some (some (.ref (He.ma K C f)))) && (He.eqO (PySem.W.specialIn K (.ref (He.ma K C f)) "__get__") (some (some (.builtin "property.__get__"))) &&
  (decide (PySem.W.takesIn K (.ref (He.ma K C f)) = some true) && (match PySem.W.recIn K (He.ma K C f) "property" with
    | some (.ref _ :: _) => true
    | _ => false)))
theorem propB_ok {K : PySem.W.Frag} {C : Addr} {f : Str} (h : propB K C f = true) : PropOf K C f (He.ma K C f) (getterOf K (He.ma K C f)) := by
  obtain ⟨h1, h⟩ := He.ba h
  obtain ⟨h2, h⟩ := He.ba h
  obtain ⟨h3, h4⟩ := He.ba h
  refine ⟨He.eqO_ok h1, He.eqO_ok h2, of_decide_eq_true h3, ?_⟩
  unfold getterOf
  split at h4
  · rename_i g rest e
    exact ⟨rest, by rw [e]⟩
  · cases h4
end Q
namespace Q
open PySem PySem.Spec PyProof.Rows L2
/-- at a: an exception of the class cls, its dict d -/
def ExK (cls : Value) (d : Option Addr) (a : Addr) : HO := .ext fun h => ∃ (oe : Obj) (vs : Array Value), h.get? a = some oe ∧ Zc cls d oe ∧ oe.data = .fields vs
theorem exK_nt {cls : Value} {d : Option Addr} {a : Addr} : NoT (ExK cls d a) := fun ps z => by
  have y : HO.ext _ = HO.tbl ps := z
  cases y
section
variable {X : Cx} {pins : List (Addr × Obj)} {σ : L2.St} {H : Hp} {s : Shared} {a : Addr} {oe : Obj} {cls : Value} {d : Option Addr}
theorem exK_at (I : Inv X pins σ H s) (e : H a = some (ExK cls d a)) : ∃ (oe : Obj) (vs : Array Value), s.heap.get? a = some oe ∧ Zc cls d oe ∧ oe.data = .fields vs := by
  have x : ObjOk X.prog X.w H s.heap a (.ext fun h => ∃ (oe : Obj) (vs : Array Value), h.get? a = some oe ∧ Zc cls d oe ∧ oe.data = .fields vs) := I.hok a _ e
  exact x.1
/-- a pinned exception is told from now on -/
theorem track_exc {vs : Array Value} (I : Inv X ((a, oe) :: pins) σ H s) (hz : Zc cls d oe) (hd : oe.data = .fields vs) (far : ∀ o, X.s_0.heap.get? a = some o → X.H_0 a = none → a ∉ X.ex → False) (apart : ∀ p ∈ X.pn ++ pins, p.1 ≠ a) :
    Inv X pins σ (upd H a (ExK cls d a)) s := by
  obtain ⟨here, fresh, offL, _, _⟩ := I.pin (a, oe) (List.mem_append_right _ List.mem_cons_self)
  have told : ∀ {b : Addr} {u : HO}, H b = some u → b ≠ a := fun {b u} z y => by
    rw [y, fresh] at z
    cases z
  have cells : ∀ y c, X.env.cells.lookup y = some c → c ≠ a := fun y c z y2 => by
    obtain ⟨v, o, ho, hv⟩ := I.cell y c z
    rw [y2] at ho
    obtain rfl := Option.some.inj (ho.symm.trans here)
    rw [hd] at hv
    cases hv
  have bs : Un X.fs X.ex X.H_0 (upd H a (ExK cls d a)) X.s_0.heap s.heap := by
    refine ⟨I.base.keep, I.base.slot, fun b o z n nx => ?_, I.base.there, fun b xs z => ?_, fun b o u z => ?_, fun b ps z => ?_⟩
    · by_cases y : b = a
      · rw [y] at z n nx
        exact (far o z n nx).elim
      · rw [upd_ne y]
        exact I.base.free b o z n nx
    · have t := I.base.tups b xs z
      rw [upd_ne (told t)]
      exact t
    · have t := I.base.frzs b o u z
      rw [upd_ne (told t)]
      exact t
    · obtain ⟨more, t⟩ := I.base.tbls b ps z
      refine ⟨more, ?_⟩
      rw [upd_ne (told t)]
      exact t
  refine ⟨I.ok, I.os, I.bare, bs, I.loc, I.cell, ?_, fun y c z => ?_, fun p hp => ?_, fun b u z => ?_, I.len⟩
  · rw [upd_ne offL.symm]
    exact I.free
  · rw [upd_ne (cells y c z)]
    exact I.freeC y c z
  · have hp2 : p ∈ X.pn ++ ((a, oe) :: pins) := by
      rcases List.mem_append.mp hp with q | q
      · exact List.mem_append_left _ q
      · exact List.mem_append_right _ (List.mem_cons_of_mem _ q)
    obtain ⟨q1, q2, q3⟩ := I.pin p hp2
    exact ⟨q1, by rw [upd_ne (apart p hp)]; exact q2, q3⟩
  · by_cases y : b = a
    · rw [y, upd_same] at z
      rw [y, ← Option.some.inj z]
      refine ⟨⟨oe, vs, here, hz, hd⟩, ⟨oe, here⟩, fun h1 h2 q k => ?_⟩
      obtain ⟨o2, v2, r1, r2⟩ := q
      exact ⟨o2, v2, k _ r1, r2⟩
    · rw [upd_ne y] at z
      refine (I.hok b u z).stay (fun c v _ q => q) (fun c q => ?_) fun c xs q => ?_
      · rw [upd_ne (told q)]
        exact q
      · rw [upd_ne (told q)]
        exact q
end
end Q
namespace Q
open PySem PySem.Spec PyProof.Rows L2
/-- e.f of an exception | of an instance -/
def FldX (K : PySem.W.Frag) (f : Str) (x : V) (H : Hp) (Q : VK) : Prop := ∃ (a C dd : Addr) (fs : List (Str × V)) (v : V), x = .ref a ∧ H a = some (ExK (.ref C) (some dd) a) ∧ H dd = some (.xd fs) ∧ XfC K C ∧ PySem.W.findIn K (.ref C) f = some none ∧ fs.lookup f = some v ∧ Q v H
def tFldX (K : PySem.W.Frag) (f : Str) (te : TE) : TE := fun σ H Q => te σ H fun x H1 => FldX K f x H1 Q
theorem pe_xv {X : Cx} {e : Expr} {te : TE} {pos : Pos} {f : Str} (he : PE X e te) (hb : attributeBase e f X.env (eval e X.env) = eval e X.env := by rfl) : PE X (.Attribute e f pos) (tFldX X.K f te) := by
  refine ⟨fun pins s σ H Q I h => ?_⟩
  refine attr_of hb (thn (he.run pins s σ H _ I h) fun u s1 told => ?_)
  obtain ⟨x, H1, I1, rx, a, C, dd, fs, v, ex, ea, ed, T, no, l, q⟩ := told
  subst ex
  obtain rfl : u = Value.ref a := rx
  obtain ⟨oe, vs, here, z, hd⟩ := exK_at I1 ea
  obtain ⟨mA, names, rel⟩ := (show ObjOk X.prog X.w H1 s1.heap dd (.xd fs) from I1.hok dd _ ed)
  obtain ⟨od, ho, looks⟩ := lookIn_ns names
  obtain ⟨u, hu, ru⟩ := RelO.some_of (v := v) (o := mA f) (by rw [← l]; exact rel f)
  have J : PySem.W.InstAt s1.heap a oe C (some od) := by
    refine ⟨here, z.1, ?_, ?_⟩
    · unfold PySem.W.notCls
      rw [hd] <;> rfl
    · rw [z.2]
      exact ho
  refine HandSPX.exc_get I1.kIn J T.ga T.gg T.exC (PySem.W.findObj_own T.hdC no rfl ?_) (handed_of ru) ⟨v, H1, I1.tok _, ru, q⟩
  rw [looks, hu]
section
variable {K : PySem.W.Frag} {f : Str} {te : TE} {σ : L2.St} {H : Hp} {Qv : VK} {a C dd : Addr} {fs : List (Str × V)} {v : V}
theorem r_tFldX (q : te σ H fun x H1 => FldX K f x H1 Qv) : tFldX K f te σ H Qv := q
theorem r_fldX (h : H a = some (ExK (.ref C) (some dd) a)) (hd : H dd = some (.xd fs)) (T : XfC K C) (n : PySem.W.findIn K (.ref C) f = some none) (l : fs.lookup f = some v) (q : Qv v H) : FldX K f (.ref a) H Qv := ⟨a, C, dd, fs, v, rfl, h, hd, T, n, l, q⟩
end
/-- isinstance of a kept exception -/
def rIsK (K : PySem.W.Frag) : List V → Hp → VK → Prop := fun xs H Q => ∃ (a C : Addr) (d : Option Addr) (c : V) (cv : Value) (b : Bool), xs = [.ref a, c] ∧ H a = some (ExK (.ref C) d a) ∧ (∀ dd, d = some dd → ∃ fs, H dd = some (.xd fs)) ∧ (∀ u, RelV c u → u = cv) ∧ ExcC K C ∧ PySem.W.kitOne K (.ref C) cv = some b ∧ Q (.bl b) H
theorem call_isK {X : Cx} : CallR X (.builtin "isinstance") (rIsK X.K) := by
  intro pins s σ H xs us Q I r h
  obtain ⟨a, C, d, c, cv, b, rfl, ea, dd, hcv, T, e, q⟩ := h
  obtain ⟨u1, u2, rfl, r1, r2⟩ := r.two
  cases (show u1 = Value.ref a from r1)
  obtain rfl := hcv _ r2
  obtain ⟨oe, vs, here, z, hd⟩ := exK_at I ea
  have nc : PySem.W.notCls oe = true := by
    unfold PySem.W.notCls
    rw [hd] <;> rfl
  have J : ∃ od, PySem.W.InstAt s.heap a oe C od := by
    cases d with
    | none => exact ⟨none, here, z.1, nc, by rw [z.2]; trivial⟩
    | some d0 =>
      obtain ⟨fs, ed⟩ := dd d0 rfl
      obtain ⟨mA, names, _⟩ := (show ObjOk X.prog X.w H s.heap d0 (.xd fs) from I.hok d0 _ ed)
      obtain ⟨od, ho, _⟩ := lookIn_ns names
      exact ⟨some od, here, z.1, nc, by rw [z.2]; exact ho⟩
  obtain ⟨od, J⟩ := J
  have hcl : (PySem.W.clsIn X.K C).isSome = true := by
    obtain ⟨cd, hc, _⟩ := PySem.W.any_some T.hd
    rw [hc]
    rfl
  exact PySem.W.kia_one (PySem.W.kitx_exc hcl T.hg T.hk T.hs T.ha T.hn T.ht T.hm) I.kIn J e (fun z => nomatch z) fun tk => ⟨.bl b, H, I.kept (t' := tk) fun _ _ z => z, rfl, q⟩
def rIsU (K : PySem.W.Frag) : List V → Hp → VK → Prop := fun xs H Q => rIsi K xs H Q ∨ rIsK K xs H Q
theorem q_isi {X : Cx} : CallR X (.builtin "isinstance") (rIsU X.K) := cr_or call_isi call_isK
section
variable {K : PySem.W.Frag} {H : Hp} {a C D dd : Addr} {fs : List (Str × V)} {b : Bool} {Qv : VK}
theorem r_isuK (h : H a = some (ExK (.ref C) (some dd) a)) (hd : H dd = some (.xd fs)) (T : ExcC K C) (e : PySem.W.kitOne K (.ref C) (.ref D) = some b) (q : Qv (.bl b) H) : rIsU K [.ref a, .ref D] H Qv :=
  .inr ⟨a, C, some dd, .ref D, .ref D, b, rfl, h, fun d0 z => ⟨fs, by rw [← Option.some.inj z]; exact hd⟩, fun _ z => z, T, e, q⟩
theorem r_isuT {n : String} (h : H a = some (ExK (.ref C) (some dd) a)) (hd : H dd = some (.xd fs)) (T : ExcC K C) (e : PySem.W.kitOne K (.ref C) (.type n) = some b) (q : Qv (.bl b) H) : rIsU K [.ref a, .ty n] H Qv :=
  .inr ⟨a, C, some dd, .ty n, .type n, b, rfl, h, fun d0 z => ⟨fs, by rw [← Option.some.inj z]; exact hd⟩, fun _ z => z, T, e, q⟩
end
structure ErD (P : Program) (w : World) (K : PySem.W.Frag) (mg : Str → Option Value) (base : Heap) (x : Str) (C : Addr) (sp : Sp) : Prop where
  ex : ∃ (fI : Addr) (fd : FuncData) (ps : List Str), OexC K C ∧ PySem.W.findIn K (.ref C) "__init__" = some (some (.ref fI)) ∧ PySem.W.typeIn K (.ref fI) = some (.type "function") ∧ mg x = some (.ref C) ∧ Binds K fd ps [] ∧ FnOk P w K mg base CX0 1 fI fd ps sp
def tRaise (C : Addr) (sp : Sp) (ta : TA) (W : WX) : TS := fun _ σ H => tMkO C sp [] ta σ H fun cls d H' => W cls d σ H'
section
variable {X : Cx} {W : WX} {j : Nat} {C : Addr} {sp : Sp} {x : Str} {e : Expr} {es : List Expr} {ta : TA} {p pos pos2 : Pos}
theorem ps_raiseD (hc : X.calm = true) (tk : Takes X W) (D : ErD X.prog X.w X.K X.mg X.base x C sp) (hr : Room j X.A) (ha : PA X (e :: es) ta) (hj : 2 ≤ j := by decide) (hg : Gl X x := by rfl)
    (hdb : (x == ("__debug__" : Str)) = false := by decide) (he : starEach (e :: es) X.env = (false, eval e X.env) :: starEach es X.env := by rfl) (hpl : (backTo pos (starEach es X.env)).any (·.1) = false := by rfl) :
    PS X (.Raise (some (.Call (.Name x p) (e :: es) [] pos)) none pos2) (tRaise C sp ta W) := by
  obtain ⟨fI, fd, ps, h1, h2, h3, h4, h5, h6⟩ := D.ex
  exact ps_raise hc tk (pmk_oex (dvs := []) (ds := []) h1 h2 h3 h6 (hr.mono hj) h5 .nil pass0 hg h4 ha hdb he hpl)
end
def MkOGo (C : Addr) (sp : Sp) (vs : List V) (H : Hp) (Q : XK) : Prop := vs.length ≤ 1000 ∧ ∀ a, H a = none → sp (.ref a :: (vs ++ [])) (upd H a (exo a C none))
  (fun v H2 => v = .non ∧ ∃ (d : Addr) (fs : List (Str × V)), H2 a = some (exo a C (some d)) ∧ H2 d = some (exd d fs) ∧ H d = none ∧ Q (.ref C) (some d) (upd (L2.del H2 a) d (.xd fs))) (fun _ _ _ => False)
theorem r_tRaise {C : Addr} {sp : Sp} {ta : TA} {W : WX} {D : Ends} {σ : L2.St} {H : Hp} (q : ta σ H fun vs H1 => MkOGo C sp vs H1 fun cls d H' => W cls d σ H') : tRaise C sp ta W D σ H := q
def spErr1 (C : Addr) (f : Str) : Sp := fun vs H Q _ => ∃ (a : Addr) (v : V), vs = [.ref a, v] ∧ H a = some (exo a C none) ∧ ∀ dx, H dx = none → dx ≠ a → Q .non (upd (upd H dx (exd dx [(f, v)])) a (exo a C (some dx)))
section
variable {e : En} {G H : Hp} {M : List Addr} {C : Addr} {f g : Str} {v u : V} {Q : XK}
theorem u_raise1 (w : Wd e G H M) (k : ∀ d G' H', Wd e G' H' M → Same G G' → Same H H' → G' d = some (.xd [(f, v)]) → Q (.ref C) (some d) H') : MkOGo C (spErr1 C f) [v] H Q := by
  refine ⟨Nat.le_of_ble_eq_true rfl, fun a ha => ⟨a, v, rfl, upd_same, fun dx hd ne => ⟨rfl, dx, [(f, v)], upd_same, ?_, ?_, ?_⟩⟩⟩
  · rw [upd_ne ne, upd_same]
  · rw [upd_ne ne] at hd
    exact hd
  · rw [upd_ne ne] at hd
    have z : upd (L2.del (upd (upd (upd H a (exo a C none)) dx (exd dx [(f, v)])) a (exo a C (some dx))) a) dx (.xd [(f, v)]) = upd H dx (.xd [(f, v)]) := by
      funext b
      by_cases h1 : b = dx
      · rw [h1, upd_same, upd_same]
      · rw [upd_ne h1, upd_ne h1]
        by_cases h2 : b = a
        · rw [h2, del_same, ha]
        · rw [del_ne h2, upd_ne h2, upd_ne h1, upd_ne h2]
    rw [z]
    exact k dx _ _ (wd_lay w hd) (same_upd (w.g hd)) (same_upd hd) upd_same
end
section
variable {P : Program} {w : World} {K : PySem.W.Frag} {mg : Str → Option Value} {base : Heap} {x qual : Str} {st : Stmt} {f : Addr} {fd : FuncData} {N ps : List Str} {k : Nat} {sp : Sp} {dvs : List V}
theorem fnP_okX (F : FnP K x qual st dvs f fd) (S : FnScope N ps (defScope st)) (len : ∀ vs H Q E, sp vs H Q E → vs.length = ps.length)
    (body : ∀ (cdv : Value) (A : Around) (outer : List Env) (s : Shared) (H : Hp) (vs : List V) (Q : VK) (E : XK), Room k (A.deeper (envOfC qual (defScope st) s.heap.objs.size f cdv)) → sp vs H Q E →
      ∃ t, PSs (cxOf (L2.CX P w) P w K mg base N qual (defScope st) f cdv A outer s H E) (defBody st) t ∧ t { nx := fun _ H' => Q .non H', rt := Q } (start N vs) H) :
    FnOk P w K mg base (L2.CX P w) (k + 1) f fd ps sp := FunD.ok F S len body
end
abbrev takesD {P : Program} {w : World} {K : PySem.W.Frag} {mg : Str → Option Value} {base : Heap} {N : List Str} {qual : Str} {sc : Scope} {f : Addr} {cdv : Value} {A : Around} {outer : List Env} {s : Shared} {H : Hp} {E : XK} :
    Takes (cxOf (L2.CX P w) P w K mg base N qual sc f cdv A outer s H E) (fun cls d _ H' => E cls d H') := takes_of rfl rfl rfl rfl
theorem passD {P : Program} {w : World} {K : PySem.W.Frag} {mg : Str → Option Value} {base : Heap} {N : List Str} {qual : Str} {sc : Scope} {f : Addr} {cdv : Value} {A : Around} {outer : List Env} {s : Shared} {H : Hp} {E : XK} :
    Passes (L2.CX P w) (cxOf (L2.CX P w) P w K mg base N qual sc f cdv A outer s H E) E := passes_call (W := fun cls d _ H' => E cls d H') (takes_of rfl rfl rfl rfl) fun _ _ _ _ h => h
theorem ok_err1 {P : Program} {w : World} {K : PySem.W.Frag} {mg : Str → Option Value} {base : Heap} {C : Addr} {qual fld : Str} {st : Stmt} {f : Addr} {fd : FuncData} (F : FnP K "__init__" qual st [] f fd) (S : FnScope [("self" : Str), fld] [("self" : Str), fld] (defScope st)) (T : OexC K C)
    (no : PySem.W.findIn K (.ref C) fld = some none)
    (body : ∀ X : Cx, X.N = [("self" : Str), fld] → X.env.scope = defScope st → PSs X (defBody st) (tOst X.K fld (tVar 0) (tVar 1))) : FnOk P w K mg base CX0 1 f fd [("self" : Str), fld] (spErr1 C fld) := by
  refine fnP_ok F S (fun vs H Q E h => ?_) (fun cdv A outer s H vs Q E hr h => ?_)
  · obtain ⟨a, v, rfl, _⟩ := h
    rfl
  · obtain ⟨a, v, rfl, ha, k⟩ := h
    refine ⟨_, body _ rfl rfl, ?_⟩
    exact ⟨v, rfl, .ref a, rfl, a, C, rfl, T, no, .inl ⟨ha, fun dx hd ne => k dx hd ne⟩⟩
end Q
namespace Q
open PySem PySem.Spec PyProof.Rows L2
theorem wd_made {e : En} {G1 H1 G2 H2 : Hp} {M : List Addr} {x : Addr} {o : HO} (w1 : Wd e G1 H1 (x :: M)) (b2 : But x H1 H2) (h2 : H2 x = some o) (no : plainB o = true) (s2 : Gh G2 H2) (s3 : Same G1 G2) (fr : ∀ a, H1 a ≠ none → G2 a = G1 a) : Wd e G2 H2 (x :: M) := by
  have w3 := wd_but w1 List.mem_cons_self b2 h2 no
  refine ⟨s2.1, fun a ha => ?_, w1.nd, w3.dom, fun a o h => s3 _ _ (w1.gr _ _ h), fun a ha => by rw [fr a (w1.dom a ha)]; exact w1.fr a ha, w3.kp, s2.2, w3.mt, w3.tb⟩
  obtain ⟨g1, ⟨o, g2⟩, g3⟩ := w1.mu a ha
  obtain ⟨_, g4, _⟩ := w3.mu a ha
  exact ⟨by rw [fr a (some_ne g2)]; exact g1, g4, g3⟩
end Q
namespace Q
open PySem PySem.Spec PyProof.Rows L2
theorem app_list (a b : Str) : (a ++ b).cps.toList = a.cps.toList ++ b.cps.toList := by
  show (a.cps ++ b.cps).toList = _
  simp
theorem len_list (a : Str) : a.length = a.cps.toList.length := by simp [Str.length]
/-- a letter, then letters and figures, m at most -/
def NmPre (z : Str) (m : Nat) : Prop := ∃ c r, z.cps.toList = c :: r ∧ letB c = true ∧ (∀ d ∈ r, (letB d || figB d) = true) ∧ z.length ≤ m
theorem NmPre.one {c : Nat} (h : c ∈ zLetters.cps.toList) : NmPre ⟨#[c]⟩ 1 := ⟨c, [], rfl, decide_eq_true h, fun _ h => (by cases h), Nat.le_refl _⟩
theorem NmPre.more {z : Str} {m k : Nat} (h : NmPre z m) (hk : m ≤ k) : NmPre z k := by
  obtain ⟨a, r, e1, e2, e3, e4⟩ := h
  exact ⟨a, r, e1, e2, e3, Nat.le_trans e4 hk⟩
theorem NmPre.ok {z : Str} (h : NmPre z 8) (n : inV (.str z) resV = false) : nmOk z = true := by
  obtain ⟨a, r, e1, e2, e3, e4⟩ := h
  have l1 : 1 ≤ z.length := by
    rw [len_list, e1]
    simp
  unfold nmOk
  rw [n, decide_eq_true l1, decide_eq_true e4, e1]
  have all : (a :: r).all (fun c => letB c || figB c) = true := by
    rw [List.all_cons, e2, Bool.true_or, Bool.true_and]
    exact List.all_eq_true.mpr e3
  rw [all]
  show (true && true && (!false && (letB a && true))) = true
  rw [e2]
  rfl
theorem cut1 {z : Str} {c : Nat} {r : List Nat} (h : z.cps.toList = c :: r) : (cutS z (some 1) none).cps.toList = r := by
  have l : z.length = r.length + 1 := by
    rw [len_list, h]
    simp
  unfold cutS
  rw [h]
  have s1 : HT.sIx z.length 0 (some 1) = 1 := by
    have := HT.sIx_nat z.length 0 1
    rw [show (some (1 : Int)) = some ((1 : Nat) : Int) from rfl, this]
    omega
  rw [s1, HT.sIx_none, l]
  simp
theorem x_free {z : Str} {r : List Nat} (h : z.cps.toList = 120 :: r) : inV (.str z) resV = false := by
  unfold inV
  rw [List.any_eq_false]
  intro y hy
  obtain ⟨s, hs, rfl⟩ := List.mem_map.mp hy
  have no : ∀ s ∈ resS, s.cps.toList.head? ≠ some 120 := by decide
  show ¬ (s == z) = true
  intro e
  have e2 : s = z := eq_of_beq e
  have n := no s hs
  rw [e2, h] at n
  exact n rfl
theorem NmPre.x {z : Str} (h : NmPre z 8) : nmOk (Str.ofString "x" ++ cutS z (some 1) none) = true := by
  obtain ⟨a, r, e1, e2, e3, e4⟩ := h
  have hx : (Str.ofString "x" ++ cutS z (some 1) none).cps.toList = 120 :: r := by
    rw [app_list, cut1 e1]
    rfl
  have lz : z.length = r.length + 1 := by
    rw [len_list, e1]
    simp
  refine NmPre.ok ⟨120, r, hx, by decide, e3, ?_⟩ (x_free hx)
  rw [len_list, hx]
  simp
  omega
theorem r_slS {z : Str} {lo hi : Option Int} {H : Hp} {Qv : VK} (h : z.length ≤ sizeLine) (q : Qv (.str (cutS z lo hi)) H) : rSlS (.str z) lo hi H Qv := ⟨z, rfl, h, q⟩
end Q
namespace Q
open PySem PySem.Spec PyProof.Rows L2
theorem wd_lam {e : En} {G H H1 : Hp} {M : List Addr} (w : Wd e G H M) (x : LamX.ExtN H H1) (t : LamX.Tabs e.T H1) (cov : ∀ a, e.H0 a ≠ none → (∃ q, (a, q) ∈ e.T) ∨ (a ∉ e.P0 ∧ ∀ o, e.H0 a = some o → NoT o)) (inP : ∀ p ∈ e.T, p.1 ∈ e.P0) : Wd e G H1 M where
  le := fun a o z => x a o (w.le a o z) (w.nt a o z)
  mu := fun a ha => by
    obtain ⟨h1, ⟨o, h2⟩, h3⟩ := w.mu a ha
    exact ⟨h1, ⟨o, x a o h2 (pl_nt (w.mt a ha o h2))⟩, h3⟩
  nd := w.nd
  dom := fun a z => by
    rcases cov a z with ⟨q, hq⟩ | ⟨off, no⟩
    · obtain ⟨ps, y, _⟩ := t _ hq
      rw [show H1 a = some (.tbl ps) from y]
      simp
    · cases y : e.H0 a with
      | none => exact absurd y z
      | some o =>
        rw [x a o (w.kp a o off y) (no o y)]
        simp
  gr := w.gr
  fr := w.fr
  kp := fun a o off z => by
    rcases cov a (some_ne z) with ⟨q, hq⟩ | ⟨_, no⟩
    · exact absurd (inP _ hq) off
    · exact x a o (w.kp a o off z) (no o z)
  nt := w.nt
  mt := fun a ha u z => by
    obtain ⟨_, ⟨o, h2⟩, _⟩ := w.mu a ha
    rw [x a o h2 (pl_nt (w.mt a ha o h2))] at z
    rw [← Option.some.inj z]
    exact w.mt a ha o h2
  tb := t
/-- what is known of an error's class that is heard -/
structure HdC (K : PySem.W.Frag) (C : Addr) (f : Str) : Prop where
  x : XfC K C
  e : ExcC K C
  n : PySem.W.findIn K (.ref C) f = some none
  v : PySem.W.kitOne K (.ref C) (.type "ValueError") = some true
end Q
namespace Q
open PySem PySem.Spec PyProof.Rows L2
/-- C.m is a static method: its record at p, its def at g -/
structure CStat (K : PySem.W.Frag) (C : Addr) (mc : Value) (m : Str) (p g : Addr) : Prop where
  at_ : PySem.W.findCls K (.ref C) mc m = some (.get (.builtin "staticmethod.__get__") (.ref p) .none (.ref C))
  rc : ∃ rest, PySem.W.recIn K p "staticmethod" = some (.ref g :: rest)
  kp : PySem.W.keepIn K (.ref g) = true
structure StD (P : Program) (w : World) (K : PySem.W.Frag) (mg : Str → Option Value) (base : Heap) (CX : CXT) (k : Nat) (C : Addr) (m : Str) (sp : Sp) : Prop where
  ex : ∃ (mc : Value) (p g : Addr) (fd : FuncData) (ps : List Str), ClX.CRead K C mc ∧ CStat K C mc m p g ∧ Binds K fd ps [] ∧ FnOk P w K mg base CX k g fd ps sp
structure StK (P : Program) (w : World) (K : PySem.W.Frag) (mg : Str → Option Value) (base : Heap) (CX : CXT) (k : Nat) (C : Addr) (m : Str) (ks : List Str) (gV : List V → List V → List V) (sp : Sp) : Prop where
  ex : ∃ (mc : Value) (p g : Addr) (fd : FuncData) (ps : List Str) (gg : List Value → List Value → List Value), ClX.CRead K C mc ∧ CStat K C mc m p g ∧ KBn K fd ps 0 ks gg gV ∧ FnOk P w K mg base CX k g fd ps sp
def StatGo (C : Addr) (x : V) (R : Prop) : Prop := x = .ref C ∧ R
def tStat (C : Addr) (sp : Sp) (E : XK) (ta : TE) (t : TA) : TE := fun σ H Q => ta σ H fun x H1 => StatGo C x (t σ H1 fun vs H2 => sp vs H2 Q E)
def tStatK (C : Addr) (n : Nat) (sp : Sp) (E : XK) (ta : TE) (t : TA) (gV : List V → List V → List V) : TE := fun σ H Q => ta σ H fun x H1 => StatGo C x (t σ H1 fun zs H2 => zs.length = n ∧ sp (gV [] zs) H2 Q E)
section
variable {X : Cx} {CX : CXT} {k j : Nat} {C p g : Addr} {mc : Value} {sp : Sp} {E : XK} {o e : Expr} {es : List Expr} {m : Str} {pos apos : Pos} {ta : TE} {t : TA} {pl : Sem Bool} {ks : List Str} {kws : List Keyword} {gV : List V → List V → List V}
theorem get_stat {pins : List (Addr × Obj)} {σ : L2.St} {H : Hp} {s : Shared} {A : Around} {Ex : Value → Shared → Prop} {Q : Value × List Value → Shared → Prop} (I : Inv X pins σ H s) (r : ClX.CRead X.K C mc) (c : CStat X.K C mc m p g)
    (h : ∀ s', Inv X pins σ H s' → Q (.ref g, []) s') : wpAny (model X.prog X.w) A (getMethod (.ref C) m pl) Q Ex s := by
  obtain ⟨rest, hp⟩ := c.rc
  refine PySem.W.method_cls I.kIn r.ga (PySem.W.cls_bind I.kIn r.rd c.at_ ?_)
  exact wpAny_call (PySem.W.sm_get (s := { s with toks := s.toks + 1 }) I.kIn hp (PySem.W.handed_on rfl (h _ (I.tok _))))
theorem pe_statD (he : PE X o ta) (D : StD X.prog X.w X.K X.mg X.base CX k C m sp) (hr : Room j X.A) (hx : Passes CX X E) (ha : PA X (e :: es) t) (hj : k ≤ j := by decide)
    (hst : starEach (e :: es) X.env = (false, eval e X.env) :: starEach es X.env := by rfl) (hpl : (backTo pos (starEach es X.env)).any (·.1) = false := by rfl)
    (ht : eval (.Call (.Attribute o m apos) (e :: es) [] pos) X.env = (do
      let ov ← eval o X.env
      standAt apos.atName
      let (f, first) ← holding [ov] (getMethod ov m pl)
      callWith pos f first (backTo pos (starEach (e :: es) X.env)) (backToKw pos (keywordEach [] X.env))) := by rfl) : PE X (.Call (.Attribute o m apos) (e :: es) [] pos) (tStat C sp E ta t) := by
  obtain ⟨mc, p, g, fd, ps, r, c, hb, F⟩ := D.ex
  refine ⟨fun pins s σ H Q I h => ?_⟩
  refine PySem.W.methodCall_KW (pl := pl) (thn (he.run pins s σ H _ I h) fun u s1 told => ?_) ht
  obtain ⟨x, H1, I1, rx, ex, q⟩ := told
  subst ex
  obtain rfl : u = Value.ref C := rx
  refine get_stat I1 r c fun s2 I2 => ?_
  refine PySem.W.callWith_K (first := []) (h₀ := X.base) I2.ok.mod.kin c.kp (thn (ha.run pos pins s2 σ H1 _ I2 q) fun us s3 told => ?_) hst hpl
  obtain ⟨vs, H2, I3, rv, q2⟩ := told
  exact ⟨I3.kIn, run_under (us := us) (vs := vs) F (hr.mono hj) I3.env0 hb hx I3 rv q2⟩
theorem pe_statKD (he : PE X o ta) (D : StK X.prog X.w X.K X.mg X.base CX k C m ks gV sp) (hr : Room j X.A) (hx : Passes CX X E) (hkw : PK X kws t) (hj : k ≤ j := by decide)
    (hall : (backToKw pos (keywordEach kws X.env)).all (·.1.isSome) = true := by rfl) (hks : (backToKw pos (keywordEach kws X.env)).filterMap (·.1) = ks := by rfl)
    (hpl : ((backTo pos (starEach [] X.env)).any (·.1) || (backToKw pos (keywordEach kws X.env)).any (·.1.isNone)) = false := by rfl)
    (ht : eval (.Call (.Attribute o m apos) [] kws pos) X.env = (do
      let ov ← eval o X.env
      standAt apos.atName
      let (f, first) ← holding [ov] (getMethod ov m pl)
      callWith pos f first (backTo pos (starEach [] X.env)) (backToKw pos (keywordEach kws X.env))) := by rfl) : PE X (.Call (.Attribute o m apos) [] kws pos) (tStatK C ks.length sp E ta t gV) := by
  obtain ⟨mc, p, g, fd, ps, gg, r, c, hb, F⟩ := D.ex
  refine ⟨fun pins s σ H Q I h => ?_⟩
  refine PySem.W.methodCall_KW (pl := pl) (thn (he.run pins s σ H _ I h) fun u s1 told => ?_) ht
  obtain ⟨x, H1, I1, rx, ex, q⟩ := told
  subst ex
  obtain rfl : u = Value.ref C := rx
  refine get_stat I1 r c fun s2 I2 => ?_
  refine PySem.W.callWith_KW0 (first := []) (h₀ := X.base) I2.ok.mod.kin c.kp hall (thn (hkw.run pos pins s2 σ H1 _ I2 q) fun ws s3 told => ?_) hpl
  obtain ⟨zs, H2, I3, rz, l2, q2⟩ := told
  refine ⟨I3.kIn, ?_⟩
  rw [hks]
  have e2 : ws.length = ks.length := rz.length.symm.trans l2
  refine wpAny_call (codeAny_mono (F.run X.A X.stack s3 H2 ⟨[], ks.zip ws⟩ (gg [] ws) _ Q E (hr.mono hj) I3.env0 (hb.to _ [] ws I3.kIn rfl e2) (hb.rel .nil rz) q2) fun o s' hq => ?_)
  match o, hq with
  | .error e, hq => exact hx pins σ H2 s3 e s' I3 hq
  | .ok (.ret u), hq => exact I3.after hq
  | .ok .next, hq => exact hq.elim
  | .ok .brk, hq => exact hq.elim
  | .ok .cont, hq => exact hq.elim
end
section
variable {C : Addr} {sp : Sp} {E : XK} {ta : TE} {t : TA} {σ : L2.St} {H : Hp} {Qv : VK} {n : Nat} {gV : List V → List V → List V}
theorem r_tStat (q : ta σ H fun x H1 => StatGo C x (t σ H1 fun vs H2 => sp vs H2 Qv E)) : tStat C sp E ta t σ H Qv := q
theorem r_tStatK (q : ta σ H fun x H1 => StatGo C x (t σ H1 fun zs H2 => zs.length = n ∧ sp (gV [] zs) H2 Qv E)) : tStatK C n sp E ta t gV σ H Qv := q
theorem r_stat {R : Prop} (q : R) : StatGo C (.ref C) R := ⟨rfl, q⟩
end
end Q
namespace Q
open PySem PySem.Spec PyProof.Rows L2
mutual
inductive Dq (K : PySem.W.Frag) (H : Hp) : V → PyData → Prop
  | non : Dq K H .non .none
  | bl (b : Bool) : Dq K H (.bl b) (.bool b)
  | int (i : Int) : Dq K H (.int i) (.int i)
  | str (x : Str) : Dq K H (.str x) (.str x)
  | lst {a : Addr} {xs : List V} {ds : List PyData} (h : SqL K H a xs) (r : DqAll K H xs ds) : Dq K H (.ref a) (.list ds)
  | tup {a : Addr} {xs : List V} {ds : List PyData} (h : SqT K H a xs) (r : DqAll K H xs ds) : Dq K H (.ref a) (.tuple ds)
  | dic {a : Addr} {kvs : List (Key × V)} {ds : List (PyData × PyData)} (h : Rd H a (.dK kvs)) (k : DqAll K H (kvs.map fun p => kV p.1) (ds.map (·.1))) (r : DqAll K H (kvs.map (·.2)) (ds.map (·.2))) : Dq K H (.ref a) (.dict ds)
inductive DqAll (K : PySem.W.Frag) (H : Hp) : List V → List PyData → Prop
  | nil : DqAll K H [] []
  | cons {v : V} {vs : List V} {d : PyData} {ds : List PyData} (h : Dq K H v d) (r : DqAll K H vs ds) : DqAll K H (v :: vs) (d :: ds)
end
theorem sz_fst : ∀ ds : List (PyData × PyData), sizeOf (ds.map (·.1)) ≤ sizeOf ds
  | [] => by simp
  | (a, b) :: r => by
    have := sz_fst r
    simp at this ⊢
    omega
theorem sz_snd : ∀ ds : List (PyData × PyData), sizeOf (ds.map (·.2)) ≤ sizeOf ds
  | [] => by simp
  | (a, b) :: r => by
    have := sz_snd r
    simp at this ⊢
    omega
theorem rd_same {H H' : Hp} {a : Addr} {u : HO} (s : Same H H') (h : Rd H a u) : Rd H' a u := h.elim (fun e => .inl (s _ _ e)) fun ⟨o, e⟩ => .inr ⟨o, s _ _ e⟩
theorem same_dqAll {K : PySem.W.Frag} {H H' : Hp} (s : Same H H') : ∀ (n : Nat), (∀ d x, sizeOf d ≤ n → Dq K H x d → Dq K H' x d) ∧ (∀ ds vs, sizeOf ds ≤ n → DqAll K H vs ds → DqAll K H' vs ds) := by
  intro n
  induction n with
  | zero => exact ⟨fun d x hn h => (by cases d <;> simp at hn), fun ds vs hn h => (by cases ds <;> simp at hn)⟩
  | succ n ih =>
    have h1 : ∀ d x, sizeOf d ≤ n + 1 → Dq K H x d → Dq K H' x d := by
      intro d x hn h
      cases h with
      | non => exact .non
      | bl b => exact .bl b
      | int i => exact .int i
      | str x => exact .str x
      | lst hs ha => exact .lst (s.seq hs) (ih.2 _ _ (by simp at hn; omega) ha)
      | tup hs ha => exact .tup (same_sqT s hs) (ih.2 _ _ (by simp at hn; omega) ha)
      | dic h k r =>
        rename_i ds
        have h1 := sz_fst ds
        have h2 := sz_snd ds
        exact .dic (rd_same s h) (ih.2 _ _ (by simp at hn; omega) k) (ih.2 _ _ (by simp at hn; omega) r)
    refine ⟨h1, fun ds vs hn h => ?_⟩
    cases h with
    | nil => exact .nil
    | cons a b => exact .cons (h1 _ _ (by simp at hn; omega) a) (ih.2 _ _ (by simp at hn; omega) b)
theorem same_dq {K : PySem.W.Frag} {H H' : Hp} (s : Same H H') {x : V} {d : PyData} (h : Dq K H x d) : Dq K H' x d := (same_dqAll s (sizeOf d)).1 d x (Nat.le_refl _) h
end Q
namespace Q
open PySem PySem.Spec PyProof.Rows L2
section
variable {P : Program} {w : World} {K : PySem.W.Frag} {mg mb : Str → Option Value} {CX : CXT} {k : Nat} {fa a : Addr} {fd : FuncData} {x : Str} {sp : Sp} {s₁ : Shared} {vs : List Value} {ns : List Int} {cs : List (Addr × Addr)}
abbrev emptyT : Obj := { cls := .none, data := .fields #[] }
def isTab (cs : List (Addr × Addr)) (b : Addr) : Prop := ∃ p ∈ cs, p.2 = b
theorem from_heapT (Hh : Hp) (KX : K.In s₁.heap) (hns : s₁.heap.Ns mainGlobals mg) (hb : s₁.heap.Ns builtinsNs mb)
    (hbb : ∀ y : Str, y ≠ "__name__" → mb y = bootBuiltins y) (hlim : s₁.heap.NoLimit) (hg : s₁.gens = #[])
    (bmain : ∃ (bm : Addr) (ob : Obj), mg "__builtins__" = some (.ref bm) ∧ bm ≠ builtinsNs ∧ s₁.heap.get? bm = some ob ∧ ob.cls = .type "module" ∧ ob.dict = some builtinsNs ∧ ob.data = .plain)
    (hobj : s₁.heap.get? a = some { cls := .type "list", data := .seq vs.toArray }) (hr : Room k callerA)
    (hd : ∀ p ∈ cs, PySem.W.codeHdIn K p.1 p.2 = true) (off : ∀ p ∈ cs, K.lookup p.2 = none) (empty : ∀ p ∈ cs, s₁.heap.get? p.2 = some emptyT)
    (F : ∀ b0 : Heap, K.In b0 → b0.Ns mainGlobals mg → (∀ p ∈ cs, LamX.TabB b0 mg p.1 p.2) → FnA P w K mg b0 CX k fa fd [x] sp)
    (hbind : ∀ (s : Shared) (u : Value), BindsTo s fd ⟨[u], []⟩ [(x, u)]) (told : HOk P w Hh s₁.heap)
    (only : ∀ b, Hh b = none ∨ isTab cs b ∨ ∃ o xs, Hh b = some (.frz o (.lst xs))) (tabs : ∀ p ∈ cs, Hh p.2 = some (.tbl #[]))
    (hsp : sp [.ref a] Hh (fun v _ => v = .bl true) fun _ _ _ => False) (hCX : ∀ e s', CX [] Hh s₁ (fun _ _ _ => False) e s' → False)
    (alone : ∀ b, Hh b ≠ none → b = a ∨ isTab cs b) (apart : Hh a ≠ none → K.lookup a = none) :
    codeAny (model P w) callerA (.call (.ref fa) ⟨[.ref a], []⟩) (fun r t => r = .ok (.ret (.bool true)) ∧ OldK s₁.heap t.heap ∧ t.os = s₁.os ∧ AllBare t.gens) s₁ := by
  let base := hidT s₁.heap Hh
  have seen : ∀ {b : Addr} {o : Obj}, s₁.heap.get? b = some o → Hh b = none → base.get? b = some o := fun z n => hidT_get z n
  have other : ∀ {b : Addr} {o : Obj}, s₁.heap.get? b = some o → (∀ us n, o.data ≠ .seq us n) → o.data ≠ .fields #[] → Hh b = none := by
    intro b o z n1 n2
    by_cases q : Hh b = none
    · exact q
    · rcases alone b q with e | ⟨p, hp, e⟩
      · rw [e, hobj] at z
        obtain rfl := Option.some.inj z
        exact absurd rfl (n1 _ _)
      · rw [← e, empty p hp] at z
        obtain rfl := Option.some.inj z
        exact absurd rfl n2
  have dicts : ∀ {b : Addr} {o : Obj} {es : Array DictEntry} {ep : Nat}, s₁.heap.get? b = some o → o.data = .dict es ep → Hh b = none := fun {b o es ep} z d =>
    other z (fun us n y => by rw [d] at y; cases y) fun y => by rw [d] at y; cases y
  have names : ∀ {b : Addr} {m : Str → Option Value}, s₁.heap.Ns b m → base.Ns b m := by
    rintro b m ⟨o, es, ep, z, d, r⟩
    exact ⟨o, es, ep, seen z (dicts z d), d, r⟩
  have inB : K.In base := by
    intro b o z
    refine seen (KX b o z) ?_
    by_cases q : Hh b = none
    · exact q
    · rcases alone b q with e | ⟨p, hp, e⟩
      · rw [e] at z q
        rw [apart q] at z
        cases z
      · rw [← e, off p hp] at z
        cases z
  obtain ⟨mc, l1, l2⟩ := hlim
  have md : Mod K mg base := ⟨inB, names hns, ⟨mb, names hb, hbb⟩, ⟨mc, names l1, l2⟩⟩
  have TB : ∀ p ∈ cs, LamX.TabB base mg p.1 p.2 := by
    intro p hp
    have notG : mainGlobals ≠ p.2 := fun e => by
      obtain ⟨o, es, ep, z, d, _⟩ := hns
      rw [e, empty p hp] at z
      obtain rfl := Option.some.inj z
      cases d
    obtain ⟨bm, ob, b1, b2, b3, b4, b5, b6⟩ := bmain
    have bg : bm ≠ mainGlobals := fun e => by
      obtain ⟨o, es, ep, z, d, _⟩ := hns
      rw [e, z] at b3
      obtain rfl := Option.some.inj b3
      rw [d] at b6
      cases b6
    have bp : bm ≠ p.2 := fun e => by
      rw [e, empty p hp] at b3
      obtain rfl := Option.some.inj b3
      cases b6
    have bo : base.get? bm = some ob := seen b3 (other b3 (fun us n y => by rw [b6] at y; cases y) fun y => by rw [b6] at y; cases y)
    exact ⟨PySem.W.codeHd_of_K inB (hd p hp), ⟨bm, ob, b1, b2, bg, bp, bo, b4, b5, b6⟩, notG⟩
  have env : Env0 P w K mg base callerA [] s₁ Hh := by
    refine ⟨rfl, md, fun b o z => of_hidT z, Nat.le_of_eq (hidT_size _ _), trivial, fun b z => ?_, told, .of_eq hg⟩
    exact absurd (show b ∈ ([] : List Addr) from z) (by simp)
  have go := (F base inB (names hns) TB).run callerA [] s₁ Hh ⟨[.ref a], []⟩ [.ref a] [.ref a] _ _ g0_caller hr env (hbind s₁ (.ref a)) (.cons rfl .nil) hsp
  refine codeAny_mono go fun r t h => ?_
  match r, h with
  | .error e, h => exact (hCX e t h).elim
  | .ok .next, h => exact h.elim
  | .ok .brk, h => exact h.elim
  | .ok .cont, h => exact h.elim
  | .ok (.ret u), h =>
    obtain ⟨v, H', os, bare, un, told', ru, q⟩ := h
    have q' : v = .bl true := q
    subst q'
    obtain rfl : u = Value.bool true := ru
    have grown : ∀ p ∈ cs, ∃ more : Array Value, t.heap.get? p.2 = some { cls := .none, data := .fields more } := by
      intro p hp
      obtain ⟨more, y⟩ := un.tbls p.2 #[] (tabs p hp)
      exact ⟨_, told' p.2 _ y⟩
    have stays : ∀ b o, ¬ isTab cs b → s₁.heap.get? b = some o → t.heap.get? b = some o := by
      intro b o nt z
      by_cases n : Hh b = none
      · exact un.keep b o z n (by intro y; exact absurd (show b ∈ ([] : List Addr) from y) (by simp)) (by simp)
      · rcases only b with y | y | ⟨ob, xs, y⟩
        · exact absurd y n
        · exact absurd y nt
        · obtain ⟨e1, _⟩ := told b _ y
          obtain ⟨e2, _⟩ := told' b _ (un.frzs b ob _ y)
          rw [z] at e1
          obtain rfl := Option.some.inj e1
          exact e2
    refine ⟨rfl, ⟨fun b o z => ?_, fun b o z => ?_⟩, os, bare⟩
    · by_cases tb : isTab cs b
      · obtain ⟨p, hp, e⟩ := tb
        subst e
        obtain ⟨more, hm⟩ := grown p hp
        rw [empty p hp] at z
        obtain rfl := Option.some.inj z
        have code := (PySem.W.codeHd_of_K KX (hd p hp)).tab (empty p hp)
        exact .inr (.inl ⟨code.isCodeTable, rfl, #[], more, rfl, by rw [Array.empty_append]; exact hm⟩)
      · exact .inl (stays b o tb z)
    · by_cases tb : isTab cs b
      · obtain ⟨p, hp, e⟩ := tb
        subst e
        obtain ⟨more, hm⟩ := grown p hp
        exact ⟨_, hm⟩
      · exact ⟨o, stays b o tb z⟩
/-- nothing but the script and the tables is told -/
def OnlyT (cs : List (Addr × Addr)) (H : Hp) : Prop := ∀ b, H b = none ∨ isTab cs b ∨ ∃ o xs, H b = some (.frz o (.lst xs))
theorem end_AT (KX : K.In s₁.heap) (hns : s₁.heap.Ns mainGlobals mg) (hb : s₁.heap.Ns builtinsNs mb)
    (hbb : ∀ y : Str, y ≠ "__name__" → mb y = bootBuiltins y) (hlim : s₁.heap.NoLimit) (hg : s₁.gens = #[])
    (bmain : ∃ (bm : Addr) (ob : Obj), mg "__builtins__" = some (.ref bm) ∧ bm ≠ builtinsNs ∧ s₁.heap.get? bm = some ob ∧ ob.cls = .type "module" ∧ ob.dict = some builtinsNs ∧ ob.data = .plain)
    (hobj : s₁.heap.get? a = some { cls := .type "list", data := .seq vs.toArray }) (hi : IntsAre vs ns) (hl : ns.length ≤ sizeLine) (hr : Room k callerA)
    (hd : ∀ p ∈ cs, PySem.W.codeHdIn K p.1 p.2 = true) (off : ∀ p ∈ cs, K.lookup p.2 = none) (empty : ∀ p ∈ cs, s₁.heap.get? p.2 = some emptyT)
    (F : ∀ b0 : Heap, K.In b0 → b0.Ns mainGlobals mg → (∀ p ∈ cs, LamX.TabB b0 mg p.1 p.2) → FnA P w K mg b0 CX k fa fd [x] sp)
    (hbind : ∀ (s : Shared) (u : Value), BindsTo s fd ⟨[u], []⟩ [(x, u)])
    (hsp : ∀ Hh : Hp, OnlyT cs Hh → (∀ p ∈ cs, Hh p.2 = some (.tbl #[])) → SqL K Hh a (ns.map V.int) → sp [.ref a] Hh (fun v _ => v = .bl true) fun _ _ _ => False)
    (hCX : ∀ Hh e s', CX [] Hh s₁ (fun _ _ _ => False) e s' → False) :
    codeAny (model P w) callerA (.call (.ref fa) ⟨[.ref a], []⟩) (fun r t => r = .ok (.ret (.bool true)) ∧ OldK s₁.heap t.heap ∧ t.os = s₁.os ∧ AllBare t.gens) s₁ := by
  have rv := vals_ints hi
  have nv := hi.length
  have dec : ∀ b, Decidable (isTab cs b) := fun b => Classical.propDecidable _
  have notA : ¬ isTab cs a := fun ⟨p, hp, e⟩ => by
    have z := empty p hp
    rw [e, hobj] at z
    have y : Data.seq vs.toArray _ = Data.fields #[] := congrArg Obj.data (Option.some.inj z)
    cases y
  let H0 : Hp := fun b => @ite _ (isTab cs b) (dec b) (some (.tbl #[])) none
  have on : ∀ b, isTab cs b → H0 b = some (.tbl #[]) := fun b h => if_pos h
  have no : ∀ b, ¬ isTab cs b → H0 b = none := fun b h => if_neg h
  have tabOk : ∀ (Hh : Hp) b, isTab cs b → ObjOk P w Hh s₁.heap b (.tbl #[]) := fun Hh b ⟨p, hp, e⟩ => by
    rw [← e]
    exact empty p hp
  by_cases q : ∃ o, K.lookup a = some o
  · obtain ⟨o, lk⟩ := q
    have z := KX a o lk
    rw [hobj] at z
    obtain rfl := Option.some.inj z
    have only : OnlyT cs H0 := fun b => by
      by_cases n : isTab cs b
      · exact .inr (.inl n)
      · exact .inl (no b n)
    refine from_heapT H0 KX hns hb hbb hlim hg bmain hobj hr hd off empty F hbind (fun b u y => ?_) only (fun p hp => on _ ⟨p, hp, rfl⟩) (hsp _ only (fun p hp => on _ ⟨p, hp, rfl⟩) (.inr ⟨_, vs.toArray, _, lk, rfl, rfl, rfl, ?_, ?_⟩)) (hCX _) (fun b y => ?_) fun y => absurd (no a notA) y
    · by_cases n : isTab cs b
      · rw [on b n] at y
        rw [← Option.some.inj y]
        exact tabOk _ b n
      · rw [no b n] at y
        cases y
    · rw [List.size_toArray, nv]; exact hl
    · simpa using rv
    · by_cases n : isTab cs b
      · exact .inr n
      · exact absurd (no b n) y
  · have lk : K.lookup a = none := by
      cases z : K.lookup a with
      | none => rfl
      | some o => exact absurd ⟨o, z⟩ q
    let Hh : Hp := upd H0 a (.frz { cls := .type "list", data := .seq vs.toArray } (.lst (ns.map V.int)))
    have at_a : Hh a = some (.frz { cls := .type "list", data := .seq vs.toArray } (.lst (ns.map V.int))) := upd_same
    have atT : ∀ p ∈ cs, Hh p.2 = some (.tbl #[]) := fun p hp => by
      show upd H0 a _ p.2 = _
      rw [upd_ne (fun e => notA ⟨p, hp, e⟩)]
      exact on _ ⟨p, hp, rfl⟩
    have atO : ∀ b, b ≠ a → Hh b = H0 b := fun b n => upd_ne n
    have only : OnlyT cs Hh := fun b => by
      by_cases n : b = a
      · exact .inr (.inr ⟨_, _, by rw [n]; exact at_a⟩)
      · by_cases m : isTab cs b
        · exact .inr (.inl m)
        · exact .inl (by rw [atO b n]; exact no b m)
    refine from_heapT Hh KX hns hb hbb hlim hg bmain hobj hr hd off empty F hbind (fun b u y => ?_) only atT (hsp _ only atT (.inl (.inr ⟨_, at_a⟩))) (hCX _) (fun b y => ?_) fun _ => lk
    · by_cases n : b = a
      · rw [n, at_a] at y
        obtain rfl := Option.some.inj y
        rw [n]
        exact ⟨hobj, by rw [List.length_map]; exact hl, vs, _, rv, hobj⟩
      · rw [atO b n] at y
        by_cases m : isTab cs b
        · rw [on b m] at y
          rw [← Option.some.inj y]
          exact tabOk _ b m
        · rw [no b m] at y
          cases y
    · by_cases n : b = a
      · exact .inl n
      · rw [atO b n] at y
        by_cases m : isTab cs b
        · exact .inr m
        · exact absurd (no b m) y
end
theorem walk_ofAT {l : PySem.W.OpenLaw} {n k : Nat} {q : Program} {loose : List Str} {XP : (Str → Option Value) → Heap → Prop} {YP : World → Heap → Prop} {d : DefRec} {CX : CXT} {x : Str}
    (hn : l.most = some n) (hn2 : n ≤ sizeLine) (hdf : d.params.defaults = []) (hr : Room k callerA)
    (F : ∀ (w : World) (mg : Str → Option Value) (fa : Addr) (h : Heap), YP w h → h.Ns mainGlobals mg → mg d.name = some (.ref fa) →
      ∃ (K : PySem.W.Frag) (fd : FuncData) (cs : List (Addr × Addr)) (sp : Sp), K.In h ∧ (∀ p ∈ cs, PySem.W.codeHdIn K p.1 p.2 = true) ∧ (∀ p ∈ cs, K.lookup p.2 = none) ∧ (∀ p ∈ cs, h.get? p.2 = some emptyT) ∧ (∀ (s : Shared) (u : Value), BindsTo s fd ⟨[u], []⟩ [(x, u)]) ∧
        (∀ (Hh : Hp) (a : Addr) (ns : List Int), ns.length ≤ n → OnlyT cs Hh → (∀ p ∈ cs, Hh p.2 = some (.tbl #[])) → SqL K Hh a (ns.map V.int) → sp [.ref a] Hh (fun v _ => v = .bl true) fun _ _ _ => False) ∧
        ∀ b0 : Heap, K.In b0 → b0.Ns mainGlobals mg → (∀ p ∈ cs, LamX.TabB b0 mg p.1 p.2) → FnA l.prog w K mg b0 CX k fa fd [x] sp)
    (hCX : ∀ (Hh : Hp) (s : Shared) (e : Value) (s' : Shared), CX [] Hh s (fun _ _ _ => False) e s' → False) :
    PySem.W.WalkO q loose XP YP l.row.toRowW d [] (fun f vs => PySem.call f vs) := by
  refine Att.attach_call hn hdf fun w s₀ s₁ mg mb fa o pm cd doc a vs ns G Y ho hd hcd hmg hobj hints hlen hg => ?_
  obtain ⟨K, fd, cs, sp, KX, h1, h2, h3, hb, hsp, hF⟩ := F w mg fa _ Y G.T.g hmg
  refine end_AT KX G.T.g G.T.b G.T.builtins G.T.nolimit hg G.T.bmain hobj hints (Nat.le_trans hlen hn2) hr h1 h2 h3 hF hb ?_ fun Hh e s' => hCX Hh s₁ e s'
  exact fun Hh hO hT hS => hsp Hh a ns hlen hO hT hS
def codeA (K : PySem.W.Frag) (f : Addr) : Addr := match K.lookup f with
  | some ⟨_, _, .func fd, _⟩ => (match fd.code with
    | .ref c => c
    | _ => 0)
  | _ => 0
/-- the code object of the def at f, its table -/
def cTA (K : PySem.W.Frag) (f : Addr) : Addr × Addr := (codeA K f, He.tabOf K (codeA K f))
def tabsQ (g : Addr → Option Obj) (tf : List (PySem.W.Frag → Addr)) (K : PySem.W.Frag) : Bool := tf.all fun p => PySem.W.codeHdIn K (cTA K (p K)).1 (cTA K (p K)).2 && (match g (cTA K (p K)).2 with
  | some o => He.emptyTab o
  | none => false)
abbrev AlR : Type := He.AlD × Bool
structure SaysR (fa : List He.Fa) (fn : List He5.DefA) (tf : List (PySem.W.Frag → Addr)) (ex : PySem.W.Frag → Bool) (h : Heap) (K : PySem.W.Frag) : Prop where
  t : He5.SaysA fa fn K
  more : ex K = true
  hd : ∀ p ∈ tf, PySem.W.codeHdIn K (cTA K (p K)).1 (cTA K (p K)).2 = true
  out : ∀ p ∈ tf, K.lookup (cTA K (p K)).2 = none
  empty : ∀ p ∈ tf, h.get? (cTA K (p K)).2 = some emptyT
theorem fnP_okAT {P : Program} {w : World} {K : PySem.W.Frag} {mg : Str → Option Value} {base : Heap} {x qual : Str} {st : Stmt} {f : Addr} {fd : FuncData} {N ps : List Str} {k : Nat} {sp : Sp} {dvs : List V} (F : FnP K x qual st dvs f fd) (S : FnScope N ps (defScope st)) (len : ∀ vs H Q E, sp vs H Q E → vs.length = ps.length)
    (body : ∀ (A : Around) (outer : List Env) (s : Shared) (H : Hp) (vs : List V) (Q : VK) (E : XK), G0 (A.deeper (envOfC qual (defScope st) s.heap.objs.size f (.ref (codeA K f)))) → Room k (A.deeper (envOfC qual (defScope st) s.heap.objs.size f (.ref (codeA K f)))) → sp vs H Q E →
      ∃ t, PSs (cxOf CX0 P w K mg base N qual (defScope st) f (.ref (codeA K f)) A outer s H E).nox (defBody st) t ∧ t { nx := fun _ H' => Q .non H', rt := Q } (start N vs) H) :
    FnA P w K mg base CX0 (k + 1) f fd ps sp := by
  obtain ⟨oc, od, dV, kV, doc, pm, an, cdv, ct, osl, rfl, lk, hcd, _, _⟩ := F.ex
  obtain ⟨c, rfl⟩ := He.codeIn_ref hcd
  have ec : codeA K f = c := by
    unfold codeA
    rw [lk] <;> rfl
  refine ⟨len, fun A outer s H args us vs Q E g hr e0 hb r h => ?_⟩
  refine LamX.run_ofS lk hcd S hr e0 hb r (len _ _ _ _ h) fun hr2 => ?_
  rw [ec] at body
  obtain ⟨t, h1, q⟩ := body A outer s H vs Q E (g0_deeper g) hr2 h
  exact ⟨t, h1.nox, q⟩
end Q
namespace Q
open PySem PySem.Spec PyProof.Rows L2
theorem passX0 {X : Cx} {P : Program} {w : World} : Passes (L2.CX P w) X E0 := fun _ _ _ _ _ _ _ h => by
  obtain ⟨_, _, _, _, _, _, _, _, _, _, _, _, z⟩ := h
  exact z.elim
/-- an error of the class cls with f = v leaves a def that changes nothing -/
def RetX (G H : Hp) (cls : Addr) (f : Str) (v : V) (E : XK) : Prop := ∀ d H' G', Same H H' → Gh G' H' → Same G G' → (∀ a, H a ≠ none → G' a = G a) → G' d = some (.xd [(f, v)]) → E (.ref cls) (some d) H'
theorem retX_of {G H G' H' : Hp} {M : List Addr} {cls d : Addr} {f : Str} {v : V} {E : XK} (k : RetX G H cls f v E) (w : Wd ⟨H, G, [], []⟩ G' H' M) (hd : G' d = some (.xd [(f, v)])) : E (.ref cls) (some d) H' :=
  k d H' G' (fun a o h => w.kp a o (by simp) h) w.gh w.gr w.fr hd
theorem retX_use {e : En} {G H : Hp} {M : List Addr} {cls : Addr} {f : Str} {v : V} {E : XK} (w : Wd e G H M) (k : ∀ d G' H', Wd e G' H' M → Same G G' → Same H H' → G' d = some (.xd [(f, v)]) → E (.ref cls) (some d) H') : RetX G H cls f v E :=
  fun d H' G' s1 s2 s3 fr hd => ret_use (P := fun _ G' => G' d = some (.xd [(f, v)])) (Q := fun _ H' => E (.ref cls) (some d) H') w (fun _ G' H' w' a b p => k d G' H' w' a b p) .non H' G' s1 s2 s3 fr hd
/-- an instance is made by keywords -/
def MakeGoK (C : Addr) (sp : Sp) (gV : List V → List V → List V) (vs zs : List V) (E : XK) (H : Hp) (Q : VK) : Prop := ∀ x dx, H x = none → H dx = none → dx ≠ x → sp (gV (.ref x :: vs) zs) (upd (upd H dx (.own x)) x (.ins C dx [])) (fun v H2 => v = .non ∧ Q (.ref x) H2) E
theorem r_tMakeK {C : Addr} {n m : Nat} {sp : Sp} {gV : List V → List V → List V} {E : XK} {t tk : TA} {σ : L2.St} {H : Hp} {Q : VK} (q : t σ H fun vs H1 => tk σ H1 fun zs H2 => vs.length = n ∧ zs.length = m ∧ MakeGoK C sp gV vs zs E H2 Q) : tMakeK C n m sp gV E t tk σ H Q := q
/-- an odd value, told: its data, its kinds -/
structure Odd (K : PySem.W.Frag) (G : Hp) (v : V) (d : PyData) : Prop where
  dq : Dq K G v d
  kd : ∃ t, Kd K G v t
  sh : d.showable = true
  dp : d.depth ≤ 10
  sz : d.shown.length ≤ 1000
  st : ∀ s, v = .str s → s.length ≤ 1000
theorem Odd.same {K : PySem.W.Frag} {G G' : Hp} {v : V} {d : PyData} (h : Odd K G v d) (s : Same G G') : Odd K G' v d := ⟨same_dq s h.dq, h.kd.elim fun t k => ⟨t, k.same s⟩, h.sh, h.dp, h.sz, h.st⟩
end Q
namespace Q
open PySem PySem.Spec PyProof.Rows L2
section
variable {H : Hp} {Qv : VK} {σ : L2.St}
theorem r_dnewK (q : Lay 0 (.dK []) Qv H) : tDNewK σ H Qv := q.2
theorem r_rep {l : Addr} {k : Int} {xs : List V} (h : H l = some (.lst xs)) (h1 : -(2 ^ 63) ≤ k) (h2 : k < 2 ^ 63) (hz : xs.length * k.toNat ≤ sizeLine) (q : Lay 0 (.lst (List.replicate k.toNat xs).flatten) Qv H) : rRep (.ref l) (.int k) H Qv :=
  ⟨l, k, xs, rfl, rfl, h, h1, h2, hz, q.2⟩
theorem r_neg {a : Int} (q : Qv (.int (-a)) H) : rU (fun i => .int (-i)) (.int a) H Qv := ⟨a, rfl, q⟩
end
section
variable {K : PySem.W.Frag} {G : Hp}
theorem odd_str {z : Str} (h1 : (PyData.str z).shown.length ≤ 1000) (h2 : z.length ≤ 1000) : Odd K G (.str z) (.str z) := ⟨.str z, ⟨_, kd_str z⟩, rfl, by simp [PyData.depth], h1, fun s e => by cases e; exact h2⟩
end
end Q
namespace Q
open PySem PySem.Spec PyProof.Rows L2
theorem sh_str {z : Str} {i : Int} (r : Right z i) : (PyData.str z).shown.length ≤ 82 := by
  have h := nmOk_str r.1
  unfold PyData.strOk at h
  rw [Array.all_eq_true_iff_forall_mem] at h
  have b := StrLaws.reprText_len z fun c hc => by
    have y := of_decide_eq_true (h c (Array.mem_toList_iff.mp hc))
    exact Nat.lt_trans y (by decide)
  have e : (PyData.str z).shown = reprText z := by simp [PyData.shown]
  have l := r.len
  rw [e]
  omega
end Q
namespace Q
open PySem PySem.Spec PyProof.Rows L2
inductive Dues (G : Hp) : List V → List (Str × V) → Prop
  | nil : Dues G [] []
  | cons {l : Addr} {s : Str} {u : V} {xs : List V} {ks : List (Str × V)} (h : G l = some (.tup [.str s, u])) (r : Dues G xs ks) : Dues G (.ref l :: xs) ((s, u) :: ks)
theorem Dues.same {G G' : Hp} {xs : List V} {ks : List (Str × V)} (h : Dues G xs ks) (s : Same G G') : Dues G' xs ks := by
  induction h with
  | nil => exact .nil
  | cons h _ ih => exact .cons (s _ _ h) ih
theorem Dues.snoc {G : Hp} {xs : List V} {ks : List (Str × V)} {l : Addr} {s : Str} {u : V} (r : Dues G xs ks) (h : G l = some (.tup [.str s, u])) : Dues G (xs ++ [.ref l]) (ks ++ [(s, u)]) := by
  induction r with
  | nil => exact .cons h .nil
  | cons h2 _ ih => exact .cons h2 ih
theorem Dues.len {G : Hp} {xs : List V} {ks : List (Str × V)} (r : Dues G xs ks) : xs.length = ks.length := by
  induction r with
  | nil => rfl
  | cons _ _ ih => simp [ih]
theorem Dues.get {G : Hp} {xs : List V} {ks : List (Str × V)} (r : Dues G xs ks) : ∀ {j : Nat} {x : V}, xs[j]? = some x → ∃ l s u, x = .ref l ∧ ks[j]? = some (s, u) ∧ G l = some (.tup [.str s, u]) := by
  induction r with
  | nil => intro j x h; simp at h
  | cons h2 _ ih =>
    intro j x h
    cases j with
    | zero => exact ⟨_, _, _, (Option.some.inj h).symm, rfl, h2⟩
    | succ j => exact ih (by simpa using h)
/-- what a law expects to be shown: None, or the first of the due -/
structure DueD (K : PySem.W.Frag) (G : Hp) (o : Option (Str × V)) (D : PyData) : Prop where
  non : o = none → D = .none
  som : ∀ s u, o = some (s, u) → ∃ d, Dq K G u d ∧ D = .tuple [.str s, d]
  sh : D.showable = true
  dp : D.depth ≤ 60
  sz : D.shown.length ≤ sizeLine
theorem DueD.same {K : PySem.W.Frag} {G G' : Hp} {o : Option (Str × V)} {D : PyData} (h : DueD K G o D) (s : Same G G') : DueD K G' o D :=
  ⟨h.non, fun a u e => (h.som a u e).elim fun d x => ⟨d, same_dq s x.1, x.2⟩, h.sh, h.dp, h.sz⟩
theorem PenAt.ext {p c : Addr} {n : Nat} {H H1 : Hp} (P : PenAt p c n H) (x : LamX.ExtN H H1) : PenAt p c n H1 := by
  obtain ⟨a, g, h1, h2, h3⟩ := P
  exact ⟨a, g, x _ _ h1 (fun ps z => by cases z), h2, h3⟩
end Q
namespace Q
open PySem PySem.Spec PyProof.Rows L2
def oexObj (K : PySem.W.Frag) (D : Addr) : Bool := match K.lookup D with
  | some ⟨.type "type", _, .cls r, slots⟩ => (match r.mro, slots.toList with
    | .ref E :: tail, [_, _, _, _, some (.builtin id), _] => decide (E = D) && (decide (id = "ValueError.__new__") && (!r.hasDel && (r.hasDict && PySem.HandSPX.refsVE tail)))
    | _, _ => false)
  | _ => false
def oexB (K : PySem.W.Frag) (D : Addr) : Bool := oexObj K D && (He.eqO (PySem.W.findIn K (.ref D) "__setattr__") (some (some (.builtin "object.__setattr__"))) &&
  (decide (PySem.W.subIn K (.ref D) (.type "BaseException") = some true) && (decide (PySem.W.typeIn K (.ref D) = some (.type "type")) && PySem.W.keepIn K (.ref D))))
theorem oexB_ok {K : PySem.W.Frag} {D : Addr} (h : oexB K D = true) : OexC K D := by
  obtain ⟨h0, h⟩ := He.ba h
  obtain ⟨h1, h⟩ := He.ba h
  obtain ⟨h2, h⟩ := He.ba h
  obtain ⟨h3, h4⟩ := He.ba h
  refine ⟨?_, He.eqO_ok h1, of_decide_eq_true h2, of_decide_eq_true h3, h4⟩
  clear h h1 h2 h3 h4
  unfold oexObj at h0
  split at h0
  · rename_i od r slots lk
    split at h0
    · rename_i E tail s0 s1 s2 s3 id s5 em es
      obtain ⟨g1, g⟩ := He.ba h0
      obtain ⟨g2, g⟩ := He.ba g
      obtain ⟨g3, g⟩ := He.ba g
      obtain ⟨g4, g5⟩ := He.ba g
      have q1 := of_decide_eq_true g1
      have q2 := of_decide_eq_true g2
      subst q1 q2
      cases r
      simp only [Bool.not_eq_true'] at g3
      dsimp only at em g3 g4
      subst em g3 g4
      have sl : slots = #[s0, s1, s2, s3, some (.builtin "ValueError.__new__"), s5] := Array.toList_inj.mp es
      subst sl
      exact ⟨_, _, _, _, _, _, _, _, _, _, _, _, _, _, _, lk, g5⟩
    · cases h0
  · cases h0
def hdB (K : PySem.W.Frag) (D : Addr) (f : Str) : Bool := xfB K D && (He.eqO (PySem.W.findIn K (.ref D) "__class__") (some (some (.builtin "object.__class__"))) && (He.eqO (PySem.W.findIn K (.ref D) f) (some none) &&
  decide ((PySem.W.specialIn K (.builtin "object.__class__") "__get__" = some (some (.builtin "getset_descriptor.__get__")) ∧ PySem.W.takesIn K (.builtin "object.__class__") = some true) ∧ PySem.W.mroIn K D (.type "object") = some true ∧ PySem.W.kitOne K (.ref D) (.type "ValueError") = some true)))
theorem hdB_ok {K : PySem.W.Frag} {D : Addr} {f : Str} (h : hdB K D f = true) : HdC K D f := by
  obtain ⟨h0, h⟩ := He.ba h
  obtain ⟨h1, h⟩ := He.ba h
  obtain ⟨h2, h3⟩ := He.ba h
  obtain ⟨⟨a, b⟩, c, d⟩ := of_decide_eq_true h3
  have x := xfB_ok h0
  exact ⟨x, ⟨x.ga, x.gg, x.exC, x.hdC, He.eqO_ok h1, a, b, c⟩, He.eqO_ok h2, d⟩
def readB (K : PySem.W.Frag) (D : Addr) : Bool := PySem.W.readsIn K D (.type "type") && He.eqO (PySem.W.specialIn K (.ref D) "__getattribute__") (some (some (.builtin "type.__getattribute__")))
theorem readB_ok {K : PySem.W.Frag} {D : Addr} (h : readB K D = true) : ClX.CRead K D (.type "type") := by
  obtain ⟨h0, h1⟩ := He.ba h
  exact ⟨h0, He.eqO_ok h1⟩
def statB (K : PySem.W.Frag) (D : Addr) (m : Str) : Bool := He5.wrapB K D "staticmethod" "staticmethod.__get__" m && PySem.W.keepIn K (.ref (He5.wf K D "staticmethod" m))
theorem statB_ok {K : PySem.W.Frag} {D : Addr} {m : Str} (h : statB K D m = true) : CStat K D (.type "type") m (He.ma K D m) (He5.wf K D "staticmethod" m) := by
  obtain ⟨h0, h1⟩ := He.ba h
  obtain ⟨h2, h3⟩ := He5.wrapB_ok h0
  exact ⟨h2, h3, h1⟩
theorem isFn_ty {K : PySem.W.Frag} {v : Value} (h : PySem.W.isFn K v = true) : PySem.W.typeIn K v = some (.type "function") := by
  unfold PySem.W.isFn at h
  exact beq_iff_eq.mp h
end Q
namespace Q
open PySem PySem.Spec PyProof.Rows L2
end Q
namespace Q
open PySem PySem.Spec PyProof.Rows L2
end Q
namespace Q
open PySem PySem.Spec PyProof.Rows L2
end Q
namespace Q
open PySem PySem.Spec PyProof.Rows L2
def twoT (p : Str × Str) : PyData := .tuple [.str p.1, .str p.2]
inductive PairsAt (H : Hp) : List V → List (Str × Str) → Prop
  | nil : PairsAt H [] []
  | cons {b : Addr} {p : Str × Str} {vs : List V} {ds : List (Str × Str)} (h : H b = some (.tup [.str p.1, .str p.2])) (r : PairsAt H vs ds) : PairsAt H (.ref b :: vs) (p :: ds)
theorem PairsAt.same {H H' : Hp} {vs : List V} {ds : List (Str × Str)} (r : PairsAt H vs ds) (s : Same H H') : PairsAt H' vs ds := by
  induction r with
  | nil => exact .nil
  | cons h _ ih => exact .cons (s _ _ h) ih
theorem PairsAt.snoc {H : Hp} {vs : List V} {ds : List (Str × Str)} {b : Addr} {p : Str × Str} (r : PairsAt H vs ds) (h : H b = some (.tup [.str p.1, .str p.2])) : PairsAt H (vs ++ [.ref b]) (ds ++ [p]) := by
  induction r with
  | nil => exact .cons h .nil
  | cons h2 _ ih => exact .cons h2 ih
theorem PairsAt.at_ {H : Hp} {vs : List V} {ds : List (Str × Str)} (r : PairsAt H vs ds) : ∃ ts : List (Addr × Str × Str), vs = ts.map (fun t => V.ref t.1) ∧ ds = ts.map (·.2) ∧ ∀ t ∈ ts, H t.1 = some (.tup [.str t.2.1, .str t.2.2]) := by
  induction r with
  | nil => exact ⟨[], rfl, rfl, fun t h => by cases h⟩
  | cons h _ ih =>
    rename_i b p vs ds _
    obtain ⟨ts, e1, e2, h2⟩ := ih
    refine ⟨(b, p) :: ts, by rw [e1]; rfl, by rw [e2]; rfl, fun t ht => ?_⟩
    rcases List.mem_cons.mp ht with e | ht
    · rw [e]; exact h
    · exact h2 t ht
theorem PairsAt.dq {K : PySem.W.Frag} {H : Hp} {vs : List V} {ds : List (Str × Str)} (r : PairsAt H vs ds) : DqAll K H vs (ds.map twoT) := by
  induction r with
  | nil => exact .nil
  | cons h _ ih => exact .cons (.tup (SqT.of h) (.cons (.str _) (.cons (.str _) .nil))) ih
def NmKvs (kvs : List (Key × V)) : Prop := ∀ kv ∈ kvs, ∃ s t, kv = (.inr s, .str t) ∧ nmOk s = true ∧ nmOk t = true
theorem NmKvs.val {kvs : List (Key × V)} (h : NmKvs kvs) (k : Key) : valV kvs k = none ∨ ∃ t, valV kvs k = some (.str t) ∧ nmOk t = true := by
  unfold valV
  cases e : kvs.find? fun kv => decide (kv.1 = k) with
  | none => exact .inl rfl
  | some kv =>
    obtain ⟨a, b, rfl, _, hb⟩ := h kv (List.mem_of_find?_eq_some e)
    exact .inr ⟨b, rfl, hb⟩
theorem NmKvs.get {kvs : List (Key × V)} (h : NmKvs kvs) {i : Nat} {k : Key} {v : V} (e : kvs[i]? = some (k, v)) : ∃ s t, k = .inr s ∧ nmOk s = true ∧ valV kvs k = some (.str t) ∧ nmOk t = true := by
  have m := List.mem_of_getElem? e
  obtain ⟨s, t, e1, hs, _⟩ := h _ m
  cases e1
  rcases h.val (.inr s) with z | ⟨y, z, hy⟩
  · have a := valV_any (.inr s : Key) kvs
    rw [z] at a
    have b : (kvs.any fun kv => decide (kv.1 = (.inr s : Key))) = true := List.any_eq_true.mpr ⟨_, m, by simp⟩
    rw [b] at a
    cases a
  · exact ⟨s, y, rfl, hs, z, hy⟩
section
variable {H : Hp} {Qv : VK} {σ : L2.St}
def rStrS : List V → Hp → VK → Prop := fun xs H Q => ∃ a, xs = [.str a] ∧ Q (.str a) H
theorem r_strS {a : Str} (q : Qv (.str a) H) : rStrS [.str a] H Qv := ⟨a, rfl, q⟩
/-- a dict that will be changed -/
def tDNewM : TE := tDNewK
theorem r_dnewM (q : LayM 0 (.dK []) Qv H) : tDNewM σ H Qv := q.2
theorem r_sDPut {td ty tv : TE} {D : Ends} (q : tv σ H fun v H1 => td σ H1 fun x H2 => ty σ H2 fun y H3 => ∃ a H4, x = .ref a ∧ DPut H3 a y v H4 ∧ D.nx σ H4) : sDPut td ty tv D σ H := q
theorem r_tDGet {td ty : TE} (q : td σ H fun x H1 => ty σ H1 fun y H2 => ∃ a v, x = .ref a ∧ DGet H2 a y (some v) ∧ Qv v H2) : tDGet td ty σ H Qv := q
theorem r_iKeys {td : TE} {R : It → Hp → Prop} (q : td σ H fun x H1 => ∃ d o, x = .ref d ∧ ((∃ kvs, H1 d = some (.frz o (.dK kvs)) ∧ R (Itk d o kvs) H1) ∨ ∃ kvs, H1 d = some (.frz o (.dT kvs)) ∧ R (Itkt d o kvs) H1)) : iKeys td σ H R := q
theorem r_tDGet2 {td ty tx : TE} (q : td σ H fun x H1 => ∃ a, x = .ref a ∧ IsD H1 a ∧ ty σ H1 fun y H2 => tx σ H2 fun z H3 => ∃ o, DGet H3 a y o ∧ Qv (o.getD z) H3) : tDGet2 td ty tx σ H Qv := q
end
/-- a, b = x, y -/
def ParK (i j : Nat) (vs : List V) (σ : L2.St) (N : L2.St → Hp → Prop) (H : Hp) : Prop := ∃ v w, vs = [v, w] ∧ N ((σ.set i (some v)).set j (some w)) H
theorem r_par {i j : Nat} {ta : TA} {D : Ends} {σ : L2.St} {H : Hp} (q : ta σ H fun vs H1 => ParK i j vs σ D.nx H1) : tPar i j ta D σ H := q
theorem r_parK {i j : Nat} {v w : V} {σ : L2.St} {N : L2.St → Hp → Prop} {H : Hp} (q : N ((σ.set i (some v)).set j (some w)) H) : ParK i j [v, w] σ N H := ⟨v, w, rfl, q⟩
theorem DGet.frz {H : Hp} {a : Addr} {od : Obj} {kvs : List (Key × V)} {k : Key} {o : Option V} (e : H a = some (.frz od (.dK kvs))) (h : valV kvs k = o) : DGet H a (kV k) o := .inl ⟨kvs, k, .inr ⟨od, e⟩, rfl, h.symm⟩
end Q
namespace Q
open PySem PySem.Spec PyProof.Rows L2
/-- what == asks of the class of a saying -/
def eqS (K : PySem.W.Frag) (C : Addr) : Bool := decide ((PySem.W.specialIn K (.builtin "object.__class__") "__get__" = some (some (.builtin "getset_descriptor.__get__")) ∧ PySem.W.takesIn K (.builtin "object.__class__") = some true ∧ PySem.W.mroIn K C (.type "object") = some true) ∧
  (PySem.W.kitOne K (.ref C) (.ref C) = some true ∧ ∀ n ∈ ["NoneType", "int", "bool", "str", "list", "tuple", "dict"], PySem.W.kitOne K (.type n) (.ref C) = some false) ∧
  (PySem.W.notFirst K C (.ref C) = true ∧ ∀ n ∈ ["NoneType", "int", "bool", "str", "list", "tuple", "dict"], PySem.W.notFirst K C (.type n) = true))
end Q
namespace Q
open PySem PySem.Spec PyProof.Rows L2
/-- set(l), l a list of ints -/
def rSetL (K : PySem.W.Frag) (w : World) : List V → Hp → VK → Prop := fun xs H Q => ∃ (l : Addr) (ns : List Int), xs = [.ref l] ∧ SqL K H l (ns.map V.int) ∧ ns.length ≤ 1000 ∧ ∀ n a, n ≤ ns.length → H a = none → Q (.ref a) (upd H a (SetO w a (fun j => decide (j ∈ ns)) n))
end Q
namespace Q
open PySem PySem.Spec PyProof.Rows L2
def FrzGo (v : V) (H : Hp) (Q : VK) : Prop := ∃ d u, v = .ref d ∧ H d = some u ∧ Mut (some u) ∧ ∀ od, Q v (upd H d (.frz od u))
def tFrzV (t : TE) : TE := fun σ H Q => t σ H fun v H1 => FrzGo v H1 Q
theorem r_tFrzV {t : TE} {σ : L2.St} {H : Hp} {Q : VK} (q : t σ H fun v H1 => FrzGo v H1 Q) : tFrzV t σ H Q := q
def SqA (K : PySem.W.Frag) (H : Hp) (a : Addr) (xs : List V) : Prop := SqL K H a xs ∨ SqT K H a xs
theorem SqA.same {K : PySem.W.Frag} {H H' : Hp} {a : Addr} {xs : List V} (h : SqA K H a xs) (s : Same H H') : SqA K H' a xs := h.elim (fun h => .inl (same_sqL s h)) fun h => .inr (same_sqT s h)
def SeqGo (K : PySem.W.Frag) (a : Addr) (R : It → Hp → Prop) (H : Hp) : Prop := ((∃ xs, SqL K H a xs) ∧ R (Itl K a) H) ∨ ((∃ xs, SqT K H a xs) ∧ R (Itt K a) H)
def iSeq (K : PySem.W.Frag) (tl : TE) : TI := fun σ H R => tl σ H fun x H1 => ∃ a, x = .ref a ∧ SeqGo K a R H1
theorem r_iSeq {K : PySem.W.Frag} {tl : TE} {σ : L2.St} {H : Hp} {R : It → Hp → Prop} (q : tl σ H fun x H1 => ∃ a, x = .ref a ∧ SeqGo K a R H1) : iSeq K tl σ H R := q
theorem SqA.of {K : PySem.W.Frag} {e : En} {G H : Hp} {M : List Addr} {a : Addr} {xs : List V} (h : SqA K G a xs) (w : Wd e G H M) : SqA K H a xs := h.same w.le
def leS (a b : Str) : Prop := ltCps b.cps.toList a.cps.toList = false
end Q
namespace Q
open PySem PySem.Spec PyProof.Rows L2
def DcAdd (Dd : Addr) (P : Hp → Prop) (y z : V) (H5 : Hp) : Prop := ∃ kvs k, y = kV k ∧ H5 Dd = some (.dK kvs) ∧ kvs.length < sizeLine ∧ P (upd H5 Dd (.dK (putK kvs k z)))
def DcT (Dd : Addr) (P : Hp → Prop) (tt : TT) (tk tv : TE) (vs : List Nat) (σ : L2.St) : L2.St → Hp → Prop := fun σ2 H2 => wipe σ2 vs = wipe σ vs ∧ tt σ2 H2 fun b H3 => if b = true then tk σ2 H3 fun y H4 => tv σ2 H4 fun z H5 => DcAdd Dd P y z H5 else P H3
def DcGo (J : It) (g : TG) (tt : TT) (tk tv : TE) (vs : List Nat) (σ : L2.St) (Q : VK) (H1 : Hp) : Prop := ∀ D, H1 D = none → ∃ W : Nat → Nat → Hp → Prop, (∃ m, W 0 m (upd H1 D (.dK []))) ∧ ∀ i m H, W i m H →
  (J.stop i H ∧ Q (.ref D) H) ∨ (J.go i H ∧ ∃ Nx : Hp → Prop, (∀ H', Nx H' → ∃ m', m' < m ∧ W (i + 1) m' H') ∧ ∀ x H', J.yld i H x H' → g x (wipe σ vs) H' (DcT D Nx tt tk tv vs σ))
theorem r_dc {wi : TI} {g : TG} {tt : TT} {tk tv : TE} {vs : List Nat} {σ : L2.St} {H : Hp} {Q : VK} (q : wi σ H fun J H1 => DcGo J g tt tk tv vs σ Q H1) : tDc wi g tt tk tv vs σ H Q := q
theorem r_dcT {Dd : Addr} {P : Hp → Prop} {tt : TT} {tk tv : TE} {vs : List Nat} {σ σ2 : L2.St} {H : Hp} (h : wipe σ2 vs = wipe σ vs) (q : tt σ2 H fun b H3 => if b = true then tk σ2 H3 fun y H4 => tv σ2 H4 fun z H5 => DcAdd Dd P y z H5 else P H3) : DcT Dd P tt tk tv vs σ σ2 H := ⟨h, q⟩
def DcP (e : En) (G : Hp) (M : List Addr) (R : Nat → List (Key × V) → Hp → Hp → Prop) (Dd : Addr) (i : Nat) (H : Hp) : Prop := ∃ kvs Gi, Wd e Gi H (Dd :: M) ∧ Same G Gi ∧ H Dd = some (.dK kvs) ∧ kvs.length ≤ i ∧ R i kvs Gi H
theorem r_dcAdd {e : En} {G Gy H4 : Hp} {M : List Addr} {R : Nat → List (Key × V) → Hp → Hp → Prop} {Dd : Addr} {i : Nat} {kvs : List (Key × V)} {t : Str} {z : V} (w : Wd e Gy H4 (Dd :: M)) (s : Same G Gy) (h : H4 Dd = some (.dK kvs)) (hl : kvs.length ≤ i) (hi : i ≤ 1000000)
    (k : ∀ H5, Wd e Gy H5 (Dd :: M) → But Dd H4 H5 → R (i + 1) (putK kvs (.inr t) z) Gy H5) : DcAdd Dd (DcP e G M R Dd (i + 1)) (.str t) z H4 := by
  have w5 := wd_mut (o := .dK (putK kvs (.inr t) z)) w List.mem_cons_self
  exact ⟨kvs, .inr t, rfl, h, Nat.lt_of_le_of_lt (Nat.le_trans hl hi) (by decide), _, Gy, w5, s, upd_same, Nat.le_trans (length_putK _ _ _) (Nat.add_le_add_right hl 1), k _ w5 but_upd⟩
inductive BegAt (K : PySem.W.Frag) (G : Hp) : List (Key × V) → List (Str × List V) → Prop
  | nil : BegAt K G [] []
  | cons {s : Str} {a : Addr} {xs : List V} {kvs : List (Key × V)} {rows : List (Str × List V)} (h : SqA K G a xs) (r : BegAt K G kvs rows) : BegAt K G ((.inr s, .ref a) :: kvs) ((s, xs) :: rows)
def rowOf (rows : List (Str × List V)) (s : Str) : Option (List V) := (rows.find? fun r => decide (r.1 = s)).map (·.2)
section
variable {K : PySem.W.Frag} {G G' : Hp} {kvs : List (Key × V)} {rows : List (Str × List V)}
theorem BegAt.same (h : BegAt K G kvs rows) (s : Same G G') : BegAt K G' kvs rows := by
  induction h with
  | nil => exact .nil
  | cons h _ ih => exact .cons (h.same s) ih
theorem BegAt.len (h : BegAt K G kvs rows) : kvs.length = rows.length := by
  induction h with
  | nil => rfl
  | cons _ _ ih => simp [ih]
theorem BegAt.keys (h : BegAt K G kvs rows) : kvs.map (fun kv => kV kv.1) = (rows.map (·.1)).map V.str := by
  induction h with
  | nil => rfl
  | cons _ _ ih => rw [List.map_cons, List.map_cons, List.map_cons, ih]; rfl
theorem BegAt.keysR (h : BegAt K G kvs rows) : kvs.map (·.1) = (rows.map (·.1)).map Sum.inr := by
  induction h with
  | nil => rfl
  | cons _ _ ih => simp [ih]
theorem BegAt.get (h : BegAt K G kvs rows) : ∀ {i : Nat} {k : Key} {v : V}, kvs[i]? = some (k, v) → ∃ s xs, k = .inr s ∧ rows[i]? = some (s, xs) := by
  induction h with
  | nil => intro i k v e; simp at e
  | cons _ _ ih =>
    intro i k v e
    cases i with
    | zero => cases e; exact ⟨_, _, rfl, rfl⟩
    | succ i => exact ih (by simpa using e)
theorem BegAt.val (h : BegAt K G kvs rows) (s : Str) : (rowOf rows s = none ∧ valV kvs (.inr s) = none) ∨ ∃ a xs, rowOf rows s = some xs ∧ valV kvs (.inr s) = some (.ref a) ∧ SqA K G a xs := by
  induction h with
  | nil => exact .inl ⟨rfl, rfl⟩
  | cons h _ ih =>
    rename_i t a xs kvs rows _
    by_cases e : t = s
    · refine .inr ⟨a, xs, ?_, ?_, h⟩
      · simp [rowOf, e]
      · exact valV_pos (p := ((Sum.inr t : Key), V.ref a)) (by rw [e])
    · have e2 : ¬ (Sum.inr t : Key) = .inr s := fun z => e (Sum.inr.inj z)
      have e3 : rowOf ((t, xs) :: rows) s = rowOf rows s := by simp [rowOf, e]
      rw [e3, valV_neg (p := ((Sum.inr t : Key), V.ref a)) e2]
      exact ih
end
end Q
namespace Q
open PySem PySem.Spec PyProof.Rows L2
structure RowsOk (K : PySem.W.Frag) (G : Hp) (rows : List (Str × List V)) : Prop where
  len : ∀ r ∈ rows, r.1.length ≤ 1000 ∧ r.2.length ≤ 60
  odd : ∀ r ∈ rows, ∀ v ∈ r.2, ∃ d, Odd K G v d
  key : ∀ r ∈ rows, ∃ d, Odd K G (.str r.1) d
  txt : ∀ r ∈ rows, PyData.strOk r.1 = true
theorem RowsOk.same {K : PySem.W.Frag} {G G' : Hp} {rows : List (Str × List V)} (h : RowsOk K G rows) (s : Same G G') : RowsOk K G' rows := ⟨h.len, fun r hr v hv => (h.odd r hr v hv).elim fun d o => ⟨d, o.same s⟩, fun r hr => (h.key r hr).elim fun d o => ⟨d, o.same s⟩, h.txt⟩
inductive LvAt (G : Hp) : List (Key × V) → List (Str × List Int) → Prop
  | nil : LvAt G [] []
  | cons {s : Str} {a : Addr} {ns : List Int} {kvs : List (Key × V)} {bt : List (Str × List Int)} (h : G a = some (.tup (ns.map V.int))) (r : LvAt G kvs bt) : LvAt G ((.inr s, .ref a) :: kvs) ((s, ns) :: bt)
section
variable {G G' : Hp} {kvs : List (Key × V)} {bt : List (Str × List Int)}
theorem LvAt.same (h : LvAt G kvs bt) (s : Same G G') : LvAt G' kvs bt := by
  induction h with
  | nil => exact .nil
  | cons h _ ih => exact .cons (s _ _ h) ih
theorem LvAt.snoc (r : LvAt G kvs bt) {s : Str} {a : Addr} {ns : List Int} (h : G a = some (.tup (ns.map V.int))) : LvAt G (kvs ++ [(.inr s, .ref a)]) (bt ++ [(s, ns)]) := by
  induction r with
  | nil => exact .cons h .nil
  | cons h2 _ ih => exact .cons h2 ih
theorem LvAt.keys (h : LvAt G kvs bt) : kvs.map (fun kv => kV kv.1) = (bt.map (·.1)).map V.str := by
  induction h with
  | nil => rfl
  | cons _ _ ih => rw [List.map_cons, List.map_cons, List.map_cons, ih]; rfl
theorem LvAt.out (h : LvAt G kvs bt) {s : Str} (n : s ∉ bt.map (·.1)) : valV kvs (.inr s) = none := by
  induction h with
  | nil => rfl
  | cons _ _ ih =>
    rename_i t a ns kvs bt _ _
    have e : ¬ (Sum.inr t : Key) = .inr s := fun z => n (by rw [Sum.inr.inj z]; simp)
    rw [valV_neg (p := ((Sum.inr t : Key), V.ref a)) e]
    exact ih fun m => n (by simp at m ⊢; exact .inr m)
end
/-- 0 and what is told, ascending -/
def Begs (xs : List V) (ns : List Int) : Prop := ∃ ms : List Int, ns = 0 :: ms ∧ ms.Pairwise (· < ·) ∧ ∀ k : Int, k ∈ ms ↔ V.int k ∈ xs
def LivesAt (C : Addr) (G : Hp) (a : Addr) (bt : List (Str × List Int)) : Prop := ∃ dx D od kvs, G a = some (.ins C dx [("by_tool", .ref D)]) ∧ G D = some (.frz od (.dK kvs)) ∧ LvAt G kvs bt
theorem LivesAt.same {C a : Addr} {G G' : Hp} {bt : List (Str × List Int)} (h : LivesAt C G a bt) (s : Same G G') : LivesAt C G' a bt := by
  obtain ⟨dx, D, od, kvs, h1, h2, h3⟩ := h
  exact ⟨dx, D, od, kvs, s _ _ h1, s _ _ h2, h3.same s⟩
structure LvC (K : PySem.W.Frag) (C : Addr) : Prop where
  c : Cls K C
  n1 : NoAttr K C "by_tool"
section
variable {X : Cx} {K : PySem.W.Frag} {tg l e : Expr} {tl te : TE} {es : List Expr} {t : TA} {p : Pos}
theorem pi_listK (hK : X.K = K) (hl : PE X l tl) : PI X tg l (iList K tl) := by subst hK; exact pi_list hl
theorem pa_starK (hK : X.K = K) (he : PE X e te) (hr : PA X es t) (hs : starEach (.Starred e p :: es) X.env = (true, eval e X.env) :: starEach es X.env := by rfl) : PA X (.Starred e p :: es) (StX.tStar K te t) := by subst hK; exact StX.pa_star he hr hs
end
def StarGo (K : PySem.W.Frag) (x : V) (H : Hp) (R : List V → Hp → Prop) : Prop := ∃ p xs, x = V.ref p ∧ (SqT K H p xs ∨ SqL K H p xs) ∧ R xs H
theorem r_tStar {K : PySem.W.Frag} {te : TE} {t : TA} {σ : L2.St} {H : Hp} {Q : List V → Hp → Prop} (q : te σ H fun x H1 => StarGo K x H1 fun xs H1 => t σ H1 fun ys H2 => Q (xs ++ ys) H2) : StX.tStar K te t σ H Q := q
theorem r_starL {K : PySem.W.Frag} {p : Addr} {xs : List V} {H : Hp} {R : List V → Hp → Prop} (h : SqL K H p xs) (q : R xs H) : StarGo K (.ref p) H R := ⟨p, xs, rfl, .inr h, q⟩
end Q
namespace Q
open PySem PySem.Spec PyProof.Rows L2
section
variable {K : PySem.W.Frag} {G : Hp}
theorem BegAt.any {kvs : List (Key × V)} {rows : List (Str × List V)} (h : BegAt K G kvs rows) (s : Str) : (kvs.any fun kv => decide (kv.1 = (.inr s : Key))) = rows.any fun r => decide (r.1 = s) := by
  induction h with
  | nil => rfl
  | cons _ _ ih =>
    rename_i t a xs kvs rows _ _
    rw [List.any_cons, List.any_cons, ih]
    have e : decide ((Sum.inr t : Key) = .inr s) = decide (t = s) := by
      by_cases h : t = s
      · rw [h]; simp
      · have : ¬ (Sum.inr t : Key) = .inr s := fun z => h (Sum.inr.inj z)
        rw [decide_eq_false h, decide_eq_false this]
    rw [e]
theorem odd_name {z : Str} (h : nmOk z = true) : Odd K G (.str z) (.str z) := by
  have a := sh_str (z := z) (i := 0) ⟨h, by decide, by decide⟩
  have b := nmOk_len h
  exact odd_str (by omega) (by omega)
end
structure HandAt (K : PySem.W.Frag) (G : Hp) (d : Addr) (rows : List (Str × List V)) : Prop where
  ex : ∃ od kvs, G d = some (.frz od (.dK kvs)) ∧ BegAt K G kvs rows ∧ (kvs.map (·.1)).Nodup
  ok : RowsOk K G rows
  len : rows.length ≤ 12
theorem HandAt.same {K : PySem.W.Frag} {G G' : Hp} {d : Addr} {rows : List (Str × List V)} (h : HandAt K G d rows) (s : Same G G') : HandAt K G' d rows := by
  obtain ⟨od, kvs, h1, h2, h3⟩ := h.ex
  exact ⟨⟨od, kvs, s _ _ h1, h2.same s, h3⟩, h.ok.same s, h.len⟩
def rNotInSign : R2 := fun x y H Q => ∃ (c : Nat) (z : Str), x = .str ⟨#[c]⟩ ∧ y = .str z ∧ Q (.bl (!decide (c ∈ z.cps.toList))) H
theorem r_notInSign {c : Nat} {z : Str} {H : Hp} {Qv : VK} (q : Qv (.bl (!decide (c ∈ z.cps.toList))) H) : rNotInSign (.str ⟨#[c]⟩) (.str z) H Qv := ⟨c, z, rfl, rfl, q⟩
theorem filt_yes {α : Type} {p : α → Bool} {l : List α} {i : Nat} {x : α} (h : l[i]? = some x) (hp : p x = true) : (l.take (i + 1)).filter p = (l.take i).filter p ++ [x] := by
  rw [take_snoc h, List.filter_append, List.filter_cons_of_pos hp, List.filter_nil]
theorem filt_no {α : Type} {p : α → Bool} {l : List α} {i : Nat} {x : α} (h : l[i]? = some x) (hp : ¬ p x = true) : (l.take (i + 1)).filter p = (l.take i).filter p := by
  rw [take_snoc h, List.filter_append, List.filter_cons_of_neg hp, List.filter_nil, List.append_nil]
def rTupOf (K : PySem.W.Frag) : List V → Hp → VK → Prop := fun xs H Q => ∃ p ys, xs = [.ref p] ∧ ((SqL K H p ys ∧ ∀ l, H l = none → Q (.ref l) (upd H l (.tup ys))) ∨ (SqT K H p ys ∧ Q (.ref p) H))
theorem q_tupOf {X : Cx} : CallR X (.type "tuple") (rTupOf X.K) := call_tuple_of
theorem r_tupOf {K : PySem.W.Frag} {p : Addr} {ys : List V} {H : Hp} {Qv : VK} (h : SqL K H p ys) (q : Lay 0 (.tup ys) Qv H) : rTupOf K [.ref p] H Qv := ⟨p, ys, rfl, .inl ⟨h, q.2⟩⟩
end Q
namespace Q
open PySem PySem.Spec PyProof.Rows L2
def rNil (K : PySem.W.Frag) (neg : Bool) : R2 := fun x y H Q => ∃ a b xs, x = .ref a ∧ y = .ref b ∧ SqL K H a xs ∧ SqL K H b [] ∧ Q (.bl (if neg = true then !xs.isEmpty else xs.isEmpty)) H
theorem q_neNil {X : Cx} (hu : X.A.units + 64 < cLine) : OpR X (compareOp .NotEq) (rNil X.K true) := by
  intro pins s σ H x y v u Q I rx ry h
  obtain ⟨a, b, xs, rfl, rfl, h1, h2, q⟩ := h
  cases xs with
  | nil => exact op_neD hu pins s σ H _ _ v u Q I rx ry ⟨.list [], .list [], .lst h1 .nil, .lst h2 .nil, shaped_nil, shaped_nil, q⟩
  | cons x xs =>
    cases (show v = Value.ref a from rx)
    cases (show u = Value.ref b from ry)
    obtain ⟨i1, r1, l1, _⟩ := I.list h1
    obtain ⟨i2, r2, l2, _⟩ := I.list h2
    cases r2
    cases r1
    exact SeqAt.RcNeAt.lists_lengths l1.isList l2.isList (by simp) (by omega) X.prog X.w X.xe _ ⟨.bl true, H, I, rfl, q⟩
end Q
namespace Q
open PySem PySem.Spec PyProof.Rows L2
end Q
namespace Q
open PySem PySem.Spec PyProof.Rows L2
section
variable {K : PySem.W.Frag} {a b : Addr} {x : V} {xs : List V} {H : Hp} {Qv : VK}
theorem r_neNilF (h1 : SqL K H a []) (h2 : SqL K H b []) (q : Qv (.bl false) H) : rNil K true (.ref a) (.ref b) H Qv := ⟨a, b, _, rfl, rfl, h1, h2, q⟩
end
end Q
namespace Q
open PySem PySem.Spec PyProof.Rows L2
end Q
namespace Q
open PySem PySem.Spec PyProof.Rows L2
end Q
namespace Q
open PySem PySem.Spec PyProof.Rows L2
def nsOf (bt : List (Str × List Int)) (s : Str) : Option (List Int) := (bt.find? fun p => decide (p.1 = s)).map (·.2)
def isLife (bt : List (Str × List Int)) : Option (List V) → Bool
  | some [.str s, .int i] => (match nsOf bt s with
    | some ns => decide (i ∈ ns)
    | none => false)
  | _ => false
theorem LvAt.val {G : Hp} {kvs : List (Key × V)} {bt : List (Str × List Int)} (h : LvAt G kvs bt) (s : Str) : (nsOf bt s = none ∧ valV kvs (.inr s) = none) ∨ ∃ ra ns, nsOf bt s = some ns ∧ valV kvs (.inr s) = some (.ref ra) ∧ G ra = some (.tup (ns.map V.int)) := by
  induction h with
  | nil => exact .inl ⟨rfl, rfl⟩
  | cons h1 _ ih =>
    rename_i t a ns kvs bt _
    by_cases e : t = s
    · refine .inr ⟨a, ns, ?_, ?_, h1⟩
      · simp [nsOf, List.find?_cons, e]
      · rw [valV_pos (by rw [e])]
    · have e2 : ¬ (Sum.inr t : Key) = .inr s := fun z => e (Sum.inr.inj z)
      have a1 : nsOf ((t, ns) :: bt) s = nsOf bt s := by simp [nsOf, List.find?_cons, e]
      rw [a1, valV_neg (p := ((Sum.inr t : Key), V.ref a)) e2]
      exact ih
/-- a tuple, with what lies in it, or none -/
def TuV (K : PySem.W.Frag) (G : Hp) (v : V) : Option (List V) → Prop
  | none => ∃ t, TyX K G v t ∧ PySem.W.kitOne K t (.type "tuple") = some false
  | some ys => ∃ p, v = .ref p ∧ G p = some (.tup ys) ∧ ∀ y ∈ ys, ∃ t, Kd K G y t
def nextOf (ns : List Int) (b : Int) : Int := match ns.filter (fun k => decide (b < k)) with
  | [] => 1000000000000000000000000000000
  | k :: _ => k - 1
end Q
namespace Q
open PySem PySem.Spec PyProof.Rows L2
end Q
namespace Q
open PySem PySem.Spec PyProof.Rows L2
theorem r_gTup {K : PySem.W.Frag} {n : Nat} {t : TGs} {a : Addr} {xs : List V} {σ : L2.St} {H : Hp} {Q : L2.St → Hp → Prop} (h : SqT K H a xs) (hl : xs.length = n) (q : t xs σ H Q) : gTup K n t (.ref a) σ H Q := ⟨a, xs, rfl, h, hl, q⟩
theorem r_gCons {t : TG} {u : TGs} {v : V} {r : List V} {σ : L2.St} {H : Hp} {Q : L2.St → Hp → Prop} (q : t v σ H fun σ' H' => u r σ' H' Q) : gCons t u (v :: r) σ H Q := ⟨v, r, rfl, q⟩
end Q
namespace Q
open PySem PySem.Spec PyProof.Rows L2
inductive LsAt (G : Hp) : List (Key × V) → List (Str × List Int) → Prop
  | nil : LsAt G [] []
  | cons {s : Str} {a : Addr} {ns : List Int} {kvs : List (Key × V)} {bt : List (Str × List Int)} (h : G a = some (.lst (ns.map V.int))) (r : LsAt G kvs bt) : LsAt G ((.inr s, .ref a) :: kvs) ((s, ns) :: bt)
section
variable {G G' : Hp} {kvs : List (Key × V)} {bt : List (Str × List Int)}
theorem LsAt.same (h : LsAt G kvs bt) (s : Same G G') : LsAt G' kvs bt := by
  induction h with
  | nil => exact .nil
  | cons h _ ih => exact .cons (s _ _ h) ih
theorem LsAt.snoc (r : LsAt G kvs bt) {s : Str} {a : Addr} {ns : List Int} (h : G a = some (.lst (ns.map V.int))) : LsAt G (kvs ++ [(.inr s, .ref a)]) (bt ++ [(s, ns)]) := by
  induction r with
  | nil => exact .cons h .nil
  | cons h2 _ ih => exact .cons h2 ih
theorem LsAt.len (h : LsAt G kvs bt) : kvs.length = bt.length := by
  induction h with
  | nil => rfl
  | cons _ _ ih => simp [ih]
theorem LsAt.val (h : LsAt G kvs bt) (s : Str) : (nsOf bt s = none ∧ valV kvs (.inr s) = none) ∨ ∃ ra ns, nsOf bt s = some ns ∧ valV kvs (.inr s) = some (.ref ra) ∧ G ra = some (.lst (ns.map V.int)) := by
  induction h with
  | nil => exact .inl ⟨rfl, rfl⟩
  | cons h1 _ ih =>
    rename_i t a ns kvs bt _
    by_cases e : t = s
    · refine .inr ⟨a, ns, ?_, ?_, h1⟩
      · simp [nsOf, List.find?_cons, e]
      · rw [valV_pos (by rw [e])]
    · have e2 : ¬ (Sum.inr t : Key) = .inr s := fun z => e (Sum.inr.inj z)
      have a1 : nsOf ((t, ns) :: bt) s = nsOf bt s := by simp [nsOf, List.find?_cons, e]
      rw [a1, valV_neg (p := ((Sum.inr t : Key), V.ref a)) e2]
      exact ih
end
def StartsOk (ns : List Int) : Prop := ∃ ms : List Int, ns = 0 :: ms ∧ ms.Pairwise (· < ·) ∧ (∀ k ∈ ms, 1 ≤ k ∧ k ≤ 1000000000000000000000000000000) ∧ ms.length ≤ 6
structure StAt (G : Hp) (d : Addr) (bt : List (Str × List Int)) : Prop where
  ex : ∃ od kvs, G d = some (.frz od (.dK kvs)) ∧ LsAt G kvs bt
  ok : ∀ q ∈ bt, StartsOk q.2
theorem StAt.same {G G' : Hp} {d : Addr} {bt : List (Str × List Int)} (h : StAt G d bt) (s : Same G G') : StAt G' d bt := by
  obtain ⟨od, kvs, h1, h2⟩ := h.ex
  exact ⟨⟨od, kvs, s _ _ h1, h2.same s⟩, h.ok⟩
end Q
namespace Q
open PySem PySem.Spec PyProof.Rows L2
end Q
namespace Q
open PySem PySem.Spec PyProof.Rows L2
theorem StartsOk.len {ns : List Int} (h : StartsOk ns) : ns.length ≤ 7 := by
  obtain ⟨ms, rfl, _, _, l⟩ := h
  simpa using l
end Q
namespace Q
open PySem PySem.Spec PyProof.Rows L2
end Q
namespace Q
open PySem PySem.Spec PyProof.Rows L2
/-- what such a def must keep: all but the pen and the tables -/
noncomputable def keepH (p : Addr) (H : Hp) : Hp := open Classical in fun a => if a = p ∨ ∃ ps, H a = some (.tbl ps) then none else H a
theorem keepH_some {p a : Addr} {H : Hp} {o : HO} (n : a ≠ p) (h : H a = some o) (no : NoT o) : keepH p H a = some o := by
  unfold keepH
  rw [if_neg]
  · exact h
  · rintro (e | ⟨ps, e⟩)
    · exact n e
    · rw [h] at e
      cases e
      exact no ps rfl
theorem keepH_to {p a : Addr} {H : Hp} (h : keepH p H a ≠ none) : a ≠ p ∧ keepH p H a = H a ∧ ∀ o, H a = some o → NoT o := by
  unfold keepH at h ⊢
  split at h
  · exact absurd rfl h
  · rename_i c
    rw [if_neg c]
    refine ⟨fun e => c (.inl e), rfl, fun o ho ps e => c (.inr ⟨ps, ?_⟩)⟩
    rw [ho, e]
end Q
namespace Q
open PySem PySem.Spec PyProof.Rows L2
end Q
namespace Q
open PySem PySem.Spec PyProof.Rows L2
end Q
namespace Q
open PySem PySem.Spec PyProof.Rows L2
end Q
namespace Q
open PySem PySem.Spec PyProof.Rows L2
/-- pairs of texts and lists -/
inductive DrAt (G : Hp) : List Addr → List (Key × V) → List (Str × List V) → Prop
  | nil : DrAt G [] [] []
  | cons {p b : Addr} {t : Str} {xs : List V} {ps : List Addr} {kvs : List (Key × V)} {rows : List (Str × List V)} (h1 : G p = some (.tup [.str t, .ref b])) (h2 : G b = some (.lst xs)) (r : DrAt G ps kvs rows) : DrAt G (p :: ps) ((.inr t, .ref b) :: kvs) ((t, xs) :: rows)
section
variable {K : PySem.W.Frag} {G G' : Hp} {ps : List Addr} {kvs : List (Key × V)} {rows : List (Str × List V)}
theorem DrAt.same (h : DrAt G ps kvs rows) (s : Same G G') : DrAt G' ps kvs rows := by
  induction h with
  | nil => exact .nil
  | cons h1 h2 _ ih => exact .cons (s _ _ h1) (s _ _ h2) ih
theorem DrAt.snoc (r : DrAt G ps kvs rows) {p b : Addr} {t : Str} {xs : List V} (h1 : G p = some (.tup [.str t, .ref b])) (h2 : G b = some (.lst xs)) : DrAt G (ps ++ [p]) (kvs ++ [(.inr t, .ref b)]) (rows ++ [(t, xs)]) := by
  induction r with
  | nil => exact .cons h1 h2 .nil
  | cons g1 g2 _ ih => exact .cons g1 g2 ih
theorem DrAt.beg (h : DrAt G ps kvs rows) : BegAt K G kvs rows := by
  induction h with
  | nil => exact .nil
  | cons _ h2 _ ih => exact .cons (.inl (SqL.of h2)) ih
end
end Q
namespace Q
open PySem PySem.Spec PyProof.Rows L2
section
variable {K : PySem.W.Frag} {G : Hp} {bt bL : List (Str × List Int)} {t : Str} {ns : List Int} {ts : List Str} {Cn Cm : Addr}
theorem StartsOk.tail (h : StartsOk ns) : ns = 0 :: ns.drop 1 ∧ (ns.drop 1).Pairwise (· < ·) ∧ (∀ k ∈ ns.drop 1, 1 ≤ k ∧ k ≤ 1000000000000000000000000000000) ∧ (ns.drop 1).length ≤ 6 := by
  obtain ⟨ms, rfl, h1, h2, h3⟩ := h
  exact ⟨rfl, h1, h2, h3⟩
end
end Q
namespace Q
open PySem PySem.Spec PyProof.Rows L2
theorem nodup_inr : ∀ {ts : List Str}, ts.Nodup → (ts.map fun t => (Sum.inr t : Key)).Nodup
  | [], _ => List.nodup_nil
  | t :: ts, h => by
    obtain ⟨a, b⟩ := List.nodup_cons.mp h
    refine List.nodup_cons.mpr ⟨fun m => ?_, nodup_inr b⟩
    obtain ⟨u, hu, e⟩ := List.mem_map.mp m
    cases e
    exact a hu
end Q
namespace Q
open PySem PySem.Spec PyProof.Rows L2
end Q
namespace Q
open PySem PySem.Spec PyProof.Rows L2
end Q
namespace Q
open PySem PySem.Spec PyProof.Rows L2
section
variable {X : Cx} {pins : List (Addr × Obj)} {σ : L2.St} {H : Hp} {s : Shared}
/-- {k: v for target in iter if ..}, keys tuples -/
def tDcT (wi : TI) (g : TG) (tt : TT) (tk tv : TE) (vs : List Nat) : TE := fun σ H Q => wi σ H fun J H1 => ∀ D, H1 D = none → ∃ W : Nat → Nat → Hp → Prop, (∃ m, W 0 m (upd H1 D (.dT []))) ∧ ∀ i m H, W i m H →
  (J.stop i H ∧ Q (.ref D) H) ∨ (J.go i H ∧ ∃ Nx : Hp → Prop, (∀ H', Nx H' → ∃ m', m' < m ∧ W (i + 1) m' H') ∧ ∀ x H', J.yld i H x H' → g x (wipe σ vs) H' fun σ2 H2 => wipe σ2 vs = wipe σ vs ∧ tt σ2 H2 fun b H3 =>
    if b = true then tk σ2 H3 fun y H4 => tv σ2 H4 fun z H5 => ∃ kvs k b, y = .ref b ∧ H5 b = some (.tup (k.map kV)) ∧ H5 D = some (.dT kvs) ∧ kvs.length < sizeLine ∧ Nx (upd H5 D (.dT (putK kvs k z))) else Nx H3)
end
end Q
namespace Q
open PySem PySem.Spec PyProof.Rows L2
section
variable {X : Cx} {K : PySem.W.Frag} {H : Hp} {Qv : VK} {a d : Addr} {od : Obj} {kvs : List (List Key × V)}
def rLenF : List V → Hp → VK → Prop := fun xs H Q => ∃ (p : Addr) (od : Obj) (kvs : List (List Key × V)), xs = [.ref p] ∧ H p = some (.frz od (.dT kvs)) ∧ Q (.int (kvs.length : Nat)) H
theorem r_lenF (h : H a = some (.frz od (.dT kvs))) (q : Qv (.int (kvs.length : Nat)) H) : rLenF [.ref a] H Qv := ⟨a, od, kvs, rfl, h, q⟩
def rIsiF : List V → Hp → VK → Prop := fun xs H Q => ∃ (p : Addr) (od : Obj) (kvs : List (List Key × V)), xs = [.ref p, .ty "dict"] ∧ H p = some (.frz od (.dT kvs)) ∧ Q (.bl true) H
theorem r_isiF (h : H a = some (.frz od (.dT kvs))) (q : Qv (.bl true) H) : rIsiF [.ref a, .ty "dict"] H Qv := ⟨a, od, kvs, rfl, h, q⟩
end
def DtAdd (Dd : Addr) (P : Hp → Prop) (y z : V) (H5 : Hp) : Prop := ∃ kvs k b, y = .ref b ∧ H5 b = some (.tup (k.map kV)) ∧ H5 Dd = some (.dT kvs) ∧ kvs.length < sizeLine ∧ P (upd H5 Dd (.dT (putK kvs k z)))
def DtT (Dd : Addr) (P : Hp → Prop) (tt : TT) (tk tv : TE) (vs : List Nat) (σ : L2.St) : L2.St → Hp → Prop := fun σ2 H2 => wipe σ2 vs = wipe σ vs ∧ tt σ2 H2 fun b H3 => if b = true then tk σ2 H3 fun y H4 => tv σ2 H4 fun z H5 => DtAdd Dd P y z H5 else P H3
def DtGo (J : It) (g : TG) (tt : TT) (tk tv : TE) (vs : List Nat) (σ : L2.St) (Q : VK) (H1 : Hp) : Prop := ∀ D, H1 D = none → ∃ W : Nat → Nat → Hp → Prop, (∃ m, W 0 m (upd H1 D (.dT []))) ∧ ∀ i m H, W i m H →
  (J.stop i H ∧ Q (.ref D) H) ∨ (J.go i H ∧ ∃ Nx : Hp → Prop, (∀ H', Nx H' → ∃ m', m' < m ∧ W (i + 1) m' H') ∧ ∀ x H', J.yld i H x H' → g x (wipe σ vs) H' (DtT D Nx tt tk tv vs σ))
theorem r_dt {wi : TI} {g : TG} {tt : TT} {tk tv : TE} {vs : List Nat} {σ : L2.St} {H : Hp} {Q : VK} (q : wi σ H fun J H1 => DtGo J g tt tk tv vs σ Q H1) : tDcT wi g tt tk tv vs σ H Q := q
theorem r_dtT {Dd : Addr} {P : Hp → Prop} {tt : TT} {tk tv : TE} {vs : List Nat} {σ σ2 : L2.St} {H : Hp} (h : wipe σ2 vs = wipe σ vs) (q : tt σ2 H fun b H3 => if b = true then tk σ2 H3 fun y H4 => tv σ2 H4 fun z H5 => DtAdd Dd P y z H5 else P H3) : DtT Dd P tt tk tv vs σ σ2 H := ⟨h, q⟩
def DtP (e : En) (G : Hp) (M : List Addr) (R : Nat → List (List Key × V) → Hp → Hp → Prop) (Dd : Addr) (i : Nat) (H : Hp) : Prop := ∃ kvs Gi, Wd e Gi H (Dd :: M) ∧ Same G Gi ∧ H Dd = some (.dT kvs) ∧ kvs.length ≤ i ∧ R i kvs Gi H
theorem r_dtAdd {e : En} {G Gy H4 : Hp} {M : List Addr} {R : Nat → List (List Key × V) → Hp → Hp → Prop} {Dd b : Addr} {i : Nat} {kvs : List (List Key × V)} {k : List Key} {z : V} (w : Wd e Gy H4 (Dd :: M)) (s : Same G Gy) (h : H4 Dd = some (.dT kvs)) (hl : kvs.length ≤ i) (hi : i ≤ 1000000) (hb : H4 b = some (.tup (k.map kV)))
    (go : ∀ H5, Wd e Gy H5 (Dd :: M) → But Dd H4 H5 → R (i + 1) (putK kvs k z) Gy H5) : DtAdd Dd (DtP e G M R Dd (i + 1)) (.ref b) z H4 := by
  have w5 := wd_mut (o := .dT (putK kvs k z)) w List.mem_cons_self
  exact ⟨kvs, k, b, rfl, hb, h, Nat.lt_of_le_of_lt (Nat.le_trans hl hi) (by decide), _, Gy, w5, s, upd_same, Nat.le_trans (length_putK _ _ _) (Nat.add_le_add_right hl 1), go _ w5 but_upd⟩
def L2P (e : En) (G : Hp) (M : List Addr) (R : List V → Hp → Hp → Prop) (Dd : Addr) (H : Hp) : Prop := ∃ acc Gi, Wd e Gi H (Dd :: M) ∧ Same G Gi ∧ H Dd = some (.lst acc) ∧ R acc Gi H
def L2In (J1 : It) (g1 : TG) (tt1 : TT) (te : TE) (Dd : Addr) (vs1 : List Nat) (σ2 : L2.St) (Nx : Hp → Prop) (H4 : Hp) : Prop := ∃ W1 : Nat → Nat → Hp → Prop, (∃ m, W1 0 m H4) ∧ ∀ j k H, W1 j k H →
  (J1.stop j H ∧ Nx H) ∨ (J1.go j H ∧ ∃ Nx1 : Hp → Prop, (∀ H', Nx1 H' → ∃ k', k' < k ∧ W1 (j + 1) k' H') ∧ ∀ x H', J1.yld j H x H' → g1 x (wipe σ2 vs1) H' (LcT Dd Nx1 tt1 te vs1 σ2))
def L2T (Dd : Addr) (P : Hp → Prop) (tt : TT) (wi1 : TI) (g1 : TG) (tt1 : TT) (te : TE) (vs vs1 : List Nat) (σ : L2.St) : L2.St → Hp → Prop := fun σ2 H2 => wipe σ2 vs = wipe σ vs ∧ tt σ2 H2 fun b H3 => if b = true then wi1 σ2 H3 fun J1 H4 => L2In J1 g1 tt1 te Dd vs1 σ2 P H4 else P H3
def L2Go (J : It) (g : TG) (tt : TT) (wi1 : TI) (g1 : TG) (tt1 : TT) (te : TE) (vs vs1 : List Nat) (σ : L2.St) (Q : VK) (H1 : Hp) : Prop := ∀ D, H1 D = none → ∃ W : Nat → Nat → Hp → Prop, (∃ m, W 0 m (upd H1 D (.lst []))) ∧ ∀ i m H, W i m H →
  (J.stop i H ∧ Q (.ref D) H) ∨ (J.go i H ∧ ∃ Nx : Hp → Prop, (∀ H', Nx H' → ∃ m', m' < m ∧ W (i + 1) m' H') ∧ ∀ x H', J.yld i H x H' → g x (wipe σ vs) H' (L2T D Nx tt wi1 g1 tt1 te vs vs1 σ))
theorem r_lc2 {wi wi1 : TI} {g g1 : TG} {tt tt1 : TT} {te : TE} {vs vs1 : List Nat} {σ : L2.St} {H : Hp} {Q : VK} (q : wi σ H fun J H1 => L2Go J g tt wi1 g1 tt1 te vs vs1 σ Q H1) : tLc2 wi g tt wi1 g1 tt1 te vs vs1 σ H Q := q
theorem r_l2T {Dd : Addr} {P : Hp → Prop} {tt tt1 : TT} {wi1 : TI} {g1 : TG} {te : TE} {vs vs1 : List Nat} {σ σ2 : L2.St} {H : Hp} (h : wipe σ2 vs = wipe σ vs) (q : tt σ2 H fun b H3 => if b = true then wi1 σ2 H3 fun J1 H4 => L2In J1 g1 tt1 te Dd vs1 σ2 P H4 else P H3) : L2T Dd P tt wi1 g1 tt1 te vs vs1 σ σ2 H := ⟨h, q⟩
theorem r_l2Add {e : En} {G Gy H4 : Hp} {M : List Addr} {R : List V → Hp → Hp → Prop} {Dd : Addr} {acc : List V} {y : V} (w : Wd e Gy H4 (Dd :: M)) (s : Same G Gy) (h : H4 Dd = some (.lst acc)) (hl : acc.length < 1000000)
    (k : ∀ H5, Wd e Gy H5 (Dd :: M) → But Dd H4 H5 → R (acc ++ [y]) Gy H5) : LcAdd Dd (L2P e G M R Dd) y H4 := by
  have w5 := wd_mut (o := .lst (acc ++ [y])) w List.mem_cons_self
  exact ⟨acc, h, Nat.lt_of_lt_of_le hl (by decide), _, Gy, w5, s, upd_same, k _ w5 but_upd⟩
theorem in_go {e : En} {G : Hp} {M : List Addr} {J1 : It} {m : Nat} {Gd : Hp → Prop} {Y : Nat → Hp → V → Hp → Prop} {g1 : TG} {tt1 : TT} {te : TE} {Dd : Addr} {vs1 : List Nat} {σ2 : L2.St} {Nx : Hp → Prop} {H4 : Hp} (hw : Walk J1 m Gd Y) (R : Nat → List V → Hp → Hp → Prop) (h0 : L2P e G M (R 0) Dd H4)
    (hG : ∀ j acc Gi H, Wd e Gi H (Dd :: M) → Same G Gi → R j acc Gi H → Gd H)
    (hs : ∀ j acc Gi H x H', j < m → Wd e Gi H (Dd :: M) → Same G Gi → H Dd = some (.lst acc) → R j acc Gi H → Y j H x H' → g1 x (wipe σ2 vs1) H' (LcT Dd (L2P e G M (R (j + 1)) Dd) tt1 te vs1 σ2))
    (hd : ∀ H, L2P e G M (R m) Dd H → Nx H) : L2In J1 g1 tt1 te Dd vs1 σ2 Nx H4 := by
  refine ⟨fun j k H => k = m - j ∧ j ≤ m ∧ L2P e G M (R j) Dd H, ⟨m, by simp, Nat.zero_le _, h0⟩, ?_⟩
  rintro j k H ⟨rfl, hj, acc, Gi, w2, s2, h2, r⟩
  have gd := hG j acc Gi H w2 s2 r
  by_cases lt : j < m
  · exact .inr ⟨hw.goes j H lt gd, L2P e G M (R (j + 1)) Dd, fun H' p' => ⟨m - (j + 1), by omega, rfl, lt, p'⟩, fun x H' y => hs j acc Gi H x H' lt w2 s2 h2 r (hw.yields j H x H' lt gd y)⟩
  · obtain rfl : j = m := by omega
    exact .inl ⟨hw.stops H gd, hd H ⟨acc, Gi, w2, s2, h2, r⟩⟩
theorem lc2_go {e : En} {G H1 : Hp} {M : List Addr} {J : It} {n : Nat} {Gd : Hp → Prop} {Y : Nat → Hp → V → Hp → Prop} {g g1 : TG} {tt tt1 : TT} {wi1 : TI} {te : TE} {vs vs1 : List Nat} {σ : L2.St} {Q : VK} (w : Wd e G H1 M) (hw : Walk J n Gd Y) (R : Nat → List V → Hp → Hp → Prop)
    (h0 : ∀ (Dd : Addr) (H : Hp), Wd e G H (Dd :: M) → Same H1 H → (∀ m ∈ M, Dd ≠ m) → R 0 [] G H)
    (hG : ∀ i acc Gi H, Wd e Gi H M → Same G Gi → R i acc Gi H → Gd H)
    (hs : ∀ (Dd : Addr) i acc Gi H x H', i < n → Wd e Gi H (Dd :: M) → Same G Gi → H Dd = some (.lst acc) → (∀ m ∈ M, Dd ≠ m) → R i acc Gi H → Y i H x H' → g x (wipe σ vs) H' (L2T Dd (L2P e G M (R (i + 1)) Dd) tt wi1 g1 tt1 te vs vs1 σ))
    (hd : ∀ (p : Addr) acc Gi Gp H, Wd e Gp H M → Same G Gp → Same Gi Gp → Gp p = some (.lst acc) → R n acc Gi H → Q (.ref p) H) : L2Go J g tt wi1 g1 tt1 te vs vs1 σ Q H1 := by
  intro Dd hD
  have w1 := wd_layM (o := .lst []) w hD
  have nm : ∀ m ∈ M, Dd ≠ m := fun m hm => w.nm hD hm
  refine ⟨fun i m H => m = n - i ∧ i ≤ n ∧ L2P e G M (R i) Dd H, ⟨n, by simp, Nat.zero_le _, [], G, w1, Same.refl _, upd_same, h0 Dd _ w1 (same_upd hD) nm⟩, ?_⟩
  rintro i m H ⟨rfl, hi, acc, Gi, w2, s2, h2, r⟩
  have gd := hG i acc Gi H (wd_drop w2 (List.sublist_cons_self _ _)) s2 r
  by_cases lt : i < n
  · exact .inr ⟨hw.goes i H lt gd, L2P e G M (R (i + 1)) Dd, fun H' p' => ⟨n - (i + 1), by omega, rfl, lt, p'⟩, fun x H' y => hs Dd i acc Gi H x H' lt w2 s2 h2 nm r (hw.yields i H x H' lt gd y)⟩
  · obtain rfl : i = n := by omega
    obtain ⟨w3, s3⟩ := wd_freeze w2 h2 (w.n0 hD)
    exact .inl ⟨hw.stops H gd, hd Dd acc Gi _ H w3 (s2.trans s3) s3 upd_same r⟩
end Q
namespace Q
open PySem PySem.Spec PyProof.Rows L2
def lifesOf (bt : List (Str × List Int)) : List (Str × Int) := bt.flatMap fun q => q.2.map fun b => (q.1, b)
def keyOf (l : Str × Int) : List Key := [.inr l.1, .inl l.2]
def turnKvs (tn : Str → Int → V) (ls : List (Str × Int)) : List (List Key × V) := ls.map fun l => (keyOf l, tn l.1 l.2)
def LifeAt (G : Hp) : List Addr → List (Str × Int) → Prop := Paired fun p l => G p = some (.tup [.str l.1, .int l.2])
theorem keyOf_inj {a b : Str × Int} (h : keyOf a = keyOf b) : a = b := by
  obtain ⟨a1, a2⟩ := a
  obtain ⟨b1, b2⟩ := b
  unfold keyOf at h
  simp at h
  rw [h.1, h.2]
theorem paired_get {α β : Type} {R : α → β → Prop} : ∀ {xs : List α} {ys : List β} {i : Nat} {x : α} {y : β}, Paired R xs ys → xs[i]? = some x → ys[i]? = some y → R x y
  | _, _, 0, _, _, .cons h _, e, f => by cases e; cases f; exact h
  | _, _, i + 1, _, _, .cons _ t, e, f => paired_get t (by simpa using e) (by simpa using f)
theorem paired_snoc {α β : Type} {R : α → β → Prop} {xs : List α} {ys : List β} {x : α} {y : β} (h : Paired R xs ys) (r : R x y) : Paired R (xs ++ [x]) (ys ++ [y]) := by
  induction h with
  | nil => exact .cons r .nil
  | cons h _ ih => exact .cons h ih
section
variable {K : PySem.W.Frag} {G G' : Hp} {ps : List Addr} {ls : List (Str × Int)} {bt : List (Str × List Int)} {tn : Str → Int → V}
theorem LifeAt.same (h : LifeAt G ps ls) (s : Same G G') : LifeAt G' ps ls := Paired.mapP h fun _ _ e => s _ _ e
theorem LifeAt.len (h : LifeAt G ps ls) : ps.length = ls.length := Paired.length h
theorem LifeAt.snoc (h : LifeAt G ps ls) {p : Addr} {t : Str} {b : Int} (e : G p = some (.tup [.str t, .int b])) : LifeAt G (ps ++ [p]) (ls ++ [(t, b)]) := paired_snoc h e
theorem nodup_pair (t : Str) : ∀ {ns : List Int}, ns.Nodup → (ns.map fun b => (t, b)).Nodup
  | [], _ => List.nodup_nil
  | n :: ns, h => by
    obtain ⟨a, b⟩ := List.nodup_cons.mp h
    refine List.nodup_cons.mpr ⟨fun m => ?_, nodup_pair t b⟩
    obtain ⟨u, hu, e⟩ := List.mem_map.mp m
    cases e
    exact a hu
theorem lifes_nodup : ∀ {bt : List (Str × List Int)}, (bt.map (·.1)).Nodup → (∀ q ∈ bt, q.2.Nodup) → (lifesOf bt).Nodup
  | [], _, _ => List.nodup_nil
  | q :: bt, h1, h2 => by
    obtain ⟨a, b⟩ := List.nodup_cons.mp (show (q.1 :: bt.map (·.1)).Nodup from h1)
    have ih := lifes_nodup b fun r hr => h2 r (List.mem_cons_of_mem _ hr)
    have e : lifesOf (q :: bt) = (q.2.map fun b => (q.1, b)) ++ lifesOf bt := by simp [lifesOf]
    rw [e, List.nodup_append]
    refine ⟨?_, ih, fun x hx y hy z => ?_⟩
    · exact nodup_pair q.1 (h2 q List.mem_cons_self)
    · obtain ⟨c, _, rfl⟩ := List.mem_map.mp hx
      unfold lifesOf at hy
      obtain ⟨r, hr, hy⟩ := List.mem_flatMap.mp hy
      obtain ⟨d, _, e2⟩ := List.mem_map.mp hy
      rw [← z] at e2
      have e3 : r.1 = q.1 := (Prod.mk.inj e2).1
      exact a (List.mem_map.mpr ⟨r, hr, e3⟩)
end
section
variable {K : PySem.W.Frag} {C Cl CH a h p : Addr} {e : En} {G H : Hp} {M : List Addr} {bt : List (Str × List Int)} {t : Str} {b : Int} {x : V} {ty : Value} {Q : VK} {E : XK} {tn : Str → Int → V} {ns : List Int}
structure BtOk (bt : List (Str × List Int)) : Prop where
  nd : (bt.map (·.1)).Nodup
  len : ∀ q ∈ bt, q.2.length ≤ 1000
  all : (lifesOf bt).length ≤ 1000
  nds : ∀ q ∈ bt, q.2.Nodup
theorem LvAt.at_ {kvs : List (Key × V)} (h : LvAt G kvs bt) : ∀ {i : Nat} {k : Key} {v : V}, kvs[i]? = some (k, v) → ∃ s ra ns, k = .inr s ∧ v = .ref ra ∧ bt[i]? = some (s, ns) ∧ G ra = some (.tup (ns.map V.int)) := by
  induction h with
  | nil => intro i k v e; simp at e
  | cons h1 _ ih =>
    intro i k v e
    cases i with
    | zero => cases e; exact ⟨_, _, _, rfl, rfl, rfl, h1⟩
    | succ i => exact ih (by simpa using e)
theorem LvAt.len {kvs : List (Key × V)} (h : LvAt G kvs bt) : kvs.length = bt.length := by
  induction h with
  | nil => rfl
  | cons _ _ ih => simp [ih]
def turnOk (ns : List Int) (b : Int) : V → Bool
  | .non => true
  | .int i => momV (.int i) b && decide (i ≤ nextOf ns b)
  | _ => false
/-- the turns in a dict are right, one for each life -/
structure TurnsOk (K : PySem.W.Frag) (G : Hp) (bt : List (Str × List Int)) (tn : Str → Int → V) (kvs : List (List Key × V)) : Prop where
  len : kvs.length = (lifesOf bt).length
  keys : ∀ kv ∈ kvs, ∃ l ∈ lifesOf bt, kv.1 = keyOf l
  val : ∀ l ∈ lifesOf bt, valV kvs (keyOf l) = some (tn l.1 l.2)
  ok : ∀ l ∈ lifesOf bt, turnOk ((nsOf bt l.1).getD []) l.2 (tn l.1 l.2) = true
  kd : ∀ l ∈ lifesOf bt, ∃ ty, Kd K G (tn l.1 l.2) ty
theorem TurnsOk.same {G' : Hp} {kvs : List (List Key × V)} (o : TurnsOk K G bt tn kvs) (s : Same G G') : TurnsOk K G' bt tn kvs := ⟨o.len, o.keys, o.val, o.ok, fun l hl => (o.kd l hl).elim fun t k => ⟨t, k.same s⟩⟩
def HistAt (CH C : Addr) (G : Hp) (h a : Addr) (bt : List (Str × List Int)) (tn : Str → Int → V) : Prop := ∃ dx D od, G h = some (.ins CH dx [("of_lives", .ref a), ("by_life", .ref D)]) ∧ G D = some (.frz od (.dT (turnKvs tn (lifesOf bt)))) ∧ LivesAt C G a bt
theorem HistAt.same {G' : Hp} (o : HistAt CH C G h a bt tn) (s : Same G G') : HistAt CH C G' h a bt tn := by
  obtain ⟨dx, D, od, h1, h2, h3⟩ := o
  exact ⟨dx, D, od, s _ _ h1, s _ _ h2, h3.same s⟩
end
end Q
namespace Q
open PySem PySem.Spec PyProof.Rows L2
section
variable {K : PySem.W.Frag} {σ : L2.St} {H : Hp} {Qv : VK} {ta tb : TE} {x : V} {xs : List V} {p : Addr} {a : Str} {ys : List Str}
def JoinGo (K : PySem.W.Frag) : V → List V → Hp → VK → Prop := fun x xs H Qv => ∃ a p, ∃ ys : List Str, x = .str a ∧ xs = [.ref p] ∧ (SqL K H p (ys.map V.str) ∨ SqT K H p (ys.map V.str)) ∧ (ys.map (·.length)).sum + ys.length * a.length ≤ 16777216 ∧ Qv (.str (Txt.join a ys)) H
theorem pe_joinQ {X : Cx} {o e : Expr} {to te : TE} {apos pos : Pos} (ho : PE X o to) (he : PE X e te) (hs : starEach [e] X.env = [(false, eval e X.env)] := by rfl) (hb : attributeBase o "join" X.env (eval o X.env) = eval o X.env := by rfl) (hl : (apos.endLine == pos.line) = true := by rfl) :
    PE X (.Call (.Attribute o "join" apos) [e] [] pos) (tM1 (JoinGo X.K) to te) := pe_join ho he hs hb hl
theorem r_tM1 {r : V → List V → Hp → VK → Prop} (q : ta σ H fun x H1 => (∃ a, x = .str a) ∧ tb σ H1 fun y H2 => r x [y] H2 Qv) : tM1 r ta tb σ H Qv := q
theorem r_strAnd {R : Prop} (q : R) : (∃ b, V.str a = .str b) ∧ R := ⟨⟨a, rfl⟩, q⟩
theorem r_joinL (h : SqL K H p (ys.map V.str)) (b : (ys.map (·.length)).sum + ys.length * a.length ≤ 16777216) (q : Qv (.str (Txt.join a ys)) H) : JoinGo K (.str a) [.ref p] H Qv := ⟨a, p, ys, rfl, rfl, .inl h, b, q⟩
theorem r_tOrT (q : ta σ H fun x H1 => ∃ k, TruV K x H1 k ∧ if k = true then Qv x H1 else tb σ H1 Qv) : tOrT K ta tb σ H Qv := q
end
end Q
namespace Q
open PySem PySem.Spec PyProof.Rows L2
end Q
namespace Q
open PySem PySem.Spec PyProof.Rows L2
theorem LifeAt.at_ {G : Hp} {ps : List Addr} {ls : List (Str × Int)} {i : Nat} {p : Addr} {l : Str × Int} (h : LifeAt G ps ls) (e1 : ps[i]? = some p) (e2 : ls[i]? = some l) : G p = some (.tup [.str l.1, .int l.2]) :=
  paired_get (R := fun (p : Addr) (l : Str × Int) => G p = some (.tup [.str l.1, .int l.2])) h e1 e2
end Q
namespace Q
open PySem PySem.Spec PyProof.Rows L2
def rStrN : List V → Hp → VK → Prop := fun xs H Q => ∃ i : Int, xs = [.int i] ∧ i.natAbs.log2 < 1920 ∧ Q (.str (toString i)) H
theorem r_strN {i : Int} {H : Hp} {Qv : VK} (h : i.natAbs.log2 < 1920) (q : Qv (.str (toString i)) H) : rStrN [.int i] H Qv := ⟨i, rfl, h, q⟩
def turnWord : V → Str
  | .int i => Str.ofString (toString i)
  | _ => Str.ofString "none"
def lifeText (tn : Str → Int → V) (l : Str × Int) : Str := Str.empty ++ l.1 ++ Str.ofString " " ++ Str.ofString (toString l.2) ++ Str.ofString " " ++ turnWord (tn l.1 l.2)
def histText (tn : Str → Int → V) (ls : List (Str × Int)) : Str := Txt.join (Str.ofString ", ") (match ls with
  | [] => [Str.ofString "nothing"]
  | l :: r => (l :: r).map (lifeText tn))
end Q
namespace Q
open PySem PySem.Spec PyProof.Rows L2
theorem r_gNil {σ : L2.St} {H : Hp} {R : L2.St → Hp → Prop} (q : R σ H) : gNil [] σ H R := ⟨rfl, q⟩
theorem r_gTupR {K : PySem.W.Frag} {n : Nat} {t : TGs} {a : Addr} {xs : List V} {σ : L2.St} {H : Hp} {R : L2.St → Hp → Prop} (h : SqT K H a xs) (hl : xs.length = n) (q : t xs σ H R) : gTup K n t (.ref a) σ H R := r_gTup h hl q
end Q
namespace Q
open PySem PySem.Spec PyProof.Rows L2
def Low (z : Str) : Prop := ∀ c ∈ z.cps.toList, c < 128
theorem low_app {x y : Str} (hx : Low x) (hy : Low y) : Low (x ++ y) := fun c hc => by
  have e : (x ++ y).cps.toList = x.cps.toList ++ y.cps.toList := TL.tl_append x y
  rw [e] at hc
  exact (List.mem_append.mp hc).elim (hx c) (hy c)
theorem low_of {x : Str} (h : x.cps.toList.all (fun c => decide (c < 128)) = true) : Low x := fun c hc => of_decide_eq_true (List.all_eq_true.mp h c hc)
theorem joinL_mem {S : List Nat} {c : Nat} : ∀ {ps : List (List Nat)}, c ∈ TL.joinL S ps → c ∈ S ∨ ∃ p ∈ ps, c ∈ p
  | [], h => by simp [TL.joinL] at h
  | [p], h => .inr ⟨p, by simp, by simpa [TL.joinL] using h⟩
  | p :: q :: r, h => by
    have h : c ∈ p ++ (S ++ TL.joinL S (q :: r)) := h
    rcases List.mem_append.mp h with h | h
    · exact .inr ⟨p, by simp, h⟩
    rcases List.mem_append.mp h with h | h
    · exact .inl h
    rcases joinL_mem h with h | ⟨x, hx, hc⟩
    · exact .inl h
    · exact .inr ⟨x, List.mem_cons_of_mem _ hx, hc⟩
theorem low_join {a : Str} {ts : List Str} (ha : Low a) (h : ∀ t ∈ ts, Low t) : Low (Txt.join a ts) := fun c hc => by
  rw [TL.join_eq] at hc
  have e : (Str.join a ts).cps.toList = TL.joinL a.cps.toList (ts.map fun t => t.cps.toList) := TL.tl_join a ts
  rw [e] at hc
  rcases joinL_mem hc with h1 | ⟨p, hp, h2⟩
  · exact ha c h1
  · obtain ⟨t, ht, rfl⟩ := List.mem_map.mp hp
    exact h t ht c h2
theorem low_num (i : Int) : Low (Str.ofString (toString i)) := fun c hc => by
  rw [Str.ofString_eq_toList] at hc
  have hc : c ∈ (toString i).toList.map Char.toNat := by simpa using hc
  obtain ⟨ch, hm, rfl⟩ := List.mem_map.mp hc
  exact int_ascii i ch hm
abbrev Chs := List ((Str × Int) × V)
def ChAt (G : Hp) : List Addr → Chs → Prop := Paired fun p c => ∃ b, G p = some (.tup [.ref b, c.2]) ∧ G b = some (.tup [.str c.1.1, .int c.1.2])
def kvsOf (cs : Chs) : List (List Key × V) := cs.map fun c => (keyOf c.1, c.2)
def tnOf (cs : Chs) (t : Str) (b : Int) : V := (valV (kvsOf cs) (keyOf (t, b))).getD .non
def choText (c : (Str × Int) × V) : Str := c.1.1 ++ Str.ofString " " ++ Str.ofString (toString c.1.2) ++ Str.ofString " " ++ turnWord c.2
section
variable {K : PySem.W.Frag} {G G' : Hp} {ps : List Addr} {cs : Chs} {bt : List (Str × List Int)}
theorem ChAt.same (h : ChAt G ps cs) (s : Same G G') : ChAt G' ps cs := Paired.mapP h fun _ _ ⟨b, h1, h2⟩ => ⟨b, s _ _ h1, s _ _ h2⟩
theorem ChAt.len (h : ChAt G ps cs) : ps.length = cs.length := Paired.length h
theorem ChAt.snoc (h : ChAt G ps cs) {p b : Addr} {t : Str} {i : Int} {v : V} (h1 : G p = some (.tup [.ref b, v])) (h2 : G b = some (.tup [.str t, .int i])) : ChAt G (ps ++ [p]) (cs ++ [((t, i), v)]) := paired_snoc h ⟨b, h1, h2⟩
theorem val_in (nd : (cs.map (·.1)).Nodup) {c : (Str × Int) × V} (h : c ∈ cs) : valV (kvsOf cs) (keyOf c.1) = some c.2 := by
  induction cs with
  | nil => cases h
  | cons d cs ih =>
    obtain ⟨a, b⟩ := List.nodup_cons.mp (show (d.1 :: cs.map (·.1)).Nodup from nd)
    rcases List.mem_cons.mp h with e | m
    · subst e
      exact valV_pos rfl
    · have ne : ¬ keyOf d.1 = keyOf c.1 := fun z => a (by rw [keyOf_inj z]; exact List.mem_map.mpr ⟨c, m, rfl⟩)
      exact (valV_neg (p := (keyOf d.1, d.2)) ne).trans (ih b m)
theorem tn_in (nd : (cs.map (·.1)).Nodup) {c : (Str × Int) × V} (h : c ∈ cs) : tnOf cs c.1.1 c.1.2 = c.2 := by
  show (valV (kvsOf cs) (keyOf c.1)).getD .non = c.2
  rw [val_in nd h]
  rfl
/-- the turns that were chosen -/
structure ChOk (bt : List (Str × List Int)) (cs : Chs) : Prop where
  fst : cs.map (·.1) = lifesOf bt
  tv : ∀ c ∈ cs, c.2 = .non ∨ ∃ i, c.2 = .int i ∧ 0 ≤ i ∧ i ≤ 1000000000000000000000000000000
  ok : ∀ c ∈ cs, ∃ ns, (c.1.1, ns) ∈ bt ∧ turnOk ns c.1.2 c.2 = true
/-- what the law tells is what is written -/
theorem ChOk.text (o : ChOk bt cs) (ob : BtOk bt) : histText (tnOf cs) (lifesOf bt) = Txt.join (Str.ofString ", ") (match cs with
    | [] => [Str.ofString "nothing"]
    | c :: r => (c :: r).map choText) := by
  have nd : (cs.map (·.1)).Nodup := by rw [o.fst]; exact lifes_nodup ob.nd ob.nds
  have each : ∀ ds : Chs, (∀ c ∈ ds, c ∈ cs) → (ds.map (·.1)).map (lifeText (tnOf cs)) = ds.map choText := fun ds h => by
    rw [List.map_map]
    refine List.map_congr_left fun c hc => ?_
    show lifeText (tnOf cs) c.1 = choText c
    unfold lifeText choText
    rw [tn_in nd (h c hc), Str.empty_append]
  unfold histText
  have e := each cs fun _ h => h
  rw [o.fst] at e
  cases cs with
  | nil =>
    have : lifesOf bt = [] := o.fst.symm
    rw [this]
  | cons c r =>
    cases els : lifesOf bt with
    | nil => rw [← o.fst] at els; cases els
    | cons l ls =>
      rw [els] at e
      show Txt.join _ ((l :: ls).map (lifeText (tnOf (c :: r)))) = _
      rw [e]
end
end Q
namespace Q
open PySem PySem.Spec PyProof.Rows L2
def numsR (bs : List (Str × List Int)) : List (Str × List V) := bs.map fun q => (q.1, q.2.map V.int)
end Q
namespace Q
open PySem PySem.Spec PyProof.Rows L2
def RevGo (K : PySem.W.Frag) (x : V) (H : Hp) (Qv : VK) : Prop := ∃ a xs, x = .ref a ∧ SqL K H a xs ∧ ∀ p, H p = none → Qv (.ref p) (upd H p (.lst xs.reverse))
def tRevQ (K : PySem.W.Frag) (te : TE) : TE := fun σ H Qv => te σ H fun x H1 => RevGo K x H1 Qv
section
variable {K : PySem.W.Frag} {te : TE} {σ : L2.St} {H : Hp} {Qv : VK} {a : Addr} {xs : List V}
theorem r_tRev (q : te σ H fun x H1 => RevGo K x H1 Qv) : tRevQ K te σ H Qv := q
theorem r_revL (h : SqL K H a xs) (q : Lay 0 (.lst xs.reverse) Qv H) : RevGo K (.ref a) H Qv := ⟨a, xs, rfl, h, q.2⟩
def Par3K (i j l : Nat) (vs : List V) (σ : L2.St) (N : L2.St → Hp → Prop) (H : Hp) : Prop := ∃ u v w, vs = [u, v, w] ∧ N (((σ.set i (some u)).set j (some v)).set l (some w)) H
theorem r_par3 {i j l : Nat} {ta : TA} {D : Ends} (q : ta σ H fun vs H1 => Par3K i j l vs σ D.nx H1) : tPar3 i j l ta D σ H := q
theorem r_par3K {i j l : Nat} {u v w : V} {N : L2.St → Hp → Prop} (q : N (((σ.set i (some u)).set j (some v)).set l (some w)) H) : Par3K i j l [u, v, w] σ N H := ⟨u, v, w, rfl, q⟩
end
end Q
namespace Q
open PySem PySem.Spec PyProof.Rows L2
def Hold (xs : List (Addr × HO)) (H : Hp) : Prop := ∀ q ∈ xs, H q.1 = some q.2
theorem Hold.same {xs : List (Addr × HO)} {H H' : Hp} (h : Hold xs H) (s : Same H H') : Hold xs H' := fun q hq => s _ _ (h q hq)
theorem Hold.but {xs : List (Addr × HO)} {H H' : Hp} {p : Addr} (h : Hold xs H) (b : But p H H') (n : ∀ q ∈ xs, q.1 ≠ p) : Hold xs H' := fun q hq => b _ _ (n q hq) (h q hq)
theorem Hold.hd {a : Addr} {o : HO} {xs : List (Addr × HO)} {H : Hp} (h : Hold ((a, o) :: xs) H) : H a = some o := h (a, o) List.mem_cons_self
theorem Hold.tl {a : Addr} {o : HO} {xs : List (Addr × HO)} {H : Hp} (h : Hold ((a, o) :: xs) H) : Hold xs H := fun q hq => h q (List.mem_cons_of_mem _ hq)
instance {a b : Str} : Decidable (leS a b) := by unfold leS; infer_instance
instance {z : Str} : Decidable (Low z) := decidable_of_iff (z.cps.toList.all (fun c => decide (c < 128)) = true) ⟨fun h => low_of h, fun h => List.all_eq_true.mpr fun c hc => decide_eq_true (h c hc)⟩
theorem LsAt.beg {K : PySem.W.Frag} {G : Hp} {kvs : List (Key × V)} {bs : List (Str × List Int)} (h : LsAt G kvs bs) : BegAt K G kvs (numsR bs) := by
  induction h with
  | nil => exact .nil
  | cons h _ ih => exact .cons (.inl (SqL.of h)) ih
end Q
namespace Q
open PySem PySem.Spec PyProof.Rows L2
end Q
namespace Q
open PySem PySem.Spec PyProof.Rows L2
theorem LsAt.at_ {G : Hp} {kvs : List (Key × V)} {bt : List (Str × List Int)} (h : LsAt G kvs bt) : ∀ {i : Nat} {k : Key} {v : V}, kvs[i]? = some (k, v) → ∃ s ra ns, k = .inr s ∧ v = .ref ra ∧ bt[i]? = some (s, ns) ∧ G ra = some (.lst (ns.map V.int)) := by
  induction h with
  | nil => intro i k v e; simp at e
  | cons h1 _ ih =>
    intro i k v e
    cases i with
    | zero => cases e; exact ⟨_, _, _, rfl, rfl, rfl, h1⟩
    | succ i => exact ih (by simpa using e)
end Q
namespace Q
open PySem PySem.Spec PyProof.Rows L2
abbrev zBlank : Str := Str.ofString " "
abbrev zNl : Str := Str.ofString "\n"
def numB (l : List Nat) : Bool := decide (1 ≤ l.length) && (decide (l.length ≤ 31) && (l.all figB && !(decide (l.head? = some 48) && decide (1 < l.length))))
def momW (z : Str) : Option Int := if numB z.cps.toList = true ∧ ((NumText.digitsVal z.cps.toList : Nat) : Int) ≤ 1000000000000000000000000000000 then some ((NumText.digitsVal z.cps.toList : Nat) : Int) else none
theorem fig_iff (c : Nat) : figB c = true ↔ 48 ≤ c ∧ c ≤ 57 := by
  have e : zFigures.cps.toList = [48, 49, 50, 51, 52, 53, 54, 55, 56, 57] := by decide +kernel
  unfold figB
  rw [decide_eq_true_iff, e]
  simp only [List.mem_cons, List.not_mem_nil, or_false]
  omega
def wordsOf (x : Str) : List Str := Txt.split ((Txt.split x zNl).headD Str.empty) zBlank
def entText (t : Str) (i : Int) (b : Str) : Str := Str.empty ++ Str.ofString "check " ++ t ++ Str.ofString " " ++ Str.ofString (toString i) ++ Str.ofString " by " ++ b
def entWords (t : Str) (i : Int) (b : Str) : List Str := [Str.ofString "check", t, Str.ofString (toString i), Str.ofString "by", b]
theorem ent_join (t : Str) (i : Int) (b : Str) : Txt.join zBlank (entWords t i b) = entText t i b := by
  refine TL.ext_tl ?_
  rw [TL.join_eq, TL.tl_join]
  unfold entText entWords
  simp only [TL.tl_append]
  have e1 : TL.tl (Str.ofString "check ") = TL.tl (Str.ofString "check") ++ TL.tl zBlank := by decide +kernel
  have e2 : TL.tl (Str.ofString " by ") = TL.tl zBlank ++ TL.tl (Str.ofString "by") ++ TL.tl zBlank := by decide +kernel
  have e0 : TL.tl Str.empty = [] := rfl
  rw [e1, e2, e0]
  simp only [List.map_cons, List.map_nil, TL.joinL, List.nil_append, List.append_assoc]
theorem nm_free {z : Str} (h : nmOk z = true) {c : Nat} (hc : c < 48) : c ∉ z.cps.toList := fun m => by
  unfold nmOk at h
  simp only [Bool.and_eq_true] at h
  have a := List.all_eq_true.mp h.2.2.2 c m
  have e : zLetters.cps.toList.all (fun c => decide (97 ≤ c)) = true := by decide +kernel
  rcases Bool.or_eq_true_iff.mp a with a | a
  · have := List.all_eq_true.mp e c (of_decide_eq_true a)
    have := of_decide_eq_true this
    omega
  · have := (fig_iff c).mp a
    omega
theorem ent_free {t b : Str} {i : Int} (ht : nmOk t = true) (hb : nmOk b = true) (h0 : 0 ≤ i) {c : Nat} (hc : c < 48) : ∀ p ∈ entWords t i b, c ∉ TL.tl p := by
  intro p hp
  obtain ⟨n, rfl⟩ := Int.eq_ofNat_of_zero_le h0
  simp only [entWords, List.mem_cons, List.not_mem_nil, or_false] at hp
  have low : ∀ x : Str, x.cps.toList.all (fun c => decide (48 ≤ c)) = true → c ∉ TL.tl x := fun x hx m => by
    have := of_decide_eq_true (List.all_eq_true.mp hx c m)
    omega
  rcases hp with rfl | rfl | rfl | rfl | rfl
  · exact low _ (by decide +kernel)
  · exact nm_free ht hc
  · rw [TL.tl_num]
    exact TL.numL_free (.inl hc)
  · exact low _ (by decide +kernel)
  · exact nm_free hb hc
end Q
namespace Q
open PySem PySem.Spec PyProof.Rows L2
def WsAt (G : Hp) (p : Addr) (ws : List Str) : Prop := G p = some (.lst (ws.map V.str)) ∧ ws.length ≤ 1000000 ∧ ∀ z ∈ ws, z.length ≤ 1000000
def LinesAt (G : Hp) (p : Addr) (z : Str) : Prop := ∃ vs q, G p = some (.lst vs) ∧ vs.length = (Txt.split z zNl).length ∧ vs[0]? = some (.ref q) ∧ WsAt G q (wordsOf z)
def RightE (t : Str) (i : Int) (b : Str) : Prop := nmOk t = true ∧ nmOk b = true ∧ 0 ≤ i ∧ i ≤ 1000000000000000000000000000000
structure EnC (K : PySem.W.Frag) (C : Addr) : Prop where
  c : Cls K C
  n1 : NoAttr K C "tool"
  n2 : NoAttr K C "moment"
  n3 : NoAttr K C "by"
  n4 : NoAttr K C "face"
  ca : PySem.W.findIn K (.ref C) "__class__" = some (some (.builtin "object.__class__"))
  cn : PySem.W.specialIn K (.builtin "object.__class__") "__get__" = some (some (.builtin "getset_descriptor.__get__"))
  ct : PySem.W.takesIn K (.builtin "object.__class__") = some true
  cm : PySem.W.mroIn K C (.type "object") = some true
  me : PySem.W.kitOne K (.ref C) (.ref C) = some true
  tup : PySem.W.kitOne K (.type "tuple") (.ref C) = some false
  fme : PySem.W.notFirst K C (.ref C) = true
def faceE (t : Str) (i : Int) (b : Str) : PyData := .tuple [.str t, .int i, .str b]
def EntAt (C : Addr) (G : Hp) (a : Addr) (t : Str) (i : Int) (b : Str) : Prop := RightE t i b ∧ ∃ dx fc, G a = some (.ins C dx [("tool", .str t), ("moment", .int i), ("by", .str b), ("face", .ref fc)]) ∧ G fc = some (.tup [.str t, .int i, .str b])
theorem EntAt.same {C a : Addr} {G G' : Hp} {t b : Str} {i : Int} (h : EntAt C G a t i b) (s : Same G G') : EntAt C G' a t i b := by
  obtain ⟨r, dx, fc, h1, h2⟩ := h
  exact ⟨r, dx, fc, s _ _ h1, s _ _ h2⟩
theorem RightE.mom {t b : Str} {i : Int} (h : RightE t i b) : momV (.int i) 0 = true := by
  show (_ && _) = true
  rw [decide_eq_true h.2.2.1, decide_eq_true h.2.2.2] <;> rfl
def spEntInit (C : Addr) : Sp := fun vs H Q _ => ∃ (G : Hp) (x dx : Addr) (t : Str) (i : Int) (b : Str), vs = [.ref x, .str t, .int i, .str b] ∧ Gh G H ∧ G x = none ∧ H x = some (.ins C dx []) ∧ RightE t i b ∧
  ∀ (G' H' : Hp) (fc : Addr), But x H H' → Gh G' H' → Same G G' → (∀ a, H a ≠ none → G' a = G a) → G' fc = some (.tup [.str t, .int i, .str b]) → H' x = some (.ins C dx [("tool", .str t), ("moment", .int i), ("by", .str b), ("face", .ref fc)]) → Q .non H'
theorem u_ent {C : Addr} {e : En} {G H : Hp} {M : List Addr} {t b : Str} {i : Int} {Qv : VK} {E : XK} (w : Wd e G H M) (r : RightE t i b)
    (k : ∀ a G' H', Wd e G' H' M → Same G G' → Same H H' → EntAt C G' a t i b → Qv (.ref a) H') : MakeGo C (spEntInit C) [.str t, .int i, .str b] E H Qv := by
  refine make_go w fun x dx G1 H1 hx nm s1 t1 w1 h1 n0 => ?_
  refine ⟨G1, x, dx, t, i, b, rfl, w1.gh, (w1.mu x List.mem_cons_self).1, h1, r, fun G2 H2 fc b2 s2 s3 fr hf h2 => ⟨rfl, ?_⟩⟩
  have w2 : Wd e G2 H2 (x :: M) := by
    have w3 := wd_but w1 List.mem_cons_self b2 h2
    refine ⟨s2.1, fun a ha => ?_, w1.nd, w3.dom, fun a o h => s3 _ _ (w1.gr _ _ h), fun a ha => by rw [fr a (w1.dom a ha)]; exact w1.fr a ha, w3.kp, s2.2, w3.mt, w3.tb⟩
    obtain ⟨g1, ⟨o, g2⟩, g3⟩ := w1.mu a ha
    obtain ⟨_, g4, _⟩ := w3.mu a ha
    exact ⟨by rw [fr a (some_ne g2)]; exact g1, g4, g3⟩
  obtain ⟨w4, s4⟩ := wd_freeze w2 h2 n0
  refine k x _ H2 w4 (s1.trans (s3.trans s4)) (fun a o h => ?_) ⟨r, dx, fc, upd_same, s4 _ _ hf⟩
  refine b2 a o (fun q => ?_) (t1 _ _ h)
  subst q
  rw [hx] at h
  cases h
/-- == of an entry and an entry -/
def spEntEq (C : Addr) : Sp := fun vs H Q _ => ∃ (G : Hp) (a c : Addr) (t : Str) (i : Int) (b : Str), vs = [.ref a, .ref c] ∧ Gh G H ∧ EntAt C G a t i b ∧ EntAt C G c t i b ∧ Ret G H (fun v _ => v = .bl true) Q
def spEntStr (C : Addr) : Sp := fun vs H Q _ => ∃ (G : Hp) (a : Addr) (t : Str) (i : Int) (b : Str), vs = [.ref a] ∧ Gh G H ∧ EntAt C G a t i b ∧ Ret G H (fun v _ => v = .str (entText t i b)) Q
section
variable {K : PySem.W.Frag} {C Ct : Addr} {e : En} {G H : Hp} {M : List Addr} {Q : VK} {E : XK}
theorem EnC.ty (S : EnC K C) {a : Addr} {t b : Str} {i : Int} (h : EntAt C G a t i b) : TyX K G (.ref a) (.ref C) := by
  obtain ⟨_, dx, fc, h1, _⟩ := h
  exact .base (.ins h1 S.c S.ca S.cn S.ct S.cm)
theorem u_entEq {a c : Addr} {t b : Str} {i : Int} (w : Wd e G H M) (h1 : EntAt C G a t i b) (h2 : EntAt C G c t i b) (k : ∀ G' H', Wd e G' H' M → Same G G' → Same H H' → Q (.bl true) H') : spEntEq C [.ref a, .ref c] H Q E :=
  ⟨G, a, c, t, i, b, rfl, w.gh, h1, h2, ret_use w fun v G' H' w' s1 s2 p => by subst p; exact k G' H' w' s1 s2⟩
theorem u_entStr {a : Addr} {t b : Str} {i : Int} (w : Wd e G H M) (h1 : EntAt C G a t i b) (k : ∀ G' H', Wd e G' H' M → Same G G' → Same H H' → Q (.str (entText t i b)) H') : spEntStr C [.ref a] H Q E :=
  ⟨G, a, t, i, b, rfl, w.gh, h1, ret_use w fun v G' H' w' s1 s2 p => by subst p; exact k G' H' w' s1 s2⟩
end
theorem shaped_faceE {t b : Str} {i : Int} (h : RightE t i b) : SeqAt.shaped (faceE t i b) = true := by
  have e := nmOk_str h.1
  have e2 := nmOk_str h.2.1
  simp [faceE, SeqAt.shaped, PyData.canLay0, PyData.canLayAll0, PyData.depth, PyData.depthAll, e, e2]
theorem eq_faceE {t b : Str} {i : Int} : PyData.eqv (faceE t i b) (faceE t i b) = true := by simp [faceE, PyData.eqv, PyData.eqvAll]
end Q
namespace Q
open PySem PySem.Spec PyProof.Rows L2
/-- the tuple at a, each item in a new pair -/
def IteT (K : PySem.W.Frag) (a : Addr) : It :=
  ⟨fun i H => ∃ (xs : List V) (x : V), SqT K H a xs ∧ xs[i]? = some x, fun i H v H' => ∃ T x, v = .ref T ∧ H T = none ∧ H' = upd H T (.tup [.int (i : Nat), x]) ∧ ∀ xs, SqT K H a xs → xs[i]? = some x, fun i H => ∃ xs : List V, SqT K H a xs ∧ xs.length ≤ i⟩
def iEnumT (K : PySem.W.Frag) (ta : TA) : TI := fun σ H R => ta σ H fun vs H1 => ∃ a xs, vs = [.ref a] ∧ SqT K H1 a xs ∧ R (IteT K a) H1
theorem r_iEnumT {K : PySem.W.Frag} {ta : TA} {σ : L2.St} {H : Hp} {R : It → Hp → Prop} (q : ta σ H fun vs H1 => ∃ a xs, vs = [.ref a] ∧ SqT K H1 a xs ∧ R (IteT K a) H1) : iEnumT K ta σ H R := q
theorem r_iEnumTR {K : PySem.W.Frag} {H : Hp} {R : Addr → Prop} {a : Addr} {xs : List V} (h : SqT K H a xs) (q : R a) : ∃ b xs, [V.ref a] = [.ref b] ∧ SqT K H b xs ∧ R b := ⟨a, xs, rfl, h, q⟩
end Q
namespace Q
open PySem PySem.Spec PyProof.Rows L2
end Q
namespace Q
open PySem PySem.Spec PyProof.Rows L2
theorem WsAt.same {G G' : Hp} {p : Addr} {ws : List Str} (h : WsAt G p ws) (s : Same G G') : WsAt G' p ws := ⟨s _ _ h.1, h.2⟩
theorem LinesAt.same {G G' : Hp} {p : Addr} {z : Str} (h : LinesAt G p z) (s : Same G G') : LinesAt G' p z := by
  obtain ⟨vs, q, h1, h2, h3, h4⟩ := h
  exact ⟨vs, q, s _ _ h1, h2, h3, h4.same s⟩
end Q
namespace Q
open PySem PySem.Spec PyProof.Rows L2
end Q
namespace Q
open PySem PySem.Spec PyProof.Rows L2
/-- what a clause that takes every exception of the body wishes of it; the exception is told within the suite already -/
def wTold (K : PySem.W.Frag) (c : Value) (i m : Nat) (ts : Addr → Value → Option Addr → TS) (D : Ends) : WX := fun cls d σ H => PySem.W.exmOne K cls c = some true ∧ ∀ a, H a = none → σ.length = m →
  ts a cls d { nx := fun τ G => D.nx (τ.set i none) G, rt := D.rt, bk := fun τ G => D.bk (τ.set i none) G, ct := fun τ G => D.ct (τ.set i none) G } (σ.set i (some (.ref a))) (upd H a (ExK cls d a))
section
variable {X : Cx} {x n : Str} {c : Value} {i : Nat} {body rest : List Stmt} {first : Stmt} {np tp hp : Pos} {tb : WX → TS} {ts : Addr → Value → Option Addr → TS}
theorem ps_try_told (hst : X.stack = X.env :: X.outer) (hfr : X.env.frame = some X.env.locals) (hN : X.N.Nodup) (hi : X.N[i]? = some n) (hln : X.env.kindOf n = some .local) (hc : Names X x c)
    (hb : ∀ (W : WX) (pn : List (Addr × Obj)) (xe : Value → Shared → Prop), Takes (X.tr pn xe) W → PassesOwn (model X.prog X.w) X.A X.env xe → PSs (X.tr pn xe) body (tb W))
    (hs : ∀ (a : Addr) (oe : Obj) (cls : Value) (d : Option Addr) (pn : List (Addr × Obj)), Zc cls d oe → (∃ vs, oe.data = .fields vs) → PSs (X.suite a pn) (first :: rest) (ts a cls d)) :
    PS X (.Try body [.ExceptHandler (some (.Name x np)) (some n) (first :: rest) hp] [] [] tp) (fun D σ H => tb (wTold X.K c i X.N.length ts D) D σ H) := by
  refine ⟨fun pins s σ H D I0 h0 => ?_⟩
  have hok := I0.ok
  have frames : X.A.frames = some (X.env :: X.outer) := by
    rw [hok.frames, hst]
  let clause : List ExceptHandler := [.ExceptHandler (some (.Name x np)) (some n) (first :: rest) hp]
  let caught : Value → Shared → Prop := fun e t => wpAny (model X.prog X.w) X.A (noteFrame e X.env) (fun _ t2 => wpAny (model X.prog X.w) X.A (setFlight e none)
    (fun _ t3 => wpAny (model X.prog X.w) X.A (handleBy e X.env clause) (SP X pins D) X.xe t3) X.xe t2) X.xe t
  refine wpAny_Try_except ?_
  have catches : Takes (X.tr (X.pn ++ pins) caught) (wTold X.K c i X.N.length ts D) := by
    rintro u t ⟨a, B, sI, pins1, σ1, H1, cls, d, rfl, J0, ground, up, sky, na, os, ag, takes, suite⟩
    have J : Inv X pins σ1 H1 sI := J0.ofTry hok
    have air : Sky B (X.env :: X.outer) a (Zc cls d) X.env.locals t.heap := by
      rw [← hst]
      exact sky
    show wpAny (model X.prog X.w) X.A (noteFrame (.ref a) X.env) _ _ t
    refine Sky.land Zc.steady frames hfr air fun h3 fl3 up3 => ?_
    have J3 : Inv X pins σ1 H1 { t with heap := h3 } := J.landed ground fl3.1 (up.trans up3) os ag
    obtain ⟨oe3, vs3, at3, z3, d3⟩ := fl3.there
    have offF : a ∉ frs (X.env :: X.outer) := fun hm => by
      obtain ⟨_, o2, e2, nf⟩ := fl3.2.2.1.mem hm
      obtain rfl := Option.some.inj (at3.symm.trans e2)
      exact nf _ d3
    have offL : a ≠ X.env.locals := fun z => by
      refine offF (List.mem_filterMap.mpr ⟨X.env, List.mem_cons_self, ?_⟩)
      rw [hfr, z]
    have offO : a ∉ X.fs := fun hm => by
      obtain ⟨e, he, q⟩ := List.mem_filterMap.mp hm
      exact offF (List.mem_filterMap.mpr ⟨e, List.mem_cons_of_mem _ he, q⟩)
    have offS : a ∉ frs X.stack := by
      rw [hst]
      exact offF
    have gone : ∀ o, sI.heap.get? a = some o → False := fun o z => by
      have y := ground a o z offS
      rw [fl3.2.1] at y
      cases y
    have far : ∀ o, X.s_0.heap.get? a = some o → X.H_0 a = none → a ∉ X.ex → False := fun o z n nx => gone o (J.base.keep a o z n offO nx)
    have apart : ∀ p ∈ X.pn ++ pins, p.1 ≠ a := fun p hp z => by
      have y := (J.pin p hp).1
      rw [z] at y
      exact gone _ y
    have S3 := J3.suite at3 d3 na offL offO
    refine wpAny_handleBy_cons (codeAny_handlers_test ?_) (by intro q; cases q)
    have ty : PySem.W.Looks (model X.prog X.w) h3 (typeOf (.ref a)) cls := fun A Q E s k q => by
      refine wpAny_typeOf_ref (k _ _ at3) ?_
      rw [z3.1]
      exact q
    have match_ := PySem.W.exm_one (M := model X.prog X.w) J3.kIn ty takes
    have named : ∀ {Q E : Value → Shared → Prop}, Q c { t with heap := h3 } → wpAny (model X.prog X.w) (X.A.mark (some (.ref a))) (eval (.Name x np) X.env) Q E { t with heap := h3 } := by
      intro Q E q
      obtain ⟨hg, hdbg, y⟩ := hc
      rcases y with hm | ⟨hm, hv, hnn⟩
      · exact ld_glob (X := X.suite a ((a, oe3) :: (X.pn ++ pins))) S3 hg hm q hdbg
      · exact ld_blt (X := X.suite a ((a, oe3) :: (X.pn ++ pins))) S3 hg hm hv q hnn hdbg
    refine named (match_.here (codeAny_handlers_suite_as ?_))
    refine HandSPX.lands_againZ fl3 fun h4 fl4 up4 => ?_
    have J4 : Inv X pins σ1 H1 { t with heap := h4 } := J.landed ground fl4.1 ((up.trans up3).trans up4) os ag
    obtain ⟨oe4, vs4, at4, z4, d4⟩ := fl4.there
    have S4 := J4.suite at4 d4 na offL offO
    refine store_ok (X := X.suite a ((a, oe4) :: (X.pn ++ pins))) (v := .ref a) S4 hN hi (.inl hln) rfl (fun s5 S5 => ?_) (.inr hln)
    have T5 : Inv (X.suite a (X.pn ++ pins)) [(a, oe4)] (σ1.set i (some (.ref a))) H1 s5 := ⟨hok.suite _ _, S5.os, S5.bare, S5.base, S5.loc, S5.cell, S5.free, S5.freeC, fun p hp => S5.pin p (by
      rcases List.mem_append.mp hp with q | q
      · exact List.mem_append_left _ (List.mem_cons_of_mem _ q)
      · rw [List.mem_singleton.mp q]
        exact List.mem_append_left _ List.mem_cons_self), S5.hok, S5.len⟩
    have U5 := track_exc (d := d) (cls := cls) T5 z4 d4 far (fun p hp => apart p (by rw [List.append_nil] at hp; exact hp))
    have go := (hs a oe4 cls d (X.pn ++ pins) z4 ⟨_, d4⟩).run [] s5 _ _ _ U5 (suite a na J.len)
    refine wpAny_mono go (fun f s6 done => ?_) fun _ _ z => z.elim
    have leave : ∀ {τ : L2.St} {G : Hp} {R : Shared → Prop}, Inv (X.suite a (X.pn ++ pins)) [] τ G s6 → (∀ s7, Inv X pins (τ.set i none) G s7 → R s7) →
        wpAny (model X.prog X.w) X.A (do bindName X.env n .none; unbindBehindTheSuite X.env n hp) (fun _ s7 => R s7) X.xe s6 := by
      intro τ G R S6 k
      exact gone_ok (X := X) (pins := pins) ⟨hok, S6.os, S6.bare, S6.base, S6.loc, S6.cell, S6.free, S6.freeC, fun p hp => S6.pin p (List.mem_append_left _ hp), S6.hok, S6.len⟩ hN hi hln fun s7 J7 => k s7 J7
    match f, done with
    | .next, done =>
      obtain ⟨τ, G, S6, q⟩ := done
      exact leave S6 fun s7 J7 => ⟨_, _, J7, q⟩
    | .brk, done =>
      obtain ⟨τ, G, S6, q⟩ := done
      exact leave S6 fun s7 J7 => ⟨_, _, J7, q⟩
    | .cont, done =>
      obtain ⟨τ, G, S6, q⟩ := done
      exact leave S6 fun s7 J7 => ⟨_, _, J7, q⟩
    | .ret u, done =>
      obtain ⟨v, τ, G, S6, r, q⟩ := done
      exact leave S6 fun s7 J7 => ⟨_, _, _, J7, r, q⟩
  have go := (hb (wTold X.K c i X.N.length ts D) (X.pn ++ pins) caught catches PassesOwn.looking).run [] s σ H D (I0.toTry _) h0
  refine wpAny_mono go (fun f s1 done => ?_) fun e s1 z => z
  match f, done with
  | .next, done =>
    obtain ⟨τ, G, J1, q⟩ := done
    exact wpAny_execs_nil ⟨τ, G, J1.ofTry hok, q⟩
  | .brk, done =>
    obtain ⟨τ, G, J1, q⟩ := done
    exact ⟨τ, G, J1.ofTry hok, q⟩
  | .cont, done =>
    obtain ⟨τ, G, J1, q⟩ := done
    exact ⟨τ, G, J1.ofTry hok, q⟩
  | .ret u, done =>
    obtain ⟨v, τ, G, J1, r, q⟩ := done
    exact ⟨v, τ, G, J1.ofTry hok, r, q⟩
end
/-- try: return e, one clause -/
def tTryRet (K : PySem.W.Frag) (c : Value) (i m : Nat) (tl : XK → TE) (ts : Addr → Value → Option Addr → TS) : TS := fun D σ H =>
  ∃ Ech : XK, (∀ cls d σ' H', Ech cls d H' → wTold K c i m ts D cls d σ' H') ∧ tl Ech σ H D.rt
section
variable {X : Cx} {x n : Str} {c : Value} {i : Nat} {e : Expr} {rest : List Stmt} {first : Stmt} {np tp hp rp : Pos} {tl : XK → TE} {ts : Addr → Value → Option Addr → TS}
theorem ps_tryRet (hst : X.stack = X.env :: X.outer) (hfr : X.env.frame = some X.env.locals) (hN : X.N.Nodup) (hi : X.N[i]? = some n) (hln : X.env.kindOf n = some .local) (hc : Names X x c)
    (he : ∀ (W : WX) (pn : List (Addr × Obj)) (xe : Value → Shared → Prop) (E : XK), Takes (X.tr pn xe) W → (∀ cls d σ' H', E cls d H' → W cls d σ' H') → PE (X.tr pn xe) e (tl E))
    (hs : ∀ (a : Addr) (oe : Obj) (cls : Value) (d : Option Addr) (pn : List (Addr × Obj)), Zc cls d oe → (∃ vs, oe.data = .fields vs) → PSs (X.suite a pn) (first :: rest) (ts a cls d)) :
    PS X (.Try [.Return (some e) rp] [.ExceptHandler (some (.Name x np)) (some n) (first :: rest) hp] [] [] tp) (tTryRet X.K c i X.N.length tl ts) := by
  refine ps_try_told (ts := ts) (tb := fun W D σ H => ∃ Ech : XK, (∀ cls d σ' H', Ech cls d H' → W cls d σ' H') ∧ tl Ech σ H D.rt) hst hfr hN hi hln hc (fun W pn xe tk _ => ?_) hs
  refine pss_one ⟨fun pins s' σ H' D I h' => ?_⟩
  obtain ⟨Ech, hW, h1⟩ := h'
  exact (ps_ret (he W pn xe Ech tk hW)).run pins s' σ H' D I h1
end
end Q
namespace Q
open PySem PySem.Spec PyProof.Rows L2
def optP (G : Hp) (o : Option (Int × Int)) (v : V) : Prop := match o with
  | none => v = .non
  | some (l, k) => ∃ p, v = .ref p ∧ G p = some (.tup [.int l, .int k])
theorem optP.same {G G' : Hp} {o : Option (Int × Int)} {v : V} (h : optP G o v) (s : Same G G') : optP G' o v := by
  cases o with
  | none => exact h
  | some q =>
    obtain ⟨p, e, hp⟩ := h
    exact ⟨p, e, s _ _ hp⟩
theorem ent_low {t b : Str} {i : Int} (ht : nmOk t = true) (hb : nmOk b = true) : Low (entText t i b) := by
  have nm : ∀ {z : Str}, nmOk z = true → Low z := fun {z} h c hc => by
    unfold nmOk at h
    simp only [Bool.and_eq_true] at h
    have a := List.all_eq_true.mp h.2.2.2 c hc
    have e : zLetters.cps.toList.all (fun c => decide (c < 128)) = true := by decide +kernel
    rcases Bool.or_eq_true_iff.mp a with a | a
    · exact of_decide_eq_true (List.all_eq_true.mp e c (of_decide_eq_true a))
    · have := (fig_iff c).mp a
      omega
  unfold entText
  exact low_app (low_app (low_app (low_app (low_app (low_app (low_of (by decide +kernel)) (low_of (by decide +kernel))) (nm ht)) (low_of (by decide +kernel))) (low_num i)) (low_of (by decide +kernel))) (nm hb)
theorem ent_len {t b : Str} {i : Int} (r : RightE t i b) : (entText t i b).length ≤ 60 := by
  have l1 := nmOk_len r.1
  have l2 := nmOk_len r.2.1
  have l3 := lenZ r.2.2.1 r.2.2.2
  unfold entText
  simp only [Str.length_append]
  have e0 : Str.empty.length = 0 := rfl
  have e1 : (Str.ofString " ").length = 1 := rfl
  have e2 : (Str.ofString "check ").length = 6 := rfl
  have e3 : (Str.ofString " by ").length = 4 := rfl
  omega
end Q
namespace Q
open PySem PySem.Spec PyProof.Rows L2
theorem iteN {c : Bool} {A B : Prop} (h : c = false) (b : B) : if c = true then A else B := by rw [h]; exact b
theorem iteY {c : Bool} {A B : Prop} (h : c = true) (a : A) : if c = true then A else B := by rw [h]; exact a
/-- what joining takes at most, and plain signs alone -/
def Wt (ws : List Str) (n : Nat) : Prop := (ws.map (·.length)).sum + ws.length ≤ n ∧ ∀ y ∈ ws, Low y
theorem wt_join {ws : List Str} {n : Nat} (h : Wt ws n) : (Txt.join zBlank ws).length ≤ n ∧ Low (Txt.join zBlank ws) := by
  refine ⟨?_, low_join (low_of (by decide +kernel)) h.2⟩
  have h1 := h.1
  have e1 : zBlank.length = 1 := by decide +kernel
  rw [TL.join_eq]
  cases ws with
  | nil =>
    have : (Str.join zBlank []).length = 0 := rfl
    omega
  | cons a l =>
    rw [len_join_cons, e1]
    simp only [List.length_cons] at h1
    omega
end Q
namespace Q
open PySem PySem.Spec PyProof.Rows L2 Builtin Builtin.Str
end Q
namespace Q
open PySem PySem.Spec PyProof.Rows L2
def okS (k : Nat) (z : Str) : Bool := match k with
  | 0 => nmOk z
  | 1 => (momW z).isSome
  | _ => decide (z = Str.ofString "sound" ∨ z = Str.ofString "unsound")
def rightsS : List Str → List Bool
  | [] => []
  | [a] => [okS 0 a]
  | [a, b] => [okS 0 a, okS 1 b]
  | a :: b :: c :: _ => [okS 0 a, okS 1 b, okS 2 c]
def sDueP (x : Str) : Option Nat := match (rightsS (Txt.split x zBlank)).findIdx? (fun b => !b) with
  | some k => some k
  | none => if (Txt.split x zBlank).length = 3 then none else some (min (Txt.split x zBlank).length 3)
/-- what is due: the text's fault, or told and the saying -/
def DueS (C : Addr) (G : Hp) (z : Str) (v : V) : Prop := (∃ k p, sDueP z = some k ∧ v = .ref p ∧ G p = some (.tup [.str "text", .int 0, .int (k : Int)])) ∨
  ∃ p a t i b, Right t i ∧ z = sayText t i b ∧ v = .ref p ∧ G p = some (.tup [.str "told", .ref a]) ∧ SayAt C G a t i b
theorem DueS.same {C : Addr} {G G' : Hp} {z : Str} {v : V} (h : DueS C G z v) (s : Same G G') : DueS C G' z v := by
  rcases h with ⟨k, p, h1, h2, h3⟩ | ⟨p, a, t, i, b, h1, h2, h3, h4, h5⟩
  · exact .inl ⟨k, p, h1, h2, s _ _ h3⟩
  · exact .inr ⟨p, a, t, i, b, h1, h2, h3, s _ _ h4, h5.same s⟩
end Q
namespace Q
open PySem PySem.Spec PyProof.Rows L2
def DicAt (K : PySem.W.Frag) (w : World) (d : Addr) (ks : List Str) : Prop := He.dicW K d = some (He.keysIn w.params ks)
abbrev AlD2 : Type := AlR × List (Option (List (Option (Str × Int))))
def SaysD2 (fa : List He.Fa) (fn : List He5.DefA) (tf : List (PySem.W.Frag → Addr)) (ex : PySem.W.Frag → Bool) (ts : List He.Tab) (w : World) (h : Heap) (K : PySem.W.Frag) : Prop := SaysR fa fn tf ex h K ∧ ∀ t ∈ ts, DicAt K w (t.1 K) t.2
end Q
namespace Q
open PySem PySem.Spec PyProof.Rows L2
end Q
namespace Q
open PySem PySem.Spec PyProof.Rows L2
def addW : List Addr → Nat → List Addr → Nat × List Addr
  | [], m, f => (m, f)
  | a :: r, m, f => match Nat.testBit m a with
    | true => addW r m f
    | false => HandSHeadRun.frNat (m ||| (1 <<< a)) fun m => addW r m (a :: f)
def levelW (g : Addr → Option Obj) : List Addr → Nat → List Addr → Nat × List Addr
  | [], m, f => (m, f)
  | a :: r, m, f => match g a with
    | some o => (match addW (He.refsD o) m f with
      | (m', f') => levelW g r m' f')
    | none => levelW g r m f
def reachW (g : Addr → Option Obj) : Nat → Nat → List Addr → List Addr → List Addr
  | 0, _, f, acc => f ++ acc
  | n + 1, m, f, acc => match levelW g f m [] with
    | (m', f') => reachW g n m' f' (f ++ acc)
def namedW (g : Addr → Option Obj) (ns : List Str) : List Addr := match g mainGlobals with
  | some ⟨_, _, .dict es _, _⟩ => es.toList.flatMap fun e => match e.key with
    | .str x _ => (match ns.any (fun y => decide (x = y)) with
      | true => He.refV e.val
      | false => [])
    | _ => []
  | _ => []
def asW (g : Addr → Option Obj) (ns : List Str) (n : Nat) : List Addr := (match addW (namedW g ns) (1 <<< mainGlobals) [] with
  | (m, f) => reachW g n m f [mainGlobals, cStatics, sysModules])
def obsW (l : List Addr) (fa : List He.Fa) (fn : List He5.DefA) (tf : List (PySem.W.Frag → Addr)) (ex : PySem.W.Frag → Bool) (g : Addr → Option Obj) : AlR := (He5.obsA fa fn (He.frT g l), ex (He.frT g l) && tabsQ g tf (He.frT g l))
theorem saysW_of {l : List Addr} {fa : List He.Fa} {fn : List He5.DefA} {tf : List (PySem.W.Frag → Addr)} {ex : PySem.W.Frag → Bool} {h : Heap} (e : obsW l fa fn tf ex h.get? = (He5.valA fn, true)) : SaysR fa fn tf ex h (He.frT h.get? l) := by
  have e1 : He5.obsA fa fn (He.frT h.get? l) = He5.valA fn := congrArg (fun z : AlR => z.1) e
  have e2 : (ex (He.frT h.get? l) && tabsQ h.get? tf (He.frT h.get? l)) = true := congrArg (fun z : AlR => z.2) e
  obtain ⟨h1, h2⟩ := He.ba e2
  have each : ∀ p ∈ tf, PySem.W.codeHdIn (He.frT h.get? l) (cTA (He.frT h.get? l) (p (He.frT h.get? l))).1 (cTA (He.frT h.get? l) (p (He.frT h.get? l))).2 = true ∧
      ∃ o, h.get? (cTA (He.frT h.get? l) (p (He.frT h.get? l))).2 = some o ∧ He.emptyTab o = true := by
    intro p hp
    obtain ⟨h3, h4⟩ := He.ba (List.all_eq_true.mp h2 p hp)
    refine ⟨h3, ?_⟩
    split at h4
    · rename_i o q
      exact ⟨o, q, h4⟩
    · cases h4
  refine ⟨e1, h1, fun p hp => (each p hp).1, fun p hp => ?_, fun p hp => ?_⟩
  · obtain ⟨_, o, q, z⟩ := each p hp
    exact He.frT_none q z
  · obtain ⟨_, o, q, z⟩ := each p hp
    rw [q, He.emptyTab_eq z]
def obsV (ns : List Str) (n : Nat) (fa : List He.Fa) (fn : List He5.DefA) (tf : List (PySem.W.Frag → Addr)) (ex : PySem.W.Frag → Bool) (ts : List He.Tab) (g : Addr → Option Obj) : AlD2 :=
  (obsW (asW g ns n) fa fn tf ex g, ts.map fun t => He.dicW (He.frT g (asW g ns n)) (t.1 (He.frT g (asW g ns n))))
def hookV (ns : List Str) (n : Nat) (fa : List He.Fa) (fn : List He5.DefA) (tf : List (PySem.W.Frag → Addr)) (ex : PySem.W.Frag → Bool) (ts : List He.Tab) : PySem.W.Hook where
  α := AlD2
  obs := fun s => obsV ns n fa fn tf ex ts s.heap.get?
  val := fun w => ((He5.valA fn, true), ts.map fun t => some (He.keysIn w.params t.2))
  says := fun w h => ∃ K : PySem.W.Frag, K.In h ∧ SaysD2 fa fn tf ex ts w h K
  of := fun w s e => by
    have e1 : obsW (asW s.heap.get? ns n) fa fn tf ex s.heap.get? = (He5.valA fn, true) := congrArg (fun z : AlD2 => z.1) e
    have e2 : (ts.map fun t => He.dicW (He.frT s.heap.get? (asW s.heap.get? ns n)) (t.1 (He.frT s.heap.get? (asW s.heap.get? ns n)))) = ts.map fun t => some (He.keysIn w.params t.2) := congrArg (fun z : AlD2 => z.2) e
    exact ⟨_, He.frT_in, saysW_of e1, fun t ht => List.map_inj_left.mp e2 t ht⟩
  keeps := fun _ _ _ ⟨K, hK, c, d⟩ k => ⟨K, PySem.W.Frag.In.keeps hK k, ⟨c.t, c.more, c.hd, c.out, fun p hp => k _ _ (c.empty p hp)⟩, d⟩
theorem obsV_eq {ns : List Str} {n : Nat} {fa : List He.Fa} {fn : List He5.DefA} {tf : List (PySem.W.Frag → Addr)} {ex : PySem.W.Frag → Bool} {ts : List He.Tab} {g : Addr → Option Obj} {s : Shared} (h : ∀ a, g a = s.heap.get? a) : obsV ns n fa fn tf ex ts g = (hookV ns n fa fn tf ex ts).obs s := by
  obtain rfl : g = s.heap.get? := funext h
  rfl
end Q
namespace Q
open PySem PySem.Spec PyProof.Rows L2 Builtin
section
variable {X : Cx} {CX : CXT} {k j : Nat} {C : Addr} {sp : Sp} {E : XK}
def rLenO (C : Addr) (sp : Sp) (E : XK) : List V → Hp → VK → Prop := fun xs H Q => ∃ a dx fs, xs = [.ref a] ∧ H a = some (.ins C dx fs) ∧ sp [.ref a] H (fun v H' => ∃ n : Int, v = .int n ∧ 0 ≤ n ∧ n < 2 ^ 63 ∧ Q (.int n) H') E
theorem q_lenO (D : SpD X.prog X.w X.K X.mg X.base CX k C "__len__" sp) (hr : Room j X.A) (hx : Passes CX X E) (hj : k + 1 ≤ j := by decide) : CallR X (.builtin "len") (rLenO C sp E) := by
  intro pins s σ H xs us Q I r h
  obtain ⟨a, dx, fs, rfl, ea, q⟩ := h
  obtain ⟨u, rfl, ru⟩ := r.one
  cases (show u = Value.ref a from ru)
  obtain ⟨f, fd, ps, hs, hf, hbd, F⟩ := D.ex
  obtain ⟨mA, O, _, _, _, _⟩ := ins_get I.hok ea
  obtain ⟨od, J, _⟩ := O.look
  have hr2 : Room k X.A.in1 := Room.in1 (hr.mono hj)
  refine Calls.call_function_entry PySem.kind_len PySem.plain_len PySem.entry_len (PySem.args_len1 _) ?_
  unfold Builtin.«len»
  refine wpAny_bind (m := oneArg "len" _) (wpAny_pure ?_)
  refine wpAny_bind (m := callSpecial? (.ref a) (Str.ofString "__len__")) (PySem.W.special_fn I.kIn J hs (beq_iff_eq.mp hf) (wpAny_mono (run_under (us := [.ref a]) (vs := [.ref a]) F hr2 I.env0.in1 hbd hx I (.cons rfl .nil) q) (fun r s' z => ?_) fun _ _ y => y))
  obtain ⟨z', H', I', rz, n, e, h0, h1, qz⟩ := z
  subst e
  obtain ⟨t, e⟩ := (show ∃ t, r = Value.int n t from rz)
  subst e
  refine wpAny_bind (wpAny_holding (wpAny_pure ?_))
  refine wpAny_bind (wpAny_letGo ?_)
  show wpAny _ _ (if n < 0 then _ else _) _ _ _
  rw [if_neg (by omega)]
  show wpAny _ _ (if n ≥ 2 ^ 63 then _ else _) _ _ _
  rw [if_neg (by omega)]
  exact wpAny_bind (wpAny_mkInt (wpAny_pure ⟨_, rfl, .int n, H', I'.tok _, ⟨_, rfl⟩, qz⟩))
theorem r_lenO {H : Hp} {a dx : Addr} {fs : List (Str × V)} {Qv : VK} (h : H a = some (.ins C dx fs)) (q : sp [.ref a] H (fun v H' => ∃ n : Int, v = .int n ∧ 0 ≤ n ∧ n < 2 ^ 63 ∧ Qv (.int n) H') E) : rLenO C sp E [.ref a] H Qv := ⟨a, dx, fs, rfl, h, q⟩
end
end Q
namespace Q
open PySem PySem.Spec PyProof.Rows L2
end Q
namespace Q
open PySem PySem.Spec PyProof.Rows L2
theorem LvAt.names {G : Hp} {kvs : List (Key × V)} {bt : List (Str × List Int)} (h : LvAt G kvs bt) : kvs.map (fun kv => kV kv.1) = (bt.map (·.1)).map V.str := h.keys
end Q
namespace Q
open PySem PySem.Spec PyProof.Rows L2
section
variable {C : Addr} {f g : Str} {v u : V} {e : En} {G H : Hp} {M : List Addr} {Q : VK}
def ErrAt (G : Hp) (C a : Addr) (fs : List (Str × V)) : Prop := ∃ d, G a = some (ExK (.ref C) (some d) a) ∧ G d = some (.xd fs)
theorem ErrAt.same {G' : Hp} {a : Addr} {fs : List (Str × V)} (h : ErrAt G C a fs) (s : Same G G') : ErrAt G' C a fs := by
  obtain ⟨d, h1, h2⟩ := h
  exact ⟨d, s _ _ h1, s _ _ h2⟩
end
end Q
namespace Q
open PySem PySem.Spec PyProof.Rows L2 PySem.HandSPX
end Q
namespace Q
open PySem PySem.Spec PyProof.Rows L2
end Q
namespace Q
open PySem PySem.Spec PyProof.Rows L2 PySem.HandSPX
/-- what is kept: the fields, or no dict yet -/
def KeptAt (G : Hp) (C a : Addr) (fs : List (Str × V)) : Prop := (fs = [] ∧ G a = some (ExK (.ref C) none a)) ∨ ErrAt G C a fs
theorem KeptAt.same {G G' : Hp} {C a : Addr} {fs : List (Str × V)} (h : KeptAt G C a fs) (s : Same G G') : KeptAt G' C a fs := by
  rcases h with ⟨h1, h2⟩ | h
  · exact .inl ⟨h1, s _ _ h2⟩
  · exact .inr (h.same s)
end Q
namespace Q
open PySem PySem.Spec PyProof.Rows L2
def errNames : List Str := ["BadName", "BadMoment", "BadSaying", "BadPoint", "BadRow", "BadTurn", "BadTurns", "NoTool", "NoRow", "NoDeed", "NoRecord", "NoLot", "NoLife", "NoEvidence", "TooMany", "Later", "Clash", "Unlike", "Contradicted", "BadChain", "BadEntry", "BadText", "NoLine"]
def errKeeps (i : Nat) (a b : V) : List (Str × V) := match i with
  | 0 => [("name", a)] | 1 => [("moment", a)] | 2 => [("value", a)] | 3 => [("value", a)] | 4 => [("at", a)] | 5 => [("at", a)] | 6 => [("at", a)] | 7 => [("tool", a)] | 8 => [("number", a)] | 9 => [("number", a)]
  | 10 => [("name", a)] | 11 => [("name", a)] | 12 => [("value", a)] | 13 => [("word", a)] | 14 => [("most", b), ("what", a)] | 15 => [("moment", a)] | 16 => [("name", a)] | 17 => [("tool", a)] | 18 => [("number", a)] | 19 => [("at", a)] | 20 => [("at", a)]
  | 21 => [("word", b), ("line", a)] | _ => []
def clsAt (K : PySem.W.Frag) (i : Nat) : Addr := He.ga K (errNames.getD i "NoLine")
def AllErrs (K : PySem.W.Frag) (G : Hp) (es : List Addr) (a b : V) : Prop := es.length = 23 ∧ ∀ i e, es[i]? = some e → KeptAt G (clsAt K i) e (errKeeps i a b)
theorem AllErrs.same {K : PySem.W.Frag} {G G' : Hp} {es : List Addr} {a b : V} (h : AllErrs K G es a b) (s : Same G G') : AllErrs K G' es a b := ⟨h.1, fun i e he => (h.2 i e he).same s⟩
end Q
namespace Q
open PySem PySem.Spec PyProof.Rows L2
end Q
namespace Q
open PySem PySem.Spec PyProof.Rows L2
end Q
namespace Q
open PySem PySem.Spec PyProof.Rows L2
end Q
namespace Q
open PySem PySem.Spec PyProof.Rows L2
section
variable {G : Hp} {kvs : List (Key × V)} {bt : List (Str × List Int)} {s : Str} {ns : List Int}
theorem LsAt.any (h : LsAt G kvs bt) (s : Str) : (kvs.any fun kv => decide (kv.1 = (.inr s : Key))) = bt.any fun r => decide (r.1 = s) := by
  induction h with
  | nil => rfl
  | @cons t a ns kvs bt _ _ ih =>
    rw [List.any_cons, List.any_cons, ih]
    have e : decide ((Sum.inr t : Key) = .inr s) = decide (t = s) := decide_eq_decide.mpr ⟨fun z => Sum.inr.inj z, fun z => by rw [z]⟩
    rw [e]
end
structure BgnOk (bt : List (Str × List Int)) : Prop where
  nm : ∀ q ∈ bt, nmOk q.1 = true
  ks : ∀ q ∈ bt, q.2.length ≤ 6 ∧ ∀ k ∈ q.2, 1 ≤ k ∧ k ≤ 1000000000000000000000000000000
  nd : (bt.map (·.1)).Nodup
  few : bt.length ≤ 12
structure BgnAt (G : Hp) (d : Addr) (bt : List (Str × List Int)) : Prop where
  ex : ∃ od kvs, G d = some (.frz od (.dK kvs)) ∧ LsAt G kvs bt
  ok : BgnOk bt
theorem BgnAt.same {G G' : Hp} {d : Addr} {bt : List (Str × List Int)} (h : BgnAt G d bt) (s : Same G G') : BgnAt G' d bt := by
  obtain ⟨od, kvs, h1, h2⟩ := h.ex
  exact ⟨⟨od, kvs, s _ _ h1, h2.same s⟩, h.ok⟩
/-- the lives that begin so -/
def LvOf (bt bL : List (Str × List Int)) : Prop := (bL.map (·.1)).Perm (bt.map (·.1)) ∧ (bL.map (·.1)).Pairwise leS ∧ ∀ q ∈ bL, Begs (((nsOf bt q.1).getD []).map V.int) q.2
section
variable {X : Cx}
def eqO (dat : Addr → PyData) (d : PyData) : Value → Bool
  | .ref a => PyData.eqv (dat a) d
  | _ => false
end
end Q
namespace Q
open PySem PySem.Spec PyProof.Rows L2 PySem.SeqAt PySem.MeetsSeq
section
variable {A : Around} {s : Shared}
theorem str_declines_any (b : Str) (u : Tok) (l : Addr) (o : Obj) (hn : ∀ v, o.data ≠ .prim v) : Meets (Builtin.«str.__eq__» ⟨[.str b u, .ref l], []⟩) (fun _ R s => s.heap.get? l = some o ∧ R (.ok (.ret .notImplemented)) s) :=
  .of_wp fun prog w A R s h => by
    obtain ⟨hp, g, d, tk, os⟩ := s
    obtain ⟨hl, h⟩ := h
    obtain ⟨oc, od, odt, osl⟩ := o
    cases odt <;> first
      | exact absurd rfl (hn _)
      | (wp_walk using wpAny_loadPart' hl, wpAny_load hl; exact ⟨_, rfl, h⟩)
theorem rc_str_dict {l : Addr} (b : Str) (u : Tok) {o : Obj} (ho : s.heap.get? l = some o) (hn : ∀ v, o.data ≠ .prim v) (ht : s.TypeIs (.ref l) "dict") (hu : A.units < cLine) : RcAt A s (.str b u) (.ref l) false := fun prog w E Q h => by
  exact rc_eq_decline_or (k := false) (typeIs_str s b u) ht (by decide) F.sub_dict_str F.slot_str_eq F.slot_dict_eq_refl
    (fun _ hq => call_meets F.slot_str_eq (typeIs_str s b u) F.entry_str_eq (F.args_str_eq_2 _ _) (str_declines_any b u l o hn) ⟨ho, hq⟩)
    (fun _ hq => by
      refine wpAny_call_entry F.slot_dict_eq_refl ht F.entry_dict_eq ?_ (F.args_dict_eq_2 _ _)
      show wpAny _ _ (Builtin.Dict.dictSlotArgs "__eq__" ⟨[.ref l, .str b u], []⟩ >>= _) _ _ s
      refine wpAny_bind ?_
      unfold Builtin.Dict.dictSlotArgs
      refine wpAny_bind (wpAny_notOrdered_dict ht ?_)
      show wpAny _ _ (pure (Value.ref l, Value.str b u)) _ _ s
      refine wpAny_pure ?_
      refine wpAny_bind (wpAny_isInstance (T := "str") (typeIs_str s b u) F.sub_str_dict ?_)
      simp only [Bool.not_false, if_true]
      wp_walk
      exact ⟨_, rfl, hq⟩)
    (fun _ hq => wpAny_of_eq (rfl : isSame (.str b u) (.ref l) = pure false) hq) (.inr hu) h
theorem eq_str_dict {l : Addr} (b : Str) (u : Tok) {o : Obj} (ho : s.heap.get? l = some o) (hn : ∀ v, o.data ≠ .prim v) (ht : s.TypeIs (.ref l) "dict") (hu : A.units < cLine) : EqAt A s (.str b u) (.ref l) false := fun prog w E Q h => by
  unfold eqBool
  refine wpAny_holding ?_
  refine wpAny_ite_split (fun hab => absurd (eq_of_beq hab) nofun) (fun _ => ?_)
  exact wpAny_bind (rc_str_dict b u ho hn ht hu prog w E _ (wpAny_truthy_bool h))
end
end Q
namespace Q
open PySem PySem.Spec PyProof.Rows L2
def eqZ (x : V) : Value → Bool
  | .str b _ => (match x with
    | .str c => b == c
    | _ => false)
  | _ => false
theorem any_eqZ {x : V} : ∀ {ts : List Str} {its : List Value}, Vals (ts.map V.str) its → its.any (eqZ x) = decide (x ∈ ts.map V.str)
  | [], _, h => by cases h; rfl
  | t :: ts, _, h => by
    cases h with
    | @cons _ u _ us h1 h2 =>
      obtain ⟨k, rfl⟩ := (show ∃ k, u = Value.str t k from h1)
      rw [List.any_cons, any_eqZ h2]
      cases x with
      | str c =>
        show (t == c || _) = _
        by_cases e : t = c
        · rw [e, beq_self_eq_true, Bool.true_or, decide_eq_true (by simp)]
        · rw [beq_eq_false_iff_ne.mpr e, Bool.false_or]
          refine decide_eq_decide.mpr ⟨fun m => List.mem_cons_of_mem _ m, fun m => ?_⟩
          rcases List.mem_cons.mp m with m | m
          · injection m with m
            exact absurd m.symm e
          · exact m
      | _ =>
        show (false || _) = _
        rw [Bool.false_or]
        refine decide_eq_decide.mpr ⟨fun m => List.mem_cons_of_mem _ m, fun m => ?_⟩
        rcases List.mem_cons.mp m with m | m
        · cases m
        · exact m
def LivesIn (C : Addr) (G : Hp) (a D : Addr) (bt : List (Str × List Int)) : Prop := ∃ dx od kvs, G a = some (.ins C dx [("by_tool", .ref D)]) ∧ G D = some (.frz od (.dK kvs)) ∧ LvAt G kvs bt
theorem LivesIn.at_ {C a D : Addr} {G : Hp} {bt : List (Str × List Int)} (h : LivesIn C G a D bt) : LivesAt C G a bt := by
  obtain ⟨dx, od, kvs, h1, h2, h3⟩ := h
  exact ⟨dx, D, od, kvs, h1, h2, h3⟩
theorem LivesIn.same {C a D : Addr} {G G' : Hp} {bt : List (Str × List Int)} (h : LivesIn C G a D bt) (s : Same G G') : LivesIn C G' a D bt := by
  obtain ⟨dx, od, kvs, h1, h2, h3⟩ := h
  exact ⟨dx, od, kvs, s _ _ h1, s _ _ h2, h3.same s⟩
end Q
namespace Q
open PySem PySem.Spec PyProof.Rows L2
end Q
namespace Q
open PySem PySem.Spec PyProof.Rows L2
end Q
namespace Q
open PySem PySem.Spec PyProof.Rows L2
def NoLf (K : PySem.W.Frag) (G : Hp) (bL : List (Str × List Int)) (v : V) : Prop := ∃ q, TuV K G v q ∧ isLife bL q = false
section
variable {K : PySem.W.Frag} {G G' H : Hp} {bL : List (Str × List Int)} {v x y z : V} {ps : List Addr} {ls : List (Str × Int)} {p q : Addr} {ys : List V} {t : Str} {b : Int}
theorem TuV.same {o : Option (List V)} (h : TuV K G v o) (s : Same G G') : TuV K G' v o := by
  cases o with
  | none => obtain ⟨t, h1, h2⟩ := h; exact ⟨t, same_ty s h1, h2⟩
  | some ys => obtain ⟨p, h1, h2, h3⟩ := h; exact ⟨p, h1, s _ _ h2, fun y hy => (h3 y hy).elim fun t k => ⟨t, k.same s⟩⟩
theorem NoLf.same (h : NoLf K G bL v) (s : Same G G') : NoLf K G' bL v := h.elim fun q ⟨h1, h2⟩ => ⟨q, h1.same s, h2⟩
theorem LifeAt.mem (h : LifeAt G ps ls) (hq : q ∈ ps) : ∃ l ∈ ls, G q = some (.tup [.str l.1, .int l.2]) := by
  induction h with
  | nil => cases hq
  | @cons a l as bs h1 _ ih =>
    rcases List.mem_cons.mp hq with rfl | hq
    · exact ⟨l, List.mem_cons_self, h1⟩
    · obtain ⟨l', m, e⟩ := ih hq
      exact ⟨l', List.mem_cons_of_mem _ m, e⟩
end
end Q
namespace Q
open PySem PySem.Spec PyProof.Rows L2
end Q
namespace Q
open PySem PySem.Spec PyProof.Rows L2
structure RwOk (rows : List (Str × List V)) : Prop where
  all : ∀ r ∈ rows, nmOk r.1 = true ∧ r.2.length ≤ 60 ∧ ∀ v ∈ r.2, ∃ k : Int, v = .int k ∧ 1 ≤ k ∧ k ≤ 1000000000000000000000000000000
  nd : (rows.map (·.1)).Nodup
section
variable {K : PySem.W.Frag} {G G' : Hp} {rows : List (Str × List V)} {bt bL bL' : List (Str × List Int)} {ts : List Str} {t : Str} {xs : List V} {Cn Cm : Addr}
theorem LvOf.len (h : LvOf bt bL) : bL.length = bt.length := by
  have := h.1.length_eq
  rwa [List.length_map, List.length_map] at this
def rowsB (bt : List (Str × List Int)) : List (Str × List V) := bt.map fun q => (q.1, q.2.map V.int)
inductive HdAt (Fr : Addr → Prop) (G : Hp) : List (Key × V) → List (Str × List Int) → Prop
  | nil : HdAt Fr G [] []
  | tup {s : Str} {a : Addr} {ns : List Int} {kvs : List (Key × V)} {bt : List (Str × List Int)} (h : G a = some (.tup (ns.map V.int))) (r : HdAt Fr G kvs bt) : HdAt Fr G ((.inr s, .ref a) :: kvs) ((s, ns) :: bt)
  | lst {s : Str} {a : Addr} {ns : List Int} {kvs : List (Key × V)} {bt : List (Str × List Int)} (h : G a = some (.lst (ns.map V.int))) (f : Fr a) (r : HdAt Fr G kvs bt) : HdAt Fr G ((.inr s, .ref a) :: kvs) ((s, ns) :: bt)
variable {Fr : Addr → Prop} {kvs : List (Key × V)}
theorem HdAt.same (h : HdAt Fr G kvs bt) (s : Same G G') : HdAt Fr G' kvs bt := by
  induction h with
  | nil => exact .nil
  | tup h _ ih => exact .tup (s _ _ h) ih
  | lst h f _ ih => exact .lst (s _ _ h) f ih
theorem HdAt.beg (h : HdAt Fr G kvs bt) : BegAt K G kvs (rowsB bt) := by
  induction h with
  | nil => exact .nil
  | tup h _ ih => exact .cons (.inr (SqT.of h)) ih
  | lst h f _ ih => exact .cons (.inl (SqL.of h)) ih
theorem HdAt.keys (h : HdAt Fr G kvs bt) : kvs.map (·.1) = (bt.map (·.1)).map Sum.inr := by
  induction h with
  | nil => rfl
  | tup h _ ih => rw [List.map_cons, List.map_cons, List.map_cons, ih]
  | lst h f _ ih => rw [List.map_cons, List.map_cons, List.map_cons, ih]
theorem HdAt.out (h : HdAt Fr G kvs bt) {s : Str} (n : s ∉ bt.map (·.1)) : valV kvs (.inr s) = none := by
  have go : ∀ (t : Str) (a : Addr) (ns : List Int) (kvs : List (Key × V)) (bt : List (Str × List Int)), (s ∉ bt.map (·.1) → valV kvs (.inr s) = none) → s ∉ ((t, ns) :: bt).map (·.1) → valV ((.inr t, .ref a) :: kvs) (.inr s) = none := fun t a ns kvs bt ih n => by
    have e : ¬ (Sum.inr t : Key) = .inr s := fun z => n (by rw [Sum.inr.inj z]; simp)
    rw [valV_neg (p := ((Sum.inr t : Key), V.ref a)) e]
    exact ih fun m => n (by simp at m ⊢; exact .inr m)
  induction h with
  | nil => rfl
  | tup h _ ih => exact go _ _ _ _ _ ih n
  | lst h f _ ih => exact go _ _ _ _ _ ih n
/-- the same while the lists grow -/
def HdM (Fr : Addr → Prop) (n : Nat) (G : Hp) (kvs : List (Key × V)) : Prop := ∀ kv ∈ kvs, ∃ s a, kv = (.inr s, .ref a) ∧ ((∃ xs, G a = some (.tup xs)) ∨ ∃ xs, G a = some (.lst xs) ∧ xs.length ≤ n ∧ Fr a)
theorem HdM.same {n : Nat} (h : HdM Fr n G kvs) (s : Same G G') : HdM Fr n G' kvs := fun kv hk => by
  obtain ⟨z, a, e, h⟩ := h kv hk
  refine ⟨z, a, e, ?_⟩
  rcases h with ⟨xs, h⟩ | ⟨xs, h, l, f⟩
  · exact .inl ⟨xs, s _ _ h⟩
  · exact .inr ⟨xs, s _ _ h, l, f⟩
theorem HdM.more {n m : Nat} (h : HdM Fr n G kvs) (l : n ≤ m) : HdM Fr m G kvs := fun kv hk => by
  obtain ⟨z, a, e, h⟩ := h kv hk
  refine ⟨z, a, e, ?_⟩
  rcases h with h | ⟨xs, h, l2, f⟩
  · exact .inl h
  · exact .inr ⟨xs, h, Nat.le_trans l2 l, f⟩
end
structure LvE (K : PySem.W.Frag) (C : Addr) : Prop where
  d : PySem.W.findIn K (.ref C) "__class__" = some (some (.builtin "object.__class__"))
  n : PySem.W.specialIn K (.builtin "object.__class__") "__get__" = some (some (.builtin "getset_descriptor.__get__"))
  tk : PySem.W.takesIn K (.builtin "object.__class__") = some true
  m : PySem.W.mroIn K C (.type "object") = some true
  me : PySem.W.kitOne K (.ref C) (.ref C) = some true
  tu : PySem.W.kitOne K (.type "tuple") (.ref C) = some false
  di : PySem.W.kitOne K (.type "dict") (.ref C) = some false
  f1 : PySem.W.notFirst K C (.ref C) = true
  f2 : PySem.W.notFirst K C (.type "tuple") = true
  f3 : PySem.W.notFirst K C (.type "dict") = true
theorem LvE.ty {K : PySem.W.Frag} {C : Addr} (h : LvE K C) (S : LvC K C) (G : Hp) (c : Addr) (bt : List (Str × List Int)) (hl : LivesAt C G c bt) : TyX K G (.ref c) (.ref C) := by
  obtain ⟨dx, D, od, kvs, h1, _⟩ := hl
  exact .base (.ins h1 S.c h.d h.n h.tk h.m)
end Q
namespace Q
open PySem PySem.Spec PyProof.Rows L2
theorem DrAt.nd (K : PySem.W.Frag) {G : Hp} {ps : List Addr} {kvs : List (Key × V)} {rows : List (Str × List V)} (h : DrAt G ps kvs rows) (nd : (rows.map (·.1)).Nodup) : (kvs.map (·.1)).Nodup ∧ kvs.length = rows.length := by
  have b : BegAt K G kvs rows := h.beg
  exact ⟨by rw [b.keysR]; exact nodup_inr nd, b.len⟩
end Q
namespace Q
open PySem PySem.Spec PyProof.Rows L2
theorem BegAt.snoc {K : PySem.W.Frag} {G : Hp} {kvs : List (Key × V)} {rows : List (Str × List V)} {s : Str} {a : Addr} {xs : List V} (r : BegAt K G kvs rows) (h : SqA K G a xs) : BegAt K G (kvs ++ [(.inr s, .ref a)]) (rows ++ [(s, xs)]) := by
  induction r with
  | nil => exact .cons h .nil
  | cons h2 _ ih => exact .cons h2 ih
/-- each with one more -/
def MoreAt : List (Str × List V) → List (Str × List Int) → Prop := Paired fun r q => r.1 = q.1 ∧ ∃ k : Int, r.2 = (q.2 ++ [k]).map V.int ∧ 1 ≤ k ∧ k < 99 ∧ k ∉ q.2
section
variable {rows : List (Str × List V)} {bt bL bL' : List (Str × List Int)} {ts : List Str}
theorem MoreAt.fst (h : MoreAt rows bt) : rows.map (·.1) = bt.map (·.1) := by
  induction h with
  | nil => rfl
  | cons h _ ih => rw [List.map_cons, List.map_cons, ih, h.1]
theorem MoreAt.mem (h : MoreAt rows bt) : ∀ r ∈ rows, ∃ q ∈ bt, r.1 = q.1 ∧ ∃ k : Int, r.2 = (q.2 ++ [k]).map V.int ∧ 1 ≤ k ∧ k < 99 ∧ k ∉ q.2 := by
  induction h with
  | nil => exact fun r h => by cases h
  | @cons r q _ _ h _ ih =>
    intro r' hr
    rcases List.mem_cons.mp hr with rfl | hr
    · exact ⟨q, List.mem_cons_self, h⟩
    · obtain ⟨q', h1, h2⟩ := ih r' hr
      exact ⟨q', List.mem_cons_of_mem _ h1, h2⟩
theorem MoreAt.rw (h : MoreAt rows bt) (ok : BgnOk bt) : RwOk rows := by
  refine ⟨fun r hr => ?_, by rw [h.fst]; exact ok.nd⟩
  obtain ⟨q, hq, e1, k, e2, k1, k2, k3⟩ := h.mem r hr
  obtain ⟨l1, l2⟩ := ok.ks q hq
  refine ⟨by rw [e1]; exact ok.nm q hq, by rw [e2, List.length_map, List.length_append]; simp; omega, fun v hv => ?_⟩
  rw [e2] at hv
  obtain ⟨j, hj, rfl⟩ := List.mem_map.mp hv
  refine ⟨j, rfl, ?_⟩
  rcases List.mem_append.mp hj with hj | hj
  · exact l2 j hj
  · rw [List.mem_singleton.mp hj]; omega
end
end Q
namespace Q
open PySem PySem.Spec PyProof.Rows L2
end Q
namespace Q
open PySem PySem.Spec PyProof.Rows L2
end Q
namespace Q
open PySem PySem.Spec PyProof.Rows L2
end Q
namespace Q
open PySem PySem.Spec PyProof.Rows L2
inductive Sg
  | n | m (l : Int) | t
def sgOk : Sg → V → Bool
  | .n, v => nameV v
  | .m l, v => momV v l
  | .t, v => isB v
def wordV : Sg → V → V
  | .m _, .int i => .str (toString i)
  | .t, .bl b => .str (if b = true then "sound" else "unsound")
  | _, v => v
def rowWords (kind : Str) (sg : List Sg) (vs : List V) : List V := List.zipWith wordV sg vs
def rowNamed : List Sg → List V → List V
  | .n :: ss, v :: vs => v :: rowNamed ss vs
  | _ :: ss, _ :: vs => rowNamed ss vs
  | _, _ => []
def rowTold : List Sg → List V → List V
  | .m _ :: ss, v :: vs => v :: rowTold ss vs
  | _ :: ss, _ :: vs => rowTold ss vs
  | _, _ => []
def rowFs (kind : Str) (aw an am : Addr) (fl : List Str) (vs : List V) : List (Str × V) := ([("kind", .str kind), ("words", .ref aw), ("named", .ref an), ("told_at", .ref am)] : List (Str × V)) ++ fl.zip vs
structure RwC (K : PySem.W.Frag) (C : Addr) (fl : List Str) : Prop where
  c : Cls K C
  k : NoAttr K C "kind"
  w : NoAttr K C "words"
  n : NoAttr K C "named"
  t : NoAttr K C "told_at"
  own : ∀ f ∈ fl, NoAttr K C f
def RowAt (C : Addr) (G : Hp) (a : Addr) (kind : Str) (sg : List Sg) (fl : List Str) (vs : List V) : Prop := ∃ dx aw an am, G a = some (.ins C dx (rowFs kind aw an am fl vs)) ∧ G aw = some (.tup (rowWords kind sg vs)) ∧ G an = some (.tup (rowNamed sg vs)) ∧ G am = some (.tup (rowTold sg vs))
theorem RowAt.same {C a : Addr} {G G' : Hp} {kind : Str} {sg : List Sg} {fl : List Str} {vs : List V} (h : RowAt C G a kind sg fl vs) (s : Same G G') : RowAt C G' a kind sg fl vs := by
  obtain ⟨dx, aw, an, am, h1, h2, h3, h4⟩ := h
  exact ⟨dx, aw, an, am, s _ _ h1, s _ _ h2, s _ _ h3, s _ _ h4⟩
end Q
namespace Q
open PySem PySem.Spec PyProof.Rows L2
def kindsS : List Str := ["begun", "setby", "found", "trusted", "passed", "failed", "agreed", "differed", "served", "backed"]
def kindN (i : Nat) : Str := kindsS.getD i ""
def sgsT : List (List Sg) := [[.n, .m 1], [.n, .m 1, .n], [.n, .m 0, .t], [.n], [.n, .m 0, .n], [.n, .m 0, .n], [.n, .m 0, .n, .m 0], [.n, .m 0, .n, .m 0], [.n, .m 0, .n, .m 0], [.n, .m 0, .n, .m 0]]
def sgN (i : Nat) : List Sg := sgsT.getD i []
def flsT : List (List Str) := [["tool", "moment"], ["tool", "moment", "by"], ["tool", "moment", "is_sound"], ["tool"], ["tool", "moment", "by"], ["tool", "moment", "by"], ["one", "moment", "other", "later"], ["one", "moment", "other", "later"], ["one", "moment", "other", "later"], ["one", "moment", "other", "later"]]
def flN (i : Nat) : List Str := flsT.getD i []
def SgAll (sg : List Sg) (as : List V) : Prop := as.length = sg.length ∧ ∀ p ∈ sg.zip as, sgOk p.1 p.2 = true
def sgWord : Sg → Str
  | .n => "name"
  | .m _ => "moment"
  | .t => "saying"
/-- what is due of a bent row -/
def DueB (G : Hp) (o : Option (Sg × V)) (u : V) : Prop := match o with
  | none => u = .non
  | some (s, v) => ∃ l, u = .ref l ∧ G l = some (.tup [.str (sgWord s), v])
theorem DueB.same {G G' : Hp} {o : Option (Sg × V)} {u : V} (h : DueB G o u) (s : Same G G') : DueB G' o u := by
  cases o with
  | none => exact h
  | some p =>
    obtain ⟨l, e, h⟩ := h
    exact ⟨l, e, s _ _ h⟩
section
variable {K : PySem.W.Frag} {e : En} {G H : Hp} {M : List Addr} {p c : Addr} {n i : Nat} {Q : VK} {E : XK}
theorem r_ixA {a : Addr} {xs : List V} {k : Int} {v : V} (h : SqA K H a xs) (e : atI xs k = some v) (q : Q v H) : rIx K (.ref a) (.int k) H Q := h.elim (fun h => r_ixL h e q) (fun h => r_ixT h e q)
theorem pe_fldK {X : Cx} {K : PySem.W.Frag} {e : Expr} {ta : TE} {f : Str} {pos : Pos} (hK : X.K = K) (he : PE X e ta) (hb : attributeBase e f X.env (eval e X.env) = eval e X.env) : PE X (.Attribute e f pos) (tFld K ta f) := by
  subst hK
  exact pe_fld he hb
end
end Q
namespace Q
open PySem PySem.Spec PyProof.Rows L2
abbrev FnW3 : Type := Option (Str × Str × Arguments × FuncBody × Scope × Addr × List Str × Addr)
structure DefS where
  at_ : PySem.W.Frag → Addr
  own : PySem.W.Frag → Addr
  name : Str
  qual : Str
  st : Stmt
def DefS.val (d : DefS) : FnW3 := some (d.name, d.qual, defArgs d.st, FuncBody.stmts (defBody d.st), defScope d.st, mainGlobals, [("__class__" : Str)], builtinsNs)
def cellB (K : PySem.W.Frag) (cc D : Addr) : Bool := match K.lookup cc with
  | some ⟨_, _, .cell (some (.ref a)), _⟩ => decide (a = D)
  | _ => false
def cloB (K : PySem.W.Frag) (cl : List (Str × Addr)) (D : Addr) : Bool := match cl with
  | [(_, cc)] => cellB K cc D
  | _ => false
def fileB (K : PySem.W.Frag) (file : Str) (cd : Value) : Bool := match cd with
  | .ref c => (match K.lookup c with
    | some ⟨_, _, .fields vs, _⟩ => (match (vs[2]? : Option Value) with
      | some (.str z _) => file == z
      | _ => false)
    | _ => false)
  | _ => false
def noneB : Value → Bool
  | .none => true
  | _ => false
def DefS.ok (file : Str) (K : PySem.W.Frag) (d : DefS) : Bool := PySem.W.keepIn K (.ref (d.at_ K)) && ((match K.lookup (d.at_ K) with
  | some ⟨_, _, .func fd, _⟩ => PySem.W.codeIn K fd.code d.qual && (fileB K file fd.code && (noneB fd.defaults && cloB K fd.closure (d.own K)))
  | _ => false) && (PySem.W.isClsIn K (d.own K) && (match PySem.W.nsIn K cStatics "thirdparty.any" with
    | some none => true
    | _ => false)))
end Q
namespace Q
open PySem PySem.Spec PyProof.Rows L2
end Q
namespace Q
open PySem PySem.Spec PyProof.Rows L2
def truthW (b : Bool) : Str := if b = true then "sound" else "unsound"
def wordS : Sg → V → Str
  | .n, .str z => z
  | .m _, .int i => toString i
  | .t, .bl b => truthW b
  | _, _ => ""
def rowTxts (i : Nat) (as : List V) : List Str := kindN i :: List.zipWith wordS (sgN i) as
def RowOf (K : PySem.W.Frag) (CL : Nat → Addr) (G : Hp) (a : Addr) (i : Nat) (as : List V) : Prop := i < 10 ∧ SgAll (sgN i) as ∧ RowAt (CL i) G a (kindN i) (sgN i) (flN i) as
theorem RowOf.same {K : PySem.W.Frag} {CL : Nat → Addr} {G G' : Hp} {a : Addr} {i : Nat} {as : List V} (h : RowOf K CL G a i as) (s : Same G G') : RowOf K CL G' a i as := ⟨h.1, h.2.1, h.2.2.same s⟩
theorem kind_len : ∀ i, i < 10 → (kindN i).length ≤ 10 ∧ (sgN i).length ≤ 4 := by decide +kernel
end Q
namespace Q
open PySem PySem.Spec PyProof.Rows L2
def RetTs (p c : Addr) (n : Nat) (T : List (Addr × Str)) (G H : Hp) (P : V → Hp → Prop) (Q : VK) : Prop := ∀ v H' G', (∀ b o, b ≠ p → H b = some o → NoT o → H' b = some o) → PenAt p c n H' → LamX.Tabs T H' → Gh G' H' → Same G G' →
  (∀ a o, a ≠ p → H a = some o → NoT o → G' a = G a) → G' p = none → P v G' → Q v H'
def CovT (en : En) : Prop := (∀ a, en.H0 a ≠ none → (∃ q, (a, q) ∈ en.T) ∨ (a ∉ en.P0 ∧ ∀ o, en.H0 a = some o → NoT o)) ∧ ∀ r ∈ en.T, r.1 ∈ en.P0
section
variable {K : PySem.W.Frag} {G H G' H' : Hp} {p c : Addr} {n : Nat} {T : List (Addr × Str)} {M : List Addr} {P : V → Hp → Prop} {Q : VK} {v : V} {e : En}
theorem helpers_start (s : Gh G H) (gp : G p = none) (hp : PenAt p c n H) (t : LamX.Tabs T H) : ∃ en : En, en = ⟨keepH p H, G, T.map (·.1), T⟩ ∧ Wd en G H [p] ∧ CovT en := by
  obtain ⟨a0, g0, h1, _⟩ := id hp
  have hkp : keepH p H p = none := by
    unfold keepH
    rw [if_pos (.inl rfl)]
  refine ⟨_, rfl, ⟨s.1, fun a ha => ?_, by simp, fun a h => ?_, Same.refl _, fun _ _ => rfl, fun a o _ h => ?_, s.2, fun a ha o h => ?_, t⟩, fun a h => ?_, fun r hr => List.mem_map_of_mem hr⟩
  · rw [List.mem_singleton.mp ha]
    exact ⟨gp, ⟨_, h1⟩, .inl hkp⟩
  · rw [← (keepH_to h).2.1]
    exact h
  · have h' : keepH p H a = some o := h
    rw [← (keepH_to (some_ne h')).2.1]
    exact h'
  · rw [List.mem_singleton.mp ha, h1] at h
    rw [← Option.some.inj h]
    rfl
  · obtain ⟨n1, n2, n3⟩ := keepH_to h
    refine .inr ⟨fun m => ?_, fun o ho => n3 o (by rw [← n2]; exact ho)⟩
    obtain ⟨r, hr, er⟩ := List.mem_map.mp m
    obtain ⟨ps, e, _⟩ := t r hr
    rw [er] at e
    exact n3 _ e ps rfl
theorem retTs_of (k : RetTs p c n T G H P Q) (w : Wd ⟨keepH p H, G, T.map (·.1), T⟩ G' H' M) (t : LamX.Tabs T H) (hm : p ∈ M) (hp : PenAt p c n H') (h : P v G') : Q v H' :=
  k v H' G' (fun b o n1 h2 no => w.kp b o (fun m => by
      obtain ⟨r, hr, er⟩ := List.mem_map.mp m
      obtain ⟨ps, e, _⟩ := t r hr
      rw [er, h2] at e
      exact no ps (Option.some.inj e)) (keepH_some n1 h2 no)) hp w.tb w.gh w.gr
    (fun a o n1 h2 no => w.fr a (some_ne (keepH_some n1 h2 no))) (w.mu p hm).1 h
theorem retTs_use (w : Wd e G H M) (hp : p ∈ M) (eT : e.T = T) (cov : CovT e)
    (k : ∀ v G' H', Wd e G' H' M → Same G G' → (∀ b o, b ≠ p → H b = some o → NoT o → H' b = some o) → PenAt p c n H' → P v G' → Q v H') : RetTs p c n T G H P Q := by
  subst eT
  intro v H' G' b P' t' s2 s3 fr g0 p'
  obtain ⟨a0, g1, h1, h2⟩ := id P'
  have notp : ∀ a, e.H0 a ≠ none → a ∉ e.P0 → a ≠ p := fun a h off z => by
    subst z
    rcases (w.mu _ hp).2.2 with h3 | h3
    · exact h h3
    · exact off h3
  have gnone : ∀ {G2 H2 : Hp} {a : Addr}, Gh G2 H2 → (∃ ps, H2 a = some (.tbl ps)) → G2 a = none := fun {G2 H2 a} s ⟨ps, h⟩ => by
    cases z : G2 a with
    | none => rfl
    | some o =>
      have e1 := s.1 _ _ z
      rw [h] at e1
      cases e1
      exact absurd rfl (s.2 _ _ z ps)
  refine k v G' H' ⟨s2.1, fun a ha => ?_, w.nd, fun a h => ?_, fun a o h => s3 _ _ (w.gr _ _ h), fun a h => ?_, fun a o off h => ?_, s2.2, fun a ha o h => ?_, t'⟩ s3 b P' p'
  · obtain ⟨m1, ⟨o, m2⟩, m3⟩ := w.mu a ha
    by_cases z : a = p
    · subst z
      exact ⟨g0, ⟨_, h1⟩, m3⟩
    · have no := pl_nt (w.mt a ha o m2)
      exact ⟨by rw [fr a o z m2 no]; exact m1, ⟨o, b a o z m2 no⟩, m3⟩
  · rcases cov.1 a h with ⟨q', m⟩ | ⟨off, no⟩
    · obtain ⟨ps, e1, _⟩ := t' _ m
      rw [show H' a = some (.tbl ps) from e1]
      simp
    · cases y : e.H0 a with
      | none => exact absurd y h
      | some o =>
        rw [b a o (notp a h off) (w.kp a o off y) (no o y)]
        simp
  · rcases cov.1 a h with ⟨q', m⟩ | ⟨off, no⟩
    · obtain ⟨ps', tb', _⟩ := t' _ m
      obtain ⟨ps, e1, _⟩ := w.tb _ m
      rw [← w.fr a h, gnone s2 ⟨ps', tb'⟩, gnone w.gh ⟨ps, e1⟩]
    · cases y : e.H0 a with
      | none => exact absurd y h
      | some o => rw [fr a o (notp a h off) (w.kp a o off y) (no o y)]; exact w.fr a h
  · rcases cov.1 a (some_ne h) with ⟨q', m⟩ | ⟨_, no⟩
    · exact absurd (cov.2 _ m) off
    · exact b a o (notp a (some_ne h) off) (w.kp a o off h) (no o h)
  · by_cases z : a = p
    · subst z
      rw [h1] at h
      rw [← Option.some.inj h]
      rfl
    · obtain ⟨_, ⟨o2, m2⟩, _⟩ := w.mu a ha
      have pl := w.mt a ha o2 m2
      rw [b a o2 z m2 (pl_nt pl)] at h
      rw [← Option.some.inj h]
      exact pl
/-- what is told but the tables -/
def offT (T : List (Addr × Str)) (H : Hp) : Hp := fun a => if a ∈ T.map (·.1) then none else H a
theorem law_starts {cs : List (Addr × Addr)} {a : Addr} {xs : List V} (T : List (Addr × Str)) (eT : T.map (·.1) = cs.map (·.2)) (only : OnlyT cs H) (ht : ∀ p ∈ cs, H p.2 = some (.tbl #[])) (ha : SqL K H a xs) :
    ∃ (en : En) (G0 : Hp), Wd en G0 H [] ∧ SqL K G0 a xs ∧ en.T = T ∧ CovT en := by
  have tab : ∀ b ∈ T.map (·.1), H b = some (.tbl #[]) := fun b hb => by
    rw [eT] at hb
    obtain ⟨p, hp, e⟩ := List.mem_map.mp hb
    rw [← e]
    exact ht p hp
  have off : ∀ b, b ∉ T.map (·.1) → offT T H b = H b := fun b h => if_neg h
  have on : ∀ b o, offT T H b = some o → b ∉ T.map (·.1) ∧ H b = some o := fun b o h => by
    by_cases m : b ∈ T.map (·.1)
    · have h' : (if b ∈ T.map (·.1) then none else H b) = some o := h
      rw [if_pos m] at h'
      cases h'
    · exact ⟨m, by rw [← off b m]; exact h⟩
  have nt : ∀ b o, offT T H b = some o → NoT o := fun b o h => by
    obtain ⟨m, h2⟩ := on b o h
    rcases only b with y | ⟨p, hp, y⟩ | ⟨u, zs, y⟩
    · rw [y] at h2; cases h2
    · exact absurd (by rw [eT, ← y]; exact List.mem_map_of_mem hp) m
    · rw [y] at h2
      cases h2
      intro ps q
      cases q
  have sG : Gh (offT T H) H := ⟨fun b o h => (on b o h).2, nt⟩
  refine ⟨⟨H, offT T H, T.map (·.1), T⟩, offT T H, wd_startT sG (fun a h => by simp at h) List.nodup_nil (fun a h => by simp at h) (fun r hr => LamX.TabS.nil (tab _ (List.mem_map_of_mem hr))), ?_, rfl, fun b hn => ?_, fun r hr => List.mem_map_of_mem hr⟩
  · have n : (∃ o, H a = some o ∧ ∀ ps, o ≠ .tbl ps) → offT T H a = H a := fun ⟨o, z, no⟩ => off a fun m => by
      rw [tab a m] at z
      exact no _ (Option.some.inj z).symm
    rcases ha with (h | ⟨o, h⟩) | h
    · exact .inl (.inl ((n ⟨_, h, fun ps z => by cases z⟩).trans h))
    · exact .inl (.inr ⟨o, (n ⟨_, h, fun ps z => by cases z⟩).trans h⟩)
    · exact .inr h
  · by_cases m : b ∈ T.map (·.1)
    · obtain ⟨r, hr, er⟩ := List.mem_map.mp m
      exact .inl ⟨r.2, by rw [← er]; exact hr⟩
    · exact .inr ⟨m, fun o ho => nt b o (by rw [off b m]; exact ho)⟩
end
end Q
namespace Q
open PySem PySem.Spec PyProof.Rows L2
def tysB : List String := ["NoneType", "int", "bool", "str", "list", "tuple", "dict"]
structure RwE (K : PySem.W.Frag) (CL : Nat → Addr) (Cw fe : Addr) : Prop where
  cn : PySem.W.specialIn K (.builtin "object.__class__") "__get__" = some (some (.builtin "getset_descriptor.__get__"))
  ct : PySem.W.takesIn K (.builtin "object.__class__") = some true
  bas : ∀ n ∈ tysB, PySem.W.kitOne K (.type n) (.ref Cw) = some false
  fn : PySem.W.isFn K (.ref fe) = true
  ca : ∀ i, i < 10 → PySem.W.findIn K (.ref (CL i)) "__class__" = some (some (.builtin "object.__class__"))
  cm : ∀ i, i < 10 → PySem.W.mroIn K (CL i) (.type "object") = some true
  me : ∀ i, i < 10 → PySem.W.kitOne K (.ref (CL i)) (.ref Cw) = some true
  nf : ∀ i, i < 10 → ∀ j, j < 10 → PySem.W.notFirst K (CL i) (.ref (CL j)) = true
  nb : ∀ i, i < 10 → ∀ n ∈ tysB, PySem.W.notFirst K (CL i) (.type n) = true
  eq : ∀ i, i < 10 → PySem.W.findIn K (.ref (CL i)) "__eq__" = some (some (.ref fe))
  ne : ∀ i, i < 10 → PySem.W.findIn K (.ref (CL i)) "__ne__" = some (some (.builtin "object.__ne__"))
/-- what == of a row with y answers -/
def RowTo (K : PySem.W.Frag) (CL : Nat → Addr) (Cw : Addr) (G : Hp) (i : Nat) (as : List V) (y : V) (r : Bool) : Prop :=
  (∃ t, TyX K G y t ∧ PySem.W.kitOne K t (.ref Cw) = some false ∧ r = false) ∨ ∃ (c : Addr) (j : Nat) (bs : List V), y = .ref c ∧ RowOf K CL G c j bs ∧ r = decide (rowTxts i as = rowTxts j bs)
section
variable {K : PySem.W.Frag} {CL : Nat → Addr} {Cw fe : Addr} {G G' H : Hp} {M : List Addr} {e : En} {a : Addr} {i j : Nat} {as bs : List V} {y : V} {r : Bool} {Q : VK} {E : XK}
theorem RowTo.same (h : RowTo K CL Cw G i as y r) (s : Same G G') : RowTo K CL Cw G' i as y r := by
  rcases h with ⟨t, h1, h2, h3⟩ | ⟨c, j, bs, h1, h2, h3⟩
  · exact .inl ⟨t, same_ty s h1, h2, h3⟩
  · exact .inr ⟨c, j, bs, h1, h2.same s, h3⟩
theorem RowTo.row {c : Addr} (h : RowOf K CL G c j bs) : RowTo K CL Cw G i as (.ref c) (decide (rowTxts i as = rowTxts j bs)) := .inr ⟨c, j, bs, rfl, h, rfl⟩
theorem RowOf.ty (S : RwE K CL Cw fe) (RC : ∀ i, i < 10 → RwC K (CL i) (flN i)) (h : RowOf K CL G a i as) : TyX K G (.ref a) (.ref (CL i)) := by
  obtain ⟨hi, _, dx, aw, an, am, h1, _⟩ := h
  exact .base (.ins h1 (RC i hi).c (S.ca i hi) S.cn S.ct (S.cm i hi))
theorem RowOf.ins (h : RowOf K CL G a i as) : ∃ dx fs, G a = some (.ins (CL i) dx fs) := by
  obtain ⟨hi, _, dx, aw, an, am, h1, _⟩ := h
  exact ⟨_, _, h1⟩
end
end Q
namespace Q
open PySem PySem.Spec PyProof.Rows L2
def EntTo (K : PySem.W.Frag) (C : Addr) (G : Hp) (t : Str) (i : Int) (b : Str) (y : V) (r : Bool) : Prop := (∃ u, TyX K G y u ∧ PySem.W.kitOne K u (.ref C) = some false ∧ r = false) ∨
  ∃ (c : Addr) (t' : Str) (i' : Int) (b' : Str), y = .ref c ∧ EntAt C G c t' i' b' ∧ r = PyData.eqv (faceE t i b) (faceE t' i' b')
def spEntEqX (K : PySem.W.Frag) (C : Addr) : Sp := fun vs H Q _ => ∃ (G : Hp) (a : Addr) (t : Str) (i : Int) (b : Str) (y : V) (r : Bool), vs = [.ref a, y] ∧ Gh G H ∧ EntAt C G a t i b ∧ EntTo K C G t i b y r ∧ Ret G H (fun v _ => v = .bl r) Q
section
variable {K : PySem.W.Frag} {C Ce : Addr} {CL : Nat → Addr} {G G' H : Hp} {M : List Addr} {e : En} {a c : Addr} {i i' : Int} {j : Nat} {t b t' b' : Str} {x y : V} {tx : Value} {r : Bool} {Q : VK} {E : XK}
theorem EntTo.same (h : EntTo K C G t i b y r) (s : Same G G') : EntTo K C G' t i b y r := by
  rcases h with ⟨u, h1, h2, h3⟩ | ⟨c, t', i', b', h1, h2, h3⟩
  · exact .inl ⟨u, same_ty s h1, h2, h3⟩
  · exact .inr ⟨c, t', i', b', h1, h2.same s, h3⟩
theorem EntTo.ent (h : EntAt C G c t' i' b') : EntTo K C G t i b (.ref c) (PyData.eqv (faceE t i b) (faceE t' i' b')) := .inr ⟨c, t', i', b', rfl, h, rfl⟩
theorem u_entEqX (w : Wd e G H M) (h1 : EntAt C G a t i b) (h2 : EntTo K C G t i b y r) (k : ∀ G' H', Wd e G' H' M → Same G G' → Same H H' → Q (.bl r) H') : spEntEqX K C [.ref a, y] H Q E :=
  ⟨G, a, t, i, b, y, r, rfl, w.gh, h1, h2, ret_use w fun v G' H' w' s1 s2 p => by subst p; exact k G' H' w' s1 s2⟩
end
end Q
namespace Q
open PySem PySem.Spec PyProof.Rows L2
theorem vals_rot {vs : List V} {us : List Value} (h : Vals vs us) : Vals (vs.drop 1 ++ vs.take 1) (us.drop 1 ++ us.take 1) := by
  cases h with
  | nil => exact .nil
  | cons h t => exact (show Vals _ _ from t).append (show Vals _ _ from .cons h .nil)
theorem eqv_faceE {t b t' b' : Str} {i i' : Int} : PyData.eqv (faceE t i b) (faceE t' i' b') = decide (t = t' ∧ i = i' ∧ b = b') := by
  simp only [faceE, PyData.eqv, PyData.eqvAll, Bool.and_true]
  by_cases h1 : t = t' <;> by_cases h2 : i = i' <;> by_cases h3 : b = b' <;> simp [h1, h2, h3]
def PartsAt (G : Hp) (q : Addr) (t : Str) (m : Int) (b : Str) : Prop := RightE t m b ∧ G q = some (.tup [.str t, .int m, .str b])
theorem PartsAt.same {G G' : Hp} {q : Addr} {t b : Str} {m : Int} (h : PartsAt G q t m b) (s : Same G G') : PartsAt G' q t m b := ⟨h.1, s _ _ h.2⟩
end Q
namespace Q
open PySem PySem.Spec PyProof.Rows L2
end Q
namespace Q
open PySem PySem.Spec PyProof.Rows L2
end Q
namespace Q
open PySem PySem.Spec PyProof.Rows L2
theorem cut_tail (x : V) (xs : List V) : cutV (x :: xs) (some 1) none = xs := by
  unfold cutV
  have e : HT.sIx (x :: xs).length 0 (some 1) = 1 := by
    show (if (1 : Int) < 0 then ((1 : Int) + (((x :: xs).length : Nat) : Int)).toNat else min (1 : Int).toNat (x :: xs).length) = 1
    rw [if_neg (by decide)]
    simp
  rw [e]
  show ((x :: xs).drop 1).take ((x :: xs).length - 1) = xs
  simp
theorem r_slT1 {K : PySem.W.Frag} {p : Addr} {x : V} {xs : List V} {H : Hp} {Qv : VK} (h : SqT K H p (x :: xs)) (q : Lay 0 (.tup xs) Qv H) : rSlT K (.ref p) (some 1) none H Qv := by
  refine ⟨p, x :: xs, rfl, h, fun ⟨z, _⟩ => ?_, fun l hl => ?_⟩
  · have z : (if (1 : Int) < 0 then (1 + (((x :: xs).length : Nat) : Int)).toNat else min (1 : Int).toNat (x :: xs).length) = 0 := z
    rw [if_neg (by decide)] at z
    simp at z
  · rw [cut_tail]
    exact q.2 l hl
/-- a row as a tuple: its kind and its arguments -/
def TupRow (G : Hp) (t : Addr) (i : Nat) (as : List V) : Prop := i < 10 ∧ G t = some (.tup (.str (kindN i) :: as)) ∧ SgAll (sgN i) as
theorem TupRow.same {G G' : Hp} {t : Addr} {i : Nat} {as : List V} (h : TupRow G t i as) (s : Same G G') : TupRow G' t i as := ⟨h.1, s _ _ h.2.1, h.2.2⟩
end Q
namespace Q
open PySem PySem.Spec PyProof.Rows L2
/-- values that may stand for names: known texts, all shown -/
def NewV (K : PySem.W.Frag) (G : Hp) (v : V) : Prop := (∀ z, v = .str z → PyData.strOk z = true) ∧ ∃ d, Odd K G v d
theorem NewV.same {K : PySem.W.Frag} {G G' : Hp} {v : V} (h : NewV K G v) (s : Same G G') : NewV K G' v := ⟨h.1, h.2.elim fun d o => ⟨d, o.same s⟩⟩
theorem newV_name {K : PySem.W.Frag} {G : Hp} {z : Str} (h : nmOk z = true) : NewV K G (.str z) := ⟨fun y e => by cases e; exact nmOk_str h, _, odd_name h⟩
def NamesOk (K : PySem.W.Frag) (G : Hp) (kvs : List (Key × V)) : Prop := ∀ kv ∈ kvs, (∃ z, kv.1 = .inr z ∧ nmOk z = true) ∧ NewV K G kv.2
theorem NamesOk.same {K : PySem.W.Frag} {G G' : Hp} {kvs : List (Key × V)} (h : NamesOk K G kvs) (s : Same G G') : NamesOk K G' kvs := fun kv m => ⟨(h kv m).1, (h kv m).2.same s⟩
theorem NamesOk.get {K : PySem.W.Frag} {G : Hp} {kvs : List (Key × V)} (h : NamesOk K G kvs) {z : Str} (hz : nmOk z = true) : NewV K G ((valV kvs (.inr z)).getD (.str z)) := by
  cases e : valV kvs (.inr z) with
  | none => exact newV_name hz
  | some v =>
    have e' : (kvs.find? fun kv => decide (kv.1 = (Sum.inr z : Key))).map (·.2) = some v := e
    cases q : kvs.find? fun kv => decide (kv.1 = (Sum.inr z : Key)) with
    | none => rw [q] at e'; cases e'
    | some kv =>
      rw [q] at e'
      cases e'
      exact (h kv (List.mem_of_find?_eq_some q)).2
end Q
namespace Q
open PySem PySem.Spec PyProof.Rows L2
end Q
namespace Q
open PySem PySem.Spec PyProof.Rows L2
end Q
namespace Q
open PySem PySem.Spec PyProof.Rows L2
end Q
namespace Q
open PySem PySem.Spec PyProof.Rows L2
end Q
namespace Q
open PySem PySem.Spec PyProof.Rows L2
end Q
namespace L2
open PySem PySem.Spec PyProof.Rows
end L2
namespace Q
open PySem PySem.Spec PyProof.Rows L2
end Q
namespace Q
open PySem PySem.Spec PyProof.Rows L2
end Q
namespace Q
open PySem PySem.Spec PyProof.Rows L2
end Q
namespace Q
open PySem PySem.Spec PyProof.Rows L2
end Q
namespace Q
open PySem PySem.Spec PyProof.Rows L2
end Q
namespace Q
open PySem PySem.Spec PyProof.Rows L2
end Q
namespace Q
open PySem PySem.Spec PyProof.Rows L2
end Q
namespace Q
open PySem PySem.Spec PyProof.Rows L2
end Q
namespace Q
open PySem PySem.Spec PyProof.Rows L2
end Q
namespace Q
open PySem PySem.Spec PyProof.Rows L2
end Q
namespace Q
open PySem PySem.Spec PyProof.Rows L2
end Q
namespace Q
open PySem PySem.Spec PyProof.Rows L2
end Q
namespace Q
open PySem PySem.Spec PyProof.Rows L2
end Q
namespace Q
open PySem PySem.Spec PyProof.Rows L2
end Q
namespace Q
open PySem PySem.Spec PyProof.Rows L2
end Q
namespace Q
open PySem PySem.Spec PyProof.Rows L2
end Q
namespace Q
open PySem PySem.Spec PyProof.Rows L2
end Q
namespace Q
open PySem PySem.Spec PyProof.Rows L2
/-- the text of an entry -/
def txOf (e : Int × Value) : Str := match e.2 with
  | .str z _ => z
  | _ => Str.empty
def TxE (w : World) (e : Int × Value) : Prop := ∃ (z : Str) (t : Tok), e = (hashStr w z, Value.str z t)
structure TxAt (w : World) (zs : List Str) (fs : Array (Int × Value)) (u : SetTable) : Prop where
  each : ∀ e ∈ fs.toList, TxE w e
  perm : (fs.toList.map txOf).Perm zs
  nd : zs.Nodup
  few : zs.length < scanBound
  fit : u.fits fs.size = true
  ris : Ris u.place.toList
  led : w.params.followText "set-order" = true ∨ u.led = true
def TxSet (w : World) (h : Heap) (a : Addr) (zs : List Str) : Prop := ∃ ob fs ep u, h.get? a = some ob ∧ ob.ExactSet ∧ ob.data = .set fs ep u ∧ TxAt w zs fs u
section
variable {P : Program} {w : World} {h h' : Heap} {a : Addr} {zs : List Str} {fs : Array (Int × Value)} {u : SetTable}
theorem TxSet.keep (R : TxSet w h a zs) (k : ∀ ob, h.get? a = some ob → h'.get? a = some ob) : TxSet w h' a zs := by
  obtain ⟨ob, fs, ep, u, g, r⟩ := R
  exact ⟨ob, fs, ep, u, k ob g, r⟩
theorem TxAt.size (R : TxAt w zs fs u) : fs.size = zs.length := by
  have := R.perm.length_eq
  rwa [List.length_map, Array.length_toList] at this
theorem tx_is {e : Int × Value} (x : TxE w e) (k : Str) : (PySem.strKind P w).is k e.2 = true ↔ txOf e = k := by
  obtain ⟨z, t, rfl⟩ := x
  show (Value.isStrOf k (.str z t) = true) ↔ z = k
  simp [Value.isStrOf]
theorem TxAt.mem (R : TxAt w zs fs u) (k : Str) : k ∈ zs ↔ ∃ e ∈ fs.toList, (PySem.strKind P w).is k e.2 = true := by
  rw [← R.perm.mem_iff, List.mem_map]
  constructor
  · rintro ⟨e, he, q⟩
    exact ⟨e, he, (tx_is (R.each e he) k).mpr q⟩
  · rintro ⟨e, he, q⟩
    exact ⟨e, he, (tx_is (R.each e he) k).mp q⟩
end
end Q
namespace Q
open PySem PySem.Spec PyProof.Rows L2
end Q
namespace Q
open PySem PySem.Spec PyProof.Rows L2
end Q
namespace Q
open PySem PySem.Spec PyProof.Rows L2
end Q
namespace Q
open PySem PySem.Spec PyProof.Rows L2
end Q
namespace Q
open PySem PySem.Spec PyProof.Rows L2
end Q
namespace Q
open PySem PySem.Spec PyProof.Rows L2
end Q
namespace Q
open PySem PySem.Spec PyProof.Rows L2
end Q
namespace Q
open PySem PySem.Spec PyProof.Rows L2
abbrev Tri := Str × Int × Bool
def TwoOf (C : Addr) (G : Hp) (p : Addr) (t : Tri × Tri) : Prop := ∃ a b, G p = some (.tup [.ref a, .ref b]) ∧ SayAt C G a t.1.1 t.1.2.1 t.1.2.2 ∧ SayAt C G b t.2.1 t.2.2.1 t.2.2.2
theorem TwoOf.same {C p : Addr} {G G' : Hp} {t : Tri × Tri} (h : TwoOf C G p t) (s : Same G G') : TwoOf C G' p t := by
  obtain ⟨a, b, h1, h2, h3⟩ := h
  exact ⟨a, b, s _ _ h1, h2.same s, h3.same s⟩
def TwoAt (C : Addr) (G : Hp) (ps : List Addr) (ts : List (Tri × Tri)) : Prop := ps.length = ts.length ∧ ∀ (k : Nat) (p : Addr) (t : Tri × Tri), ps[k]? = some p → ts[k]? = some t → TwoOf C G p t
theorem TwoAt.same {C : Addr} {G G' : Hp} {ps : List Addr} {ts : List (Tri × Tri)} (h : TwoAt C G ps ts) (s : Same G G') : TwoAt C G' ps ts := ⟨h.1, fun k p t h1 h2 => (h.2 k p t h1 h2).same s⟩
theorem TwoAt.nil {C : Addr} {G : Hp} : TwoAt C G [] [] := ⟨rfl, fun k p t h => by simp at h⟩
theorem TwoAt.snoc {C p : Addr} {G : Hp} {ps : List Addr} {ts : List (Tri × Tri)} {t : Tri × Tri} (h : TwoAt C G ps ts) (q : TwoOf C G p t) : TwoAt C G (ps ++ [p]) (ts ++ [t]) := by
  refine ⟨by simp [h.1], fun k p' t' h1 h2 => ?_⟩
  rcases Nat.lt_or_ge k ps.length with c | c
  · rw [List.getElem?_append_left c] at h1
    rw [List.getElem?_append_left (by rw [← h.1]; exact c)] at h2
    exact h.2 k p' t' h1 h2
  · rw [List.getElem?_append_right c] at h1
    rw [List.getElem?_append_right (by rw [← h.1]; exact c)] at h2
    have : k - ps.length = 0 := by
      have := (List.getElem?_eq_some_iff.mp h1).1
      simp at this
      omega
    rw [this] at h1
    rw [← h.1, this] at h2
    cases h1
    cases h2
    exact q
theorem TwoAt.one {C p : Addr} {G : Hp} {t : Tri × Tri} (q : TwoOf C G p t) : TwoAt C G [p] [t] := TwoAt.nil.snoc q
theorem TwoAt.two {C p q : Addr} {G : Hp} {t u : Tri × Tri} (h1 : TwoOf C G p t) (h2 : TwoOf C G q u) : TwoAt C G [p, q] [t, u] := (TwoAt.one h1).snoc h2
end Q
namespace Q
open PySem PySem.Spec PyProof.Rows L2
def TriAt (G : Hp) (a : Addr) (t : Tri) : Prop := G a = some (.tup [.str t.1, .int t.2.1, .bl t.2.2])
def DuoAt (G : Hp) (p : Addr) (t : Tri × Tri) : Prop := ∃ a b, G p = some (.tup [.ref a, .ref b]) ∧ TriAt G a t.1 ∧ TriAt G b t.2
theorem DuoAt.same {G G' : Hp} {p : Addr} {t : Tri × Tri} (h : DuoAt G p t) (s : Same G G') : DuoAt G' p t := by
  obtain ⟨a, b, h1, h2, h3⟩ := h
  exact ⟨a, b, s _ _ h1, s _ _ h2, s _ _ h3⟩
inductive DuosAt (G : Hp) : List Addr → List (Tri × Tri) → Prop
  | nil : DuosAt G [] []
  | cons {p : Addr} {t : Tri × Tri} {ps : List Addr} {ts : List (Tri × Tri)} (h : DuoAt G p t) (r : DuosAt G ps ts) : DuosAt G (p :: ps) (t :: ts)
section
variable {G G' : Hp} {ps : List Addr} {ts : List (Tri × Tri)} {p : Addr} {t : Tri × Tri}
theorem DuosAt.same (h : DuosAt G ps ts) (s : Same G G') : DuosAt G' ps ts := by
  induction h with
  | nil => exact .nil
  | cons h _ ih => exact .cons (h.same s) ih
theorem DuosAt.snoc (r : DuosAt G ps ts) (h : DuoAt G p t) : DuosAt G (ps ++ [p]) (ts ++ [t]) := by
  induction r with
  | nil => exact .cons h .nil
  | cons h2 _ ih => exact .cons h2 ih
theorem DuosAt.len (h : DuosAt G ps ts) : ps.length = ts.length := by
  induction h with
  | nil => rfl
  | cons _ _ ih => simp [ih]
end
end Q
namespace Q
open PySem PySem.Spec PyProof.Rows L2
end Q
namespace Q
def memR (L : List (Int × Int)) (x : Int) : Prop := ∃ p ∈ L, p.1 ≤ x ∧ x ≤ p.2
/-- whole stretches, ascending, each apart from the next -/
structure NormR (L : List (Int × Int)) : Prop where
  each : ∀ p ∈ L, p.1 ≤ p.2
  apart : L.Pairwise fun p q => p.2 + 1 < q.1
theorem NormR.tail {p : Int × Int} {L : List (Int × Int)} (h : NormR (p :: L)) : NormR L := ⟨fun q hq => h.each q (List.mem_cons_of_mem _ hq), (List.pairwise_cons.mp h.apart).2⟩
theorem NormR.head {p : Int × Int} {L : List (Int × Int)} (h : NormR (p :: L)) : ∀ q ∈ L, p.2 + 1 < q.1 := (List.pairwise_cons.mp h.apart).1
theorem NormR.next {p : Int × Int} {L : List (Int × Int)} (h : NormR (p :: L)) {x : Int} (hx : memR L x) : p.2 + 1 < x := by
  obtain ⟨q, hq, h1⟩ := hx
  have := h.head q hq
  omega
end Q
namespace Q
open PySem PySem.Spec PyProof.Rows L2
def rMax2 : List V → Hp → VK → Prop := fun xs H Q => ∃ i j : Int, xs = [.int i, .int j] ∧ Q (.int (if j > i then j else i)) H
theorem cr_max2 {X : Cx} (hc : X.calm = true) : CallR X (.builtin "max") rMax2 := call_max2 hc
theorem r_max2 {i j : Int} {H : Hp} {Qv : VK} (q : Qv (.int (if j > i then j else i)) H) : rMax2 [.int i, .int j] H Qv := ⟨i, j, rfl, q⟩
/-- a pair of ints at p -/
def PrAt (G : Hp) (p : Addr) (q : Int × Int) : Prop := G p = some (.tup [.int q.1, .int q.2])
inductive PrsAt (G : Hp) : List Addr → List (Int × Int) → Prop
  | nil : PrsAt G [] []
  | cons {p : Addr} {q : Int × Int} {ps : List Addr} {qs : List (Int × Int)} (h : PrAt G p q) (t : PrsAt G ps qs) : PrsAt G (p :: ps) (q :: qs)
section
variable {G G' : Hp} {p : Addr} {q : Int × Int} {ps : List Addr} {qs : List (Int × Int)}
theorem PrsAt.same (h : PrsAt G ps qs) (s : Same G G') : PrsAt G' ps qs := by
  induction h with
  | nil => exact .nil
  | cons h _ ih => exact .cons (s _ _ h) ih
theorem PrsAt.app {ps' : List Addr} {qs' : List (Int × Int)} (h : PrsAt G ps qs) (h' : PrsAt G ps' qs') : PrsAt G (ps ++ ps') (qs ++ qs') := by
  induction h with
  | nil => exact h'
  | cons h _ ih => exact .cons h ih
theorem PrsAt.snoc (r : PrsAt G ps qs) (h : PrAt G p q) : PrsAt G (ps ++ [p]) (qs ++ [q]) := r.app (.cons h .nil)
theorem PrsAt.len (h : PrsAt G ps qs) : ps.length = qs.length := by
  induction h with
  | nil => rfl
  | cons _ _ ih => simp only [List.length_cons, ih]
theorem PrsAt.take (h : PrsAt G ps qs) : ∀ n, PrsAt G (ps.take n) (qs.take n) := by
  induction h with
  | nil => intro n; rw [List.take_nil, List.take_nil]; exact .nil
  | cons h _ ih =>
    intro n
    cases n with
    | zero => exact .nil
    | succ n => exact .cons h (ih n)
theorem PrsAt.get (h : PrsAt G ps qs) : ∀ {i : Nat} {p : Addr}, ps[i]? = some p → ∃ q, qs[i]? = some q ∧ PrAt G p q := by
  induction h with
  | nil => intro i p e; cases i <;> cases e
  | cons h _ ih =>
    intro i p e
    cases i with
    | zero => cases e; exact ⟨_, rfl, h⟩
    | succ i => exact ih e
theorem PrsAt.mem (h : PrsAt G ps qs) {p : Addr} (hp : p ∈ ps) : ∃ q, q ∈ qs ∧ PrAt G p q := by
  obtain ⟨i, hi, e⟩ := List.mem_iff_getElem.mp hp
  obtain ⟨q, e2, hq⟩ := h.get (i := i) (p := p) (by rw [List.getElem?_eq_getElem hi, e])
  exact ⟨q, List.mem_of_getElem? e2, hq⟩
/-- pairs in another order -/
theorem PrsAt.perm (h : PrsAt G ps qs) : ∀ {ps' : List Addr}, ps'.Perm ps → ∃ qs', PrsAt G ps' qs' ∧ qs'.Perm qs := by
  have key : ∀ {ps ps' : List Addr}, ps.Perm ps' → ∀ {qs : List (Int × Int)}, PrsAt G ps qs → ∃ qs', PrsAt G ps' qs' ∧ qs.Perm qs' := by
    intro ps ps' pm
    induction pm with
    | nil =>
      intro qs h
      exact ⟨qs, h, .refl _⟩
    | cons x _ ih =>
      intro qs h
      cases h with
      | cons h t =>
        obtain ⟨qs', r, pq⟩ := ih t
        exact ⟨_, .cons h r, pq.cons _⟩
    | swap x y l =>
      intro qs h
      cases h with
      | cons h t =>
        cases t with
        | cons h2 t => exact ⟨_, .cons h2 (.cons h t), .swap _ _ _⟩
    | trans _ _ ih1 ih2 =>
      intro qs h
      obtain ⟨q1, r1, p1⟩ := ih1 h
      obtain ⟨q2, r2, p2⟩ := ih2 r1
      exact ⟨q2, r2, p1.trans p2⟩
  intro ps' pm
  obtain ⟨q', r, p'⟩ := key pm.symm h
  exact ⟨q', r, p'.symm⟩
end
end Q
namespace Q
open PySem PySem.Spec PyProof.Rows L2
/-- whether x is a stretch within lo .. hi -/
def StrI (K : PySem.W.Frag) (G : Hp) (lo hi : Int) (x : V) (b : Bool) : Prop :=
  (∃ p q, x = .ref p ∧ PrAt G p q ∧ b = (decide (lo ≤ q.1) && (decide (q.1 ≤ q.2) && decide (q.2 ≤ hi)))) ∨
  (b = false ∧ ((∃ t, TyX K G x t ∧ PySem.W.kitOne K t (.type "tuple") = some false) ∨
    ∃ p xs, x = .ref p ∧ G p = some (.tup xs) ∧ xs.length ≤ 1000 ∧ (∀ y ∈ xs, ∃ t, Kd K G y t) ∧ (xs.length ≠ 2 ∨ xs.all isI = false)))
theorem StrI.same {K : PySem.W.Frag} {G G' : Hp} {lo hi : Int} {x : V} {b : Bool} (h : StrI K G lo hi x b) (s : Same G G') : StrI K G' lo hi x b := by
  rcases h with ⟨p, q, e, h, r⟩ | ⟨e, ⟨t, h, k⟩ | ⟨p, xs, e2, h, l, a, n⟩⟩
  · exact .inl ⟨p, q, e, s _ _ h, r⟩
  · exact .inr ⟨e, .inl ⟨t, same_ty s h, k⟩⟩
  · exact .inr ⟨e, .inr ⟨p, xs, e2, s _ _ h, l, fun y hy => (a y hy).elim fun t z => ⟨t, z.same s⟩, n⟩⟩
def StrsI (K : PySem.W.Frag) (G : Hp) (lo hi : Int) (xs : List V) (bs : List Bool) : Prop := xs.length = bs.length ∧ ∀ (i : Nat) (x : V) (b : Bool), xs[i]? = some x → bs[i]? = some b → StrI K G lo hi x b
theorem StrsI.same {K : PySem.W.Frag} {G G' : Hp} {lo hi : Int} {xs : List V} {bs : List Bool} (h : StrsI K G lo hi xs bs) (s : Same G G') : StrsI K G' lo hi xs bs := ⟨h.1, fun i x b e1 e2 => (h.2 i x b e1 e2).same s⟩
/-- what a set of turns is made of: the fault's value, or the stretches -/
def TuIn (K : PySem.W.Frag) (G : Hp) (lo hi : Int) (x : V) (o : V ⊕ List (Int × Int)) : Prop :=
  (o = .inl .non ∧ ∃ t, TyX K G x t ∧ PySem.W.kitOne K t (.type "list") = some false ∧ PySem.W.kitOne K t (.type "tuple") = some false) ∨
  ∃ s xs bs, x = .ref s ∧ SqA K G s xs ∧ xs.length ≤ 1000 ∧ StrsI K G lo hi xs bs ∧
    ((∃ j : Nat, bs[j]? = some false ∧ (∀ i, i < j → bs[i]? = some true) ∧ o = .inl (.int j)) ∨
      ∃ ps qs, (∀ (i : Nat) (b : Bool), bs[i]? = some b → b = true) ∧ xs = ps.map V.ref ∧ PrsAt G ps qs ∧ (∀ q ∈ qs, lo ≤ q.1 ∧ q.1 ≤ q.2 ∧ q.2 ≤ hi) ∧ o = .inr qs)
theorem TuIn.same {K : PySem.W.Frag} {G G' : Hp} {lo hi : Int} {x : V} {o : V ⊕ List (Int × Int)} (h : TuIn K G lo hi x o) (s : Same G G') : TuIn K G' lo hi x o := by
  rcases h with ⟨e, t, h, k⟩ | ⟨a, xs, bs, e, h, l, st, r⟩
  · exact .inl ⟨e, t, same_ty s h, k⟩
  · refine .inr ⟨a, xs, bs, e, h.same s, l, st.same s, r.elim .inl fun ⟨ps, qs, h1, h2, h3, h4⟩ => .inr ⟨ps, qs, h1, h2, h3.same s, h4⟩⟩
def TurAt (C : Addr) (G : Hp) (a : Addr) (lo hi : Int) (b : Bool) (ks : List (Int × Int)) : Prop := ∃ dx t fc ps, G a = some (.ins C dx [("low", .int lo), ("high", .int hi), ("has_none", .bl b), ("kept", .ref t), ("face", .ref fc)]) ∧
  G t = some (.tup (ps.map V.ref)) ∧ PrsAt G ps ks ∧ G fc = some (.tup [.int lo, .int hi, .ref t, .bl b])
theorem TurAt.same {C : Addr} {G G' : Hp} {a : Addr} {lo hi : Int} {b : Bool} {ks : List (Int × Int)} (h : TurAt C G a lo hi b ks) (s : Same G G') : TurAt C G' a lo hi b ks := by
  obtain ⟨dx, t, fc, ps, h1, h2, h3, h4⟩ := h
  exact ⟨dx, t, fc, ps, s _ _ h1, s _ _ h2, h3.same s, s _ _ h4⟩
structure TuC (K : PySem.W.Frag) (C : Addr) : Prop where
  c : Cls K C
  n1 : NoAttr K C "low"
  n2 : NoAttr K C "high"
  n3 : NoAttr K C "has_none"
  n4 : NoAttr K C "kept"
  n5 : NoAttr K C "face"
  ca : PySem.W.findIn K (.ref C) "__class__" = some (some (.builtin "object.__class__"))
  cn : PySem.W.specialIn K (.builtin "object.__class__") "__get__" = some (some (.builtin "getset_descriptor.__get__"))
  ct : PySem.W.takesIn K (.builtin "object.__class__") = some true
  cm : PySem.W.mroIn K C (.type "object") = some true
  me : PySem.W.kitOne K (.ref C) (.ref C) = some true
  kn : ∀ n ∈ ["NoneType", "int", "bool", "str", "list", "tuple", "dict"], PySem.W.kitOne K (.type n) (.ref C) = some false
  fme : PySem.W.notFirst K C (.ref C) = true
  fn : ∀ n ∈ ["NoneType", "int", "bool", "str", "list", "tuple", "dict"], PySem.W.notFirst K C (.type n) = true
theorem TuC.ty {K : PySem.W.Frag} {C a : Addr} {G : Hp} {lo hi : Int} {b : Bool} {ks : List (Int × Int)} (S : TuC K C) (h : TurAt C G a lo hi b ks) : TyX K G (.ref a) (.ref C) := by
  obtain ⟨dx, t, fc, ps, h1, _⟩ := h
  exact .base (.ins h1 S.c S.ca S.cn S.ct S.cm)
/-- numbers that can be written -/
def Fine (ks : List (Int × Int)) : Prop := ks.length ≤ 1000 ∧ ∀ q ∈ ks, -1000 ≤ q.1 ∧ q.1 ≤ q.2 ∧ q.2 ≤ 10000000000000000000000000000000
end Q
namespace Q
open PySem PySem.Spec PyProof.Rows L2
theorem Fine.mem {ks : List (Int × Int)} (h : Fine ks) {q : Int × Int} (hq : q ∈ ks) : (-1000 ≤ q.1 ∧ q.1 ≤ 10000000000000000000000000000000) ∧ (-1000 ≤ q.2 ∧ q.2 ≤ 10000000000000000000000000000000) := by
  obtain ⟨a, b, c⟩ := h.2 q hq
  exact ⟨⟨a, by omega⟩, ⟨by omega, c⟩⟩
end Q
namespace Q
open PySem PySem.Spec PyProof.Rows L2
end Q
namespace Q
open PySem PySem.Spec PyProof.Rows L2
end Q
namespace Q
open PySem PySem.Spec PyProof.Rows L2
end Q
namespace Q
open PySem PySem.Spec PyProof.Rows L2
end Q
namespace Q
open PySem PySem.Spec PyProof.Rows L2
end Q
namespace Q
open PySem PySem.Spec PyProof.Rows L2
end Q
namespace Q
open PySem PySem.Spec PyProof.Rows L2
end Q
namespace Q
open PySem PySem.Spec PyProof.Rows L2
end Q
namespace Q
open PySem PySem.Spec PyProof.Rows L2
/-- a list with odd values put in from behind: its values, whether each is a stretch, the list that tells the last one put in -/
structure BentS (K : PySem.W.Frag) (G : Hp) (lo hi : Int) (ps : List Addr) (m : Nat) (xs : List V) (bs : List Bool) (v : V) : Prop where
  st : StrsI K G lo hi xs bs
  len : xs.length = ps.length
  below : ∀ k, k < m → bs[k]? = some true
  due : (v = .non ∧ xs = ps.map V.ref ∧ ∀ (k : Nat) (b : Bool), bs[k]? = some b → b = true) ∨ ∃ (l : Addr) (k : Nat), v = .ref l ∧ G l = some (.lst [.int k]) ∧ k < ps.length ∧ bs[k]? = some false ∧ ∀ i, i < k → bs[i]? = some true
theorem BentS.same {K : PySem.W.Frag} {G G' : Hp} {lo hi : Int} {ps : List Addr} {m : Nat} {xs : List V} {bs : List Bool} {v : V} (h : BentS K G lo hi ps m xs bs v) (s : Same G G') : BentS K G' lo hi ps m xs bs v :=
  ⟨h.st.same s, h.len, h.below, h.due.elim .inl fun ⟨l, k, e, h1, h2⟩ => .inr ⟨l, k, e, s _ _ h1, h2⟩⟩
end Q
namespace Q
open PySem PySem.Spec PyProof.Rows L2
theorem ixN_at {n j : Nat} (h : j < n) : ixN n (j : Int) = some j := by
  unfold ixN
  rw [if_pos (by omega), if_pos (by omega)]
  simp
end Q
namespace Q
open PySem PySem.Spec PyProof.Rows L2
end Q
namespace Q
open PySem PySem.Spec PyProof.Rows L2
/-- what the stretches of a life lo .. hi are -/
structure TuOk (lo hi : Int) (ks : List (Int × Int)) : Prop where
  norm : NormR ks
  within : ∀ p ∈ ks, lo ≤ p.1 ∧ p.2 ≤ hi
  life : lo ≤ hi ∧ hi ≤ lo + 12
theorem TuOk.mem {lo hi : Int} {ks : List (Int × Int)} (h : TuOk lo hi ks) {x : Int} (m : memR ks x) : lo ≤ x ∧ x ≤ hi := by
  obtain ⟨p, hp, a, b⟩ := m
  have := h.within p hp
  omega
end Q
namespace Q
open PySem PySem.Spec PyProof.Rows L2
/-- a set of turns, its moments, whether None is in it -/
structure TkSet (lo hi : Int) (ks : List (Int × Int)) (ts : List Int) : Prop where
  up : ts.Pairwise (· < ·)
  mem : ∀ x, memR ks x ↔ x ∈ ts
  ok : TuOk lo hi ks
theorem TkSet.within {lo hi : Int} {ks : List (Int × Int)} {ts : List Int} (h : TkSet lo hi ks ts) : ∀ x ∈ ts, lo ≤ x ∧ x ≤ hi := fun x hx => h.ok.mem ((h.mem x).mpr hx)
def TrAt (C : Addr) (G : Hp) (p : Addr) (lo hi : Int) (b : Bool) (ks : List (Int × Int)) (ts : List Int) : Prop := ∃ a l, G p = some (.tup [.ref a, .ref l, .bl b]) ∧ TurAt C G a lo hi b ks ∧ G l = some (.lst (ts.map V.int)) ∧ TkSet lo hi ks ts
theorem TrAt.same {C : Addr} {G G' : Hp} {p : Addr} {lo hi : Int} {b : Bool} {ks : List (Int × Int)} {ts : List Int} (h : TrAt C G p lo hi b ks ts) (s : Same G G') : TrAt C G' p lo hi b ks ts := by
  obtain ⟨a, l, h1, h2, h3, h4⟩ := h
  exact ⟨a, l, s _ _ h1, h2.same s, s _ _ h3, h4⟩
theorem TurAt.ins {C a : Addr} {G : Hp} {lo hi : Int} {b : Bool} {ks : List (Int × Int)} (h : TurAt C G a lo hi b ks) : ∃ dx fs, G a = some (.ins C dx fs) := by
  obtain ⟨dx, t, fc, ps, h1, _⟩ := h
  exact ⟨dx, _, h1⟩
end Q
namespace Q
open PySem PySem.Spec PyProof.Rows L2
def TrIn (C : Addr) (G : Hp) (lo hi : Int) (p : Addr) : Prop := ∃ b ks ts, TrAt C G p lo hi b ks ts
theorem TrIn.same {C p : Addr} {G G' : Hp} {lo hi : Int} (h : TrIn C G lo hi p) (s : Same G G') : TrIn C G' lo hi p := by
  obtain ⟨b, ks, ts, h⟩ := h
  exact ⟨b, ks, ts, h.same s⟩
/-- a thing that a set of turns of the life lo .. hi is not equal to -/
def NoTu (K : PySem.W.Frag) (C : Addr) (G : Hp) (lo hi : Int) (x : V) : Prop := (∃ c lo' hi' b' ks', x = .ref c ∧ TurAt C G c lo' hi' b' ks' ∧ ks'.length ≤ 1000 ∧ ¬ (lo = lo' ∧ hi = hi')) ∨ ∃ n : String, TyX K G x (.type n) ∧ n ∈ ["NoneType", "int", "bool", "str", "list", "tuple", "dict"]
theorem NoTu.same {K : PySem.W.Frag} {C : Addr} {G G' : Hp} {lo hi : Int} {x : V} (h : NoTu K C G lo hi x) (s : Same G G') : NoTu K C G' lo hi x := by
  rcases h with ⟨c, lo', hi', b', ks', e, h, r⟩ | ⟨n, h, r⟩
  · exact .inl ⟨c, lo', hi', b', ks', e, h.same s, r⟩
  · exact .inr ⟨n, same_ty s h, r⟩
end Q
namespace Q
open PySem PySem.Spec PyProof.Rows L2
inductive Tr (α : Type) where
  | no : Tr α
  | done : Tr α
  | ask (e : α) (p f : Tr α) : Tr α
namespace Tr
variable {α β : Type}
def isNo : Tr α → Bool
  | .no => true
  | _ => false
/-- a plan of at most so many checks on a way -/
def ok : Tr α → Nat → Bool
  | .done, _ => true
  | .ask _ p f, d + 1 => (p.isNo || p.ok d) && ((f.isNo || f.ok d) && !(p.isNo && f.isNo))
  | _, _ => false
def map (g : α → β) : Tr α → Tr β
  | .no => .no
  | .done => .done
  | .ask e p f => .ask (g e) (p.map g) (f.map g)
theorem isNo_map (g : α → β) (t : Tr α) : (t.map g).isNo = t.isNo := by cases t <;> rfl
theorem ok_map (g : α → β) : ∀ (t : Tr α) (d : Nat), (t.map g).ok d = t.ok d
  | .no, d => by cases d <;> rfl
  | .done, d => by cases d <;> rfl
  | .ask e p f, 0 => rfl
  | .ask e p f, d + 1 => by
    simp only [map, ok, isNo_map, ok_map g p d, ok_map g f d]
end Tr
abbrev Ck := Str × Int × Str
abbrev zDone : Str := Str.ofString "done"
abbrev zNone : Str := Str.ofString "none"
def ckW (c : Ck) : List Str := entWords c.1 c.2.1 c.2.2
def ckText (c : Ck) : Str := entText c.1 c.2.1 c.2.2
def RightC (c : Ck) : Prop := RightE c.1 c.2.1 c.2.2
def Tr.words : Tr Ck → List Str
  | .no => [zNone]
  | .done => [zDone]
  | .ask c p f => ckW c ++ (p.words ++ f.words)
def Tr.text : Tr Ck → Str
  | .no => zNone
  | .done => zDone
  | .ask c p f => Txt.join zBlank [ckText c, p.text, f.text]
def Tr.right : Tr Ck → Prop
  | .ask c p f => RightC c ∧ p.right ∧ f.right
  | _ => True
/-- how many checks -/
def Tr.size {α : Type} : Tr α → Nat
  | .ask _ p f => 1 + p.size + f.size
  | _ => 0
theorem Tr.words_ne (t : Tr Ck) : t.words ≠ [] := by
  cases t with
  | no => simp [Tr.words]
  | done => simp [Tr.words]
  | ask c p f => simp [Tr.words, ckW, entWords]
theorem joinL_app (S : List Nat) : ∀ (xs ys : List (List Nat)), xs ≠ [] → ys ≠ [] → TL.joinL S (xs ++ ys) = TL.joinL S xs ++ (S ++ TL.joinL S ys)
  | [], _, h, _ => absurd rfl h
  | [a], y :: ys, _, _ => rfl
  | [a], [], _, h => absurd rfl h
  | a :: b :: xs, ys, _, h => by
    show a ++ (S ++ TL.joinL S ((b :: xs) ++ ys)) = (a ++ (S ++ TL.joinL S (b :: xs))) ++ _
    rw [joinL_app S (b :: xs) ys (by simp) h]
    simp only [List.append_assoc]
theorem Tr.text_join : ∀ t : Tr Ck, Txt.join zBlank t.words = t.text
  | .no => by
    refine TL.ext_tl ?_
    rw [TL.join_eq, TL.tl_join]
    rfl
  | .done => by
    refine TL.ext_tl ?_
    rw [TL.join_eq, TL.tl_join]
    rfl
  | .ask c p f => by
    have h1 := congrArg TL.tl (ent_join c.1 c.2.1 c.2.2)
    have h2 := congrArg TL.tl p.text_join
    have h3 := congrArg TL.tl f.text_join
    refine TL.ext_tl ?_
    rw [TL.join_eq, TL.tl_join] at h1 h2 h3 ⊢
    show TL.joinL _ ((ckW c ++ (p.words ++ f.words)).map TL.tl) = TL.tl (Txt.join zBlank [ckText c, p.text, f.text])
    rw [TL.join_eq, TL.tl_join, List.map_append, List.map_append, joinL_app _ _ _ (by simp [ckW, entWords]) (by simp [p.words_ne]), joinL_app _ _ _ (by simp [p.words_ne]) (by simp [f.words_ne])]
    unfold ckW ckText
    rw [h1, h2, h3]
    rfl
theorem Tr.free {c : Nat} (hc : c < 48) : ∀ {t : Tr Ck}, t.right → ∀ w ∈ t.words, c ∉ TL.tl w
  | .no, _, w, hw => by
    rw [List.mem_singleton.mp hw]
    have e : (TL.tl zNone).all (fun c => decide (48 ≤ c)) = true := by decide +kernel
    intro m
    have := of_decide_eq_true (List.all_eq_true.mp e c m)
    omega
  | .done, _, w, hw => by
    rw [List.mem_singleton.mp hw]
    have e : (TL.tl zDone).all (fun c => decide (48 ≤ c)) = true := by decide +kernel
    intro m
    have := of_decide_eq_true (List.all_eq_true.mp e c m)
    omega
  | .ask k p f, h, w, hw => by
    rcases List.mem_append.mp hw with hw | hw
    · exact ent_free h.1.1 h.1.2.1 h.1.2.2.1 hc w hw
    · rcases List.mem_append.mp hw with hw | hw
      · exact Tr.free hc h.2.1 w hw
      · exact Tr.free hc h.2.2 w hw
theorem Tr.split {t : Tr Ck} (h : t.right) : Txt.split t.text zNl = [t.text] ∧ wordsOf t.text = t.words := by
  have e1 : Txt.split t.text zNl = [t.text] := by
    refine TL.split_join (y := zNl) (s := 10) (S := []) (by decide +kernel) (by decide +kernel) (parts := [t.text]) (by simp) (fun p hp => ?_)
    rw [List.mem_singleton.mp hp, ← t.text_join, TL.join_eq, TL.tl_join]
    intro m
    rcases joinL_mem m with m | ⟨q, hq, m⟩
    · have e : TL.tl zBlank = [32] := by decide +kernel
      rw [e] at m
      cases List.mem_singleton.mp m
    · obtain ⟨p, hp, rfl⟩ := List.mem_map.mp hq
      exact Tr.free (by decide) h p hp m
  refine ⟨e1, ?_⟩
  unfold wordsOf
  rw [e1]
  show Txt.split t.text zBlank = _
  rw [← t.text_join]
  exact TL.split_join (y := zBlank) (s := 32) (S := []) (by decide +kernel) (by decide +kernel) t.words_ne (Tr.free (by decide) h)
theorem or_no {t : Tr Ck} {d : Nat} (h : (t.isNo || t.ok d) = true) : t.isNo = true ∨ t.ok d = true := Bool.or_eq_true_iff.mp h
theorem Tr.text_len : ∀ (d : Nat) (t : Tr Ck), t.right → t.isNo = true ∨ t.ok d = true → t.text.length ≤ 67 * 2 ^ d - 63 ∧ Low t.text
  | d, .no, _, _ => ⟨by
    have e : (Tr.no : Tr Ck).text.length = 4 := by decide +kernel
    have : 1 ≤ 2 ^ d := Nat.one_le_two_pow
    omega, low_of (by decide +kernel)⟩
  | d, .done, _, _ => ⟨by
    have e : (Tr.done : Tr Ck).text.length = 4 := by decide +kernel
    have : 1 ≤ 2 ^ d := Nat.one_le_two_pow
    omega, low_of (by decide +kernel)⟩
  | 0, .ask c p f, _, h => by
    rcases h with h | h <;> cases h
  | d + 1, .ask c p f, r, h => by
    have h : ((p.isNo || p.ok d) && ((f.isNo || f.ok d) && !(p.isNo && f.isNo))) = true := h.resolve_left (by intro h; cases h)
    rw [Bool.and_eq_true, Bool.and_eq_true] at h
    obtain ⟨p1, p2⟩ := Tr.text_len d p r.2.1 (or_no h.1)
    obtain ⟨f1, f2⟩ := Tr.text_len d f r.2.2 (or_no h.2.1)
    have l1 := ent_len r.1
    have w1 := ent_low (i := c.2.1) r.1.1 r.1.2.1
    have one : 1 ≤ 2 ^ d := Nat.one_le_two_pow
    have w : Wt [ckText c, p.text, f.text] (60 + p.text.length + f.text.length + 3) := ⟨by
      simp only [List.map_cons, List.map_nil, List.sum_cons, List.sum_nil, List.length_cons, List.length_nil]
      have : (ckText c).length ≤ 60 := l1
      omega, fun y hy => by
      simp only [List.mem_cons, List.not_mem_nil, or_false] at hy
      rcases hy with rfl | rfl | rfl
      · exact w1
      · exact p2
      · exact f2⟩
    obtain ⟨j1, j2⟩ := wt_join w
    refine ⟨?_, j2⟩
    show (Txt.join zBlank [ckText c, p.text, f.text]).length ≤ _
    rw [Nat.pow_succ]
    omega
end Q
namespace Q
open PySem PySem.Spec PyProof.Rows L2
section
variable {X : Cx} {CX : CXT} {k j : Nat} {C : Addr} {sp : Sp} {E : XK} {o : Expr} {m : Str} {pos apos : Pos} {ta : TE} {pl : Sem Bool}
theorem pe_statD0 (he : PE X o ta) (D : StD X.prog X.w X.K X.mg X.base CX k C m sp) (hr : Room j X.A) (hx : Passes CX X E) (hj : k ≤ j := by decide)
    (ht : eval (.Call (.Attribute o m apos) [] [] pos) X.env = (do
      let ov ← eval o X.env
      standAt apos.atName
      let (f, first) ← holding [ov] (getMethod ov m pl)
      callWith pos f first (backTo pos (starEach [] X.env)) (backToKw pos (keywordEach [] X.env))) := by rfl) : PE X (.Call (.Attribute o m apos) [] [] pos) (tStat C sp E ta tNil) := by
  obtain ⟨mc, p, g, fd, ps, r, c, hb, F⟩ := D.ex
  refine ⟨fun pins s σ H Q I h => ?_⟩
  refine PySem.W.methodCall_KW (pl := pl) (thn (he.run pins s σ H _ I h) fun u s1 told => ?_) ht
  obtain ⟨x, H1, I1, rx, ex, q⟩ := told
  subst ex
  obtain rfl : u = Value.ref C := rx
  refine get_stat I1 r c fun s2 I2 => ?_
  exact PySem.W.callWith_K0 (first := []) I2.kIn c.kp (run_under (us := []) (vs := []) F (hr.mono hj) I2.env0 hb hx I2 .nil q)
end
def RdAt (G : Hp) : Tr Ck → V → Prop
  | .no, v => v = .non
  | .done, v => ∃ a, v = .ref a ∧ G a = some (.tup [])
  | .ask c p f, v => ∃ a b vp vf, v = .ref a ∧ G a = some (.tup [.ref b, vp, vf]) ∧ G b = some (.tup [.str c.1, .int c.2.1, .str c.2.2]) ∧ RdAt G p vp ∧ RdAt G f vf
theorem RdAt.same {G G' : Hp} (s : Same G G') : ∀ {t : Tr Ck} {v : V}, RdAt G t v → RdAt G' t v
  | .no, _, h => h
  | .done, _, ⟨a, e, h⟩ => ⟨a, e, s _ _ h⟩
  | .ask c p f, _, ⟨a, b, vp, vf, e, h1, h2, h3, h4⟩ => ⟨a, b, vp, vf, e, s _ _ h1, s _ _ h2, RdAt.same s h3, RdAt.same s h4⟩
theorem RdAt.non {G : Hp} {t : Tr Ck} {v : V} (h : RdAt G t v) : decide (v = .non) = t.isNo := by
  cases t with
  | no => rw [show v = .non from h] <;> rfl
  | done =>
    obtain ⟨a, rfl, _⟩ := h
    rfl
  | ask c p f =>
    obtain ⟨a, b, vp, vf, rfl, _⟩ := h
    rfl
structure PlC (K : PySem.W.Frag) (C : Addr) : Prop where
  c : Cls K C
  n1 : NoAttr K C "entry"
  n2 : NoAttr K C "own_passed"
  n3 : NoAttr K C "own_failed"
  n4 : NoAttr K C "below"
  n5 : NoAttr K C "each"
  ca : PySem.W.findIn K (.ref C) "__class__" = some (some (.builtin "object.__class__"))
  cn : PySem.W.specialIn K (.builtin "object.__class__") "__get__" = some (some (.builtin "getset_descriptor.__get__"))
  ct : PySem.W.takesIn K (.builtin "object.__class__") = some true
  cm : PySem.W.mroIn K C (.type "object") = some true
  me : PySem.W.kitOne K (.ref C) (.ref C) = some true
  fme : PySem.W.notFirst K C (.ref C) = true
  ki : PySem.W.kitOne K (.ref C) (.type "int") = some false
  kb : PySem.W.kitOne K (.ref C) (.type "bool") = some false
  ks : PySem.W.kitOne K (.ref C) (.type "str") = some false
  tup : PySem.W.kitOne K (.type "tuple") (.ref C) = some false
def planF (v1 v2 v3 : V) (b e : Addr) : List (Str × V) := [("entry", v1), ("own_passed", v2), ("own_failed", v3), ("below", .ref b), ("each", .ref e)]
/-- a plan, or None -/
def BrAt (C Ce : Addr) (G : Hp) : Tr Ck → V → Prop
  | .no, v => v = .non
  | .done, v => ∃ a dx bl el, v = .ref a ∧ G a = some (.ins C dx (planF .non .non .non bl el)) ∧ G bl = some (.lst []) ∧ G el = some (.lst [])
  | .ask c p f, v => ∃ a dx bl el en vp vf bs es, v = .ref a ∧ G a = some (.ins C dx (planF (.ref en) vp vf bl el)) ∧ G bl = some (.lst bs) ∧ G el = some (.lst es) ∧ es.length ≤ (Tr.ask c p f).size ∧ EntAt Ce G en c.1 c.2.1 c.2.2 ∧ BrAt C Ce G p vp ∧ BrAt C Ce G f vf
section
variable {K : PySem.W.Frag} {C Ce Ct : Addr} {G G' : Hp}
theorem BrAt.same (s : Same G G') : ∀ {t : Tr Ck} {v : V}, BrAt C Ce G t v → BrAt C Ce G' t v
  | .no, _, h => h
  | .done, _, ⟨a, dx, bl, el, e, h1, h2, h3⟩ => ⟨a, dx, bl, el, e, s _ _ h1, s _ _ h2, s _ _ h3⟩
  | .ask c p f, _, ⟨a, dx, bl, el, en, vp, vf, bs, es, e, h1, h2, h3, h4, h5, h6, h7⟩ => ⟨a, dx, bl, el, en, vp, vf, bs, es, e, s _ _ h1, s _ _ h2, s _ _ h3, h4, h5.same s, BrAt.same s h6, BrAt.same s h7⟩
theorem BrAt.non {t : Tr Ck} {v : V} (h : BrAt C Ce G t v) : decide (v = .non) = t.isNo := by
  cases t with
  | no => rw [show v = .non from h] <;> rfl
  | done =>
    obtain ⟨a, _, _, _, rfl, _⟩ := h
    rfl
  | ask c p f =>
    obtain ⟨a, _, _, _, _, _, _, _, _, rfl, _⟩ := h
    rfl
/-- what all plans have: an instance with the five fields -/
theorem BrAt.ins {t : Tr Ck} {v : V} (h : BrAt C Ce G t v) (n : t.isNo = false) : ∃ a dx v1 v2 v3 bl el es, v = .ref a ∧ G a = some (.ins C dx (planF v1 v2 v3 bl el)) ∧ G el = some (.lst es) ∧ es.length ≤ t.size := by
  cases t with
  | no => cases n
  | done =>
    obtain ⟨a, dx, bl, el, e, h1, h2, h3⟩ := h
    exact ⟨a, dx, _, _, _, bl, el, [], e, h1, h3, Nat.le_refl _⟩
  | ask c p f =>
    obtain ⟨a, dx, bl, el, en, vp, vf, bs, es, e, h1, h2, h3, h4, _⟩ := h
    exact ⟨a, dx, _, _, _, bl, el, es, e, h1, h3, h4⟩
theorem PlC.ty (S : PlC K C) {a dx : Addr} {fs : List (Str × V)} (h : G a = some (.ins C dx fs)) : TyX K G (.ref a) (.ref C) := .base (.ins h S.c S.ca S.cn S.ct S.cm)
theorem PlC.kd (S : PlC K C) {a dx : Addr} {fs : List (Str × V)} (h : G a = some (.ins C dx fs)) : Kd K G (.ref a) (.ref C) := ⟨S.ty h, S.ki, S.kb, S.ks⟩
def Tr.okB {α : Type} (t : Tr α) (d : Nat) : Bool := t.isNo || t.ok d
def spPlStr (C Ce : Addr) : Nat → Sp
  | 0 => fun _ _ _ _ => False
  | d + 1 => fun vs H Q _ => ∃ (G : Hp) (v1 : V) (t : Tr Ck), vs = [v1] ∧ d ≤ 4 ∧ Gh G H ∧ BrAt C Ce G t v1 ∧ t.ok d = true ∧ t.right ∧ Ret G H (fun r _ => r = .str t.text) Q
def Tr.sub {α : Type} (fst : Bool) : Tr α → Tr α
  | .ask _ p f => if fst = true then p else f
  | _ => .no
end
section
variable {K : PySem.W.Frag} {C Ce Ct : Addr} {e : En} {G H : Hp} {M : List Addr} {Q : VK} {E : XK}
theorem u_plStr {v : V} {t : Tr Ck} {d : Nat} (w : Wd e G H M) (h1 : BrAt C Ce G t v) (hd : d ≤ 4) (o : t.ok d = true) (r : t.right) (k : ∀ G' H', Wd e G' H' M → Same G G' → Same H H' → Q (.str t.text) H') : spPlStr C Ce (d + 1) [v] H Q E :=
  ⟨G, v, t, rfl, hd, w.gh, h1, o, r, ret_use w fun v G' H' w' s1 s2 p => by subst p; exact k G' H' w' s1 s2⟩
end
section
variable {K : PySem.W.Frag} {C Ce : Addr} {e : En} {G H : Hp} {M : List Addr} {Q : VK} {E : XK}
theorem Tr.sub_ok {t : Tr Ck} {i : Nat} (fst : Bool) (h : t.ok i = true) : (t.sub fst).isNo = true ∨ ∃ j, i = j + 1 ∧ (t.sub fst).ok j = true := by
  cases t with
  | no => exact .inl rfl
  | done => exact .inl rfl
  | ask c p f =>
    cases i with
    | zero => cases h
    | succ j =>
      have h : ((p.isNo || p.ok j) && ((f.isNo || f.ok j) && !(p.isNo && f.isNo))) = true := h
      rw [Bool.and_eq_true, Bool.and_eq_true] at h
      have a := Bool.or_eq_true_iff.mp h.1
      have b := Bool.or_eq_true_iff.mp h.2.1
      cases fst with
      | true => exact a.imp id fun a => ⟨j, rfl, a⟩
      | false => exact b.imp id fun b => ⟨j, rfl, b⟩
end
theorem size_ok {α : Type} : ∀ (d : Nat) (t : Tr α), t.okB d = true → t.size ≤ 2 ^ d - 1
  | d, .no, _ => Nat.zero_le _
  | d, .done, _ => Nat.zero_le _
  | 0, .ask c p f, h => by cases h
  | d + 1, .ask c p f, h => by
    have h : ((p.isNo || p.ok d) && ((f.isNo || f.ok d) && !(p.isNo && f.isNo))) = true := h
    rw [Bool.and_eq_true, Bool.and_eq_true] at h
    have a := size_ok d p h.1
    have b := size_ok d f h.2.1
    have : 1 ≤ 2 ^ d := Nat.one_le_two_pow
    show 1 + p.size + f.size ≤ _
    rw [Nat.pow_succ]
    omega
end Q
namespace Q
open PySem PySem.Spec PyProof.Rows L2
def rEqB (K : PySem.W.Frag) (C : Addr) (sp : Sp) (E : XK) : R2 := fun x y H Q => rEqX K x y H Q ∨ rEqI K C sp E x y H Q
def rNeB (K : PySem.W.Frag) (C : Addr) (sp : Sp) (E : XK) : R2 := fun x y H Q => rNeX K x y H Q ∨ rNeI K C sp E x y H Q
section
variable {X : Cx} {CX : CXT} {k j : Nat} {C : Addr} {sp : Sp} {E : XK}
theorem q_eqB (hu : X.A.units + 64 < cLine) (D : SpD X.prog X.w X.K X.mg X.base CX k C "__eq__" sp) (hr : Room j X.A) (hx : Passes CX X E) (hj : k ≤ j := by decide) : OpR X (compareOp .Eq) (rEqB X.K C sp E) := opr_or (q_eq hu) (q_eqD D hr hx hj)
theorem q_neB (hu : X.A.units + 64 < cLine) (hne : PySem.W.findIn X.K (.ref C) "__ne__" = some (some (.builtin "object.__ne__"))) (hm : PySem.W.mroIn X.K C (.type "object") = some true) (D : SpD X.prog X.w X.K X.mg X.base CX k C "__eq__" sp) (hr : Room j X.A) (hx : Passes CX X E)
    (hj : k + 1 ≤ j := by decide) : OpR X (compareOp .NotEq) (rNeB X.K C sp E) := opr_or (q_ne hu) (q_neD hne hm D hr hx hj)
end
def brs {α : Type} (p f : Tr α) : List (Tr α) := [p, f].filter fun t => !t.isNo
theorem brs_no {α : Type} (p f : Tr α) : ∀ t ∈ brs p f, t.isNo = false := fun t ht => by
  have := (List.mem_filter.mp ht).2
  simpa using this
theorem sum_take (ns : List Nat) {i n : Nat} (h : ns[i]? = some n) : (ns.take (i + 1)).sum = (ns.take i).sum + n := by
  rw [take_snoc h, List.sum_append, List.sum_singleton]
theorem sum_le (ns : List Nat) (i : Nat) : (ns.take i).sum ≤ ns.sum := by
  conv => rhs; rw [← List.take_append_drop i ns, List.sum_append]
  exact Nat.le_add_right _ _
end Q
namespace Q
open PySem PySem.Spec PyProof.Rows L2
theorem Tr.len_le {t : Tr Ck} {i : Nat} (r : t.right) (hi : i ≤ 4) (o : t.isNo = true ∨ ∃ j, i = j + 1 ∧ t.ok j = true) : t.text.length ≤ 1100 ∧ Low t.text := by
  rcases o with o | ⟨j, rfl, o⟩
  · obtain ⟨a, b⟩ := Tr.text_len 0 t r (.inl o)
    exact ⟨by omega, b⟩
  · obtain ⟨a, b⟩ := Tr.text_len j t r (.inr o)
    have : 2 ^ j ≤ 2 ^ 4 := Nat.pow_le_pow_right (by decide) (by omega)
    have e : 2 ^ 4 = 16 := rfl
    exact ⟨by omega, b⟩
end Q
namespace Q
open PySem PySem.Spec PyProof.Rows L2
def LtAt (G : Hp) : Tr Nat → V → Prop
  | .no, v => v = .non
  | .done, v => v = .str zDone
  | .ask k p f, v => ∃ a vp vf, v = .ref a ∧ G a = some (.tup [.int (k : Int), vp, vf]) ∧ k < 3 ∧ LtAt G p vp ∧ LtAt G f vf
theorem LtAt.same {G G' : Hp} (s : Same G G') : ∀ {t : Tr Nat} {v : V}, LtAt G t v → LtAt G' t v
  | .no, _, h => h
  | .done, _, h => h
  | .ask k p f, _, ⟨a, vp, vf, e, h1, h2, h3, h4⟩ => ⟨a, vp, vf, e, s _ _ h1, h2, LtAt.same s h3, LtAt.same s h4⟩
theorem LtAt.non {G : Hp} {t : Tr Nat} {v : V} (h : LtAt G t v) : decide (v = .non) = t.isNo := by
  cases t with
  | no => rw [show v = .non from h] <;> rfl
  | done => rw [show v = .str zDone from h] <;> rfl
  | ask k p f =>
    obtain ⟨a, vp, vf, rfl, _⟩ := h
    rfl
def treeD : Tr Nat → PyData
  | .no => .none
  | .done => .str zDone
  | .ask k p f => .tuple [.int (k : Int), treeD p, treeD f]
theorem LtAt.dp {K : PySem.W.Frag} {G : Hp} : ∀ {t : Tr Nat} {v : V}, LtAt G t v → Dp K G v (treeD t)
  | .no, v, h => by rw [show v = .non from h]; exact .non
  | .done, v, h => by rw [show v = .str zDone from h]; exact .str _
  | .ask k p f, v, ⟨a, vp, vf, e, h1, h2, h3, h4⟩ => by
    rw [e]
    exact .tup (SqT.of h1) (.cons (.int _) (.cons (LtAt.dp h3) (.cons (LtAt.dp h4) .nil)))
theorem treeD_lay : ∀ t : Tr Nat, (treeD t).canLay0 = true
  | .no => by simp [treeD, PyData.canLay0]
  | .done => by
    have e : PyData.strOk zDone = true := by decide +kernel
    simp [treeD, PyData.canLay0, e]
  | .ask k p f => by simp [treeD, PyData.canLay0, PyData.canLayAll0, treeD_lay p, treeD_lay f]
theorem treeD_depth : ∀ (d : Nat) (t : Tr Nat), t.okB d = true → (treeD t).depth ≤ d
  | d, .no, _ => by simp [treeD, PyData.depth]
  | d, .done, _ => by simp [treeD, PyData.depth]
  | 0, .ask k p f, h => by cases h
  | d + 1, .ask k p f, h => by
    have h : ((p.isNo || p.ok d) && ((f.isNo || f.ok d) && !(p.isNo && f.isNo))) = true := h
    rw [Bool.and_eq_true, Bool.and_eq_true] at h
    have a := treeD_depth d p h.1
    have b := treeD_depth d f h.2.1
    simp only [treeD, PyData.depth, PyData.depthAll]
    omega
theorem treeD_shaped {t : Tr Nat} {d : Nat} (hd : d ≤ 4) (h : t.okB d = true) : SeqAt.shaped (treeD t) = true := by
  have a := treeD_depth d t h
  unfold SeqAt.shaped
  rw [treeD_lay, decide_eq_true (by omega : (treeD t).depth ≤ 64)] <;> rfl
theorem treeD_done {t : Tr Nat} (n : t.isNo = false) : PyData.eqv (treeD t) (.str zDone) = (match t with | .done => true | _ => false) := by
  cases t with
  | no => cases n
  | done => simp [treeD, PyData.eqv]
  | ask k p f => simp [treeD, PyData.eqv]
theorem shaped_done : SeqAt.shaped (.str zDone) = true := by decide +kernel
def costT (d : Nat) : Nat := 3 * (2 ^ d - 1)
theorem costT_succ (d : Nat) : costT (d + 1) = 3 + 2 * costT d := by
  unfold costT
  have : 1 ≤ 2 ^ d := Nat.one_le_two_pow
  rw [Nat.pow_succ]
  omega
def spLTree : Nat → Sp
  | 0 => fun _ _ _ _ => False
  | d + 1 => fun vs H Q _ => ∃ (G : Hp) (p c : Addr) (n : Nat), vs = [.ref p, .int 3, .int (d : Int)] ∧ d ≤ 4 ∧ Gh G H ∧ G p = none ∧ Cells c G ∧ PenAt p c n H ∧ n + costT d ≤ 1000000 ∧ RetP p c (n + costT d) G H (fun v G' => ∃ t, LtAt G' t v ∧ t.ok d = true) Q
def ckOf (a b c : Ck) : Nat → Ck
  | 0 => a
  | 1 => b
  | _ => c
def ChecksAt (Ce : Addr) (G : Hp) (l : Addr) (g : Nat → Ck) : Prop := ∃ e0 e1 e2, G l = some (.lst [.ref e0, .ref e1, .ref e2]) ∧ EntAt Ce G e0 (g 0).1 (g 0).2.1 (g 0).2.2 ∧ EntAt Ce G e1 (g 1).1 (g 1).2.1 (g 1).2.2 ∧ EntAt Ce G e2 (g 2).1 (g 2).2.1 (g 2).2.2
theorem ChecksAt.same {Ce l : Addr} {G G' : Hp} {g : Nat → Ck} (h : ChecksAt Ce G l g) (s : Same G G') : ChecksAt Ce G' l g := by
  obtain ⟨a, b, c, h1, h2, h3, h4⟩ := h
  exact ⟨a, b, c, s _ _ h1, h2.same s, h3.same s, h4.same s⟩
theorem ChecksAt.get {Ce l : Addr} {G : Hp} {g : Nat → Ck} {k : Nat} (h : ChecksAt Ce G l g) (hk : k < 3) : ∃ e xs, G l = some (.lst xs) ∧ atI xs (k : Int) = some (.ref e) ∧ EntAt Ce G e (g k).1 (g k).2.1 (g k).2.2 := by
  obtain ⟨a, b, c, h1, h2, h3, h4⟩ := h
  match k, hk with
  | 0, _ => exact ⟨a, _, h1, rfl, h2⟩
  | 1, _ => exact ⟨b, _, h1, rfl, h3⟩
  | 2, _ => exact ⟨c, _, h1, rfl, h4⟩
def WsL (G : Hp) (p : Addr) (ws : List Str) : Prop := G p = some (.lst (ws.map V.str)) ∧ ws.length ≤ 100000 ∧ ∀ z ∈ ws, z.length ≤ 1000000 ∧ PyData.strOk z = true
theorem WsL.same {G G' : Hp} {p : Addr} {ws : List Str} (h : WsL G p ws) (s : Same G G') : WsL G' p ws := ⟨s _ _ h.1, h.2⟩
section
variable {K : PySem.W.Frag} {C Ce : Addr} {e : En} {G H : Hp} {M : List Addr} {Q : VK} {E : XK}
theorem u_lTree {p c : Addr} {n d : Nat} {dv : Int} (w : Wd e G H M) (hm : p ∈ M) (hc : Cells c G) (P : PenAt p c n H) (hn : n + costT d ≤ 1000000) (hd : d ≤ 4) (hv : dv = (d : Int))
    (k : ∀ v t G' H', Wd e G' H' M → Same G G' → But p H H' → PenAt p c (n + costT d) H' → LtAt G' t v → t.ok d = true → Q v H') : spLTree (d + 1) [.ref p, .int 3, .int dv] H Q E :=
  ⟨G, p, c, n, by rw [hv], hd, w.gh, (w.mu p hm).1, hc, P, hn, retP_use w hm fun v G' H' w' s b P' ⟨t, h1, h2⟩ => k v t G' H' w' s b P' h1 h2⟩
end
end Q
namespace Q
open PySem PySem.Spec PyProof.Rows L2
end Q
namespace Q
open PySem PySem.Spec PyProof.Rows L2
end Q
namespace Q
open PySem PySem.Spec PyProof.Rows L2
theorem FnR.le {P : Program} {w : World} {K : PySem.W.Frag} {mg : Str → Option Value} {base : Heap} {CX : CXT} {j k : Nat} {f : Addr} {sp : Sp} (F : FnR P w K mg base CX j f sp) (h : j ≤ k) : FnR P w K mg base CX k f sp :=
  fun A outer s H us vs Q E hr => F A outer s H us vs Q E (hr.mono h)
end Q
namespace Q
open PySem PySem.Spec PyProof.Rows L2
abbrev Fc := Str × Int × Bool
abbrev Sx := Fc × Fc × V
abbrev zTime : Str := "time"
def reasonV : V → Bool
  | .str z => decide (z = zTime)
  | .int n => decide (0 ≤ n)
  | _ => false
def fcD (f : Fc) : PyData := faceD f.1 f.2.1 f.2.2
/-- a class as all these are -/
structure ClC (K : PySem.W.Frag) (C : Addr) : Prop where
  c : Cls K C
  ca : PySem.W.findIn K (.ref C) "__class__" = some (some (.builtin "object.__class__"))
  cn : PySem.W.specialIn K (.builtin "object.__class__") "__get__" = some (some (.builtin "getset_descriptor.__get__"))
  ct : PySem.W.takesIn K (.builtin "object.__class__") = some true
  cm : PySem.W.mroIn K C (.type "object") = some true
  me : PySem.W.kitOne K (.ref C) (.ref C) = some true
  no : ∀ n ∈ ["NoneType", "int", "bool", "str", "list", "tuple", "dict"], PySem.W.kitOne K (.type n) (.ref C) = some false
  fme : PySem.W.notFirst K C (.ref C) = true
  fno : ∀ n ∈ ["NoneType", "int", "bool", "str", "list", "tuple", "dict"], PySem.W.notFirst K C (.type n) = true
theorem ClC.ty {K : PySem.W.Frag} {C a dx : Addr} {G : Hp} {fs : List (Str × V)} (S : ClC K C) (h : G a = some (.ins C dx fs)) : TyX K G (.ref a) (.ref C) := .base (.ins h S.c S.ca S.cn S.ct S.cm)
/-- a value of a kind of the language -/
def Plain (K : PySem.W.Frag) (G : Hp) (v : V) : Prop := ∃ n ∈ ["NoneType", "int", "bool", "str", "list", "tuple", "dict"], TyX K G v (.type n)
theorem Plain.same {K : PySem.W.Frag} {G G' : Hp} {v : V} (h : Plain K G v) (s : Same G G') : Plain K G' v := by
  obtain ⟨n, h1, h2⟩ := h
  exact ⟨n, h1, same_ty s h2⟩
theorem ClC.noK {K : PySem.W.Frag} {C : Addr} {G : Hp} {v : V} (S : ClC K C) (h : Plain K G v) : ∃ t, TyX K G v t ∧ PySem.W.kitOne K t (.ref C) = some false ∧ PySem.W.notFirst K C t = true := by
  obtain ⟨n, h1, h2⟩ := h
  exact ⟨_, h2, S.no n h1, S.fno n h1⟩
abbrev stepF (x y r : V) : List (Str × V) := [("one", x), ("other", y), ("reason", r)]
/-- a value as a saying, or as none -/
def sayO (K : PySem.W.Frag) (Cs : Addr) (G : Hp) (v : V) : Option Fc → Prop
  | some f => ∃ a, v = .ref a ∧ SayAt Cs G a f.1 f.2.1 f.2.2
  | none => ∃ t, TyX K G v t ∧ PySem.W.kitOne K t (.ref Cs) = some false
theorem sayO.same {K : PySem.W.Frag} {Cs : Addr} {G G' : Hp} {v : V} (s : Same G G') : ∀ {o : Option Fc}, sayO K Cs G v o → sayO K Cs G' v o
  | some f, ⟨a, e, h⟩ => ⟨a, e, h.same s⟩
  | none, ⟨t, h, k⟩ => ⟨t, same_ty s h, k⟩
/-- a step at a -/
def StepAt (C Cs : Addr) (G : Hp) (a : Addr) (p : Sx) : Prop := ∃ dx x y, G a = some (.ins C dx (stepF (.ref x) (.ref y) p.2.2)) ∧ SayAt Cs G x p.1.1 p.1.2.1 p.1.2.2 ∧ SayAt Cs G y p.2.1.1 p.2.1.2.1 p.2.1.2.2 ∧ reasonV p.2.2 = true
theorem StepAt.same {C Cs a : Addr} {G G' : Hp} {p : Sx} (h : StepAt C Cs G a p) (s : Same G G') : StepAt C Cs G' a p := by
  obtain ⟨dx, x, y, h1, h2, h3, h4⟩ := h
  exact ⟨dx, x, y, s _ _ h1, h2.same s, h3.same s, h4⟩
def IsStep (C Cs : Addr) (G : Hp) (v : V) (p : Sx) : Prop := ∃ a, v = .ref a ∧ StepAt C Cs G a p
theorem IsStep.same {C Cs : Addr} {G G' : Hp} {v : V} {p : Sx} (h : IsStep C Cs G v p) (s : Same G G') : IsStep C Cs G' v p := by
  obtain ⟨a, e, h⟩ := h
  exact ⟨a, e, h.same s⟩
abbrev StepsIn (C Cs : Addr) (G : Hp) (xs : List V) (L : List Sx) : Prop := Paired (fun v p => IsStep C Cs G v p) xs L
theorem StepsIn.same {C Cs : Addr} {G G' : Hp} {xs : List V} {L : List Sx} (h : StepsIn C Cs G xs L) (s : Same G G') : StepsIn C Cs G' xs L := Paired.mapP h fun _ _ b => b.same s
/-- a value as a step, or as none -/
def stepO (K : PySem.W.Frag) (C Cs : Addr) (G : Hp) (v : V) : Option Sx → Prop
  | some p => IsStep C Cs G v p
  | none => ∃ t, TyX K G v t ∧ PySem.W.kitOne K t (.ref C) = some false
theorem stepO.same {K : PySem.W.Frag} {C Cs : Addr} {G G' : Hp} {v : V} (s : Same G G') : ∀ {o : Option Sx}, stepO K C Cs G v o → stepO K C Cs G' v o
  | some p, h => IsStep.same h s
  | none, ⟨t, h, k⟩ => ⟨t, same_ty s h, k⟩
def Meets : List Sx → Prop
  | p :: q :: r => p.2.1 = q.1 ∧ Meets (q :: r)
  | _ => True
def ChainAt (Cc C Cs : Addr) (G : Hp) (a : Addr) (L : List Sx) : Prop := ∃ dx t xs, G a = some (.ins Cc dx [("own_steps", .ref t)]) ∧ G t = some (.tup xs) ∧ StepsIn C Cs G xs L ∧ L ≠ [] ∧ L.length ≤ 60
theorem ChainAt.same {Cc C Cs a : Addr} {G G' : Hp} {L : List Sx} (h : ChainAt Cc C Cs G a L) (s : Same G G') : ChainAt Cc C Cs G' a L := by
  obtain ⟨dx, t, xs, h1, h2, h3, h4⟩ := h
  exact ⟨dx, t, xs, s _ _ h1, s _ _ h2, h3.same s, h4⟩
theorem Meets.tail {p : Sx} {L : List Sx} (m : Meets (p :: L)) : Meets L := by
  cases L with
  | nil => trivial
  | cons q L => exact m.2
theorem Meets.take : ∀ {L : List Sx} (n : Nat), Meets L → Meets (L.take n)
  | _, 0, _ => by rw [List.take_zero]; trivial
  | [], n + 1, _ => trivial
  | [p], n + 1, _ => by cases n <;> trivial
  | p :: q :: r, 1, _ => trivial
  | p :: q :: r, n + 2, m => ⟨m.1, Meets.take (L := q :: r) (n + 1) m.2⟩
theorem Meets.drop : ∀ {L : List Sx} (n : Nat), Meets L → Meets (L.drop n)
  | L, 0, m => m
  | [], n + 1, _ => trivial
  | p :: L, n + 1, m => Meets.drop (L := L) n m.tail
theorem Meets.at_ : ∀ {L : List Sx}, Meets L → ∀ i p q, L[i]? = some p → L[i + 1]? = some q → p.2.1 = q.1
  | [], _, i, p, q, e, _ => by simp at e
  | [p], _, 0, _, q, _, e => by simp at e
  | [p], _, i + 1, _, _, e, _ => by simp at e
  | p :: q :: r, m, 0, a, b, e1, e2 => by
    simp at e1 e2
    subst e1 e2
    exact m.1
  | p :: q :: r, m, i + 1, a, b, e1, e2 => Meets.at_ (L := q :: r) m.2 i a b (by simpa using e1) (by simpa using e2)
theorem reason_kd {K : PySem.W.Frag} {G : Hp} {r : V} (h : reasonV r = true) : ∃ u, Kd K G r u := by
  cases r with
  | str z => exact ⟨_, kd_str z⟩
  | int n => exact ⟨_, kd_int n⟩
  | _ => cases h
theorem SayAt.ins {C a : Addr} {G : Hp} {z : Str} {i : Int} {b : Bool} (h : SayAt C G a z i b) : ∃ dx fs, G a = some (.ins C dx fs) := by
  obtain ⟨_, dx, fc, h, _⟩ := h
  exact ⟨dx, _, h⟩
end Q
namespace Q
open PySem PySem.Spec PyProof.Rows L2
end Q
namespace Q
open PySem PySem.SeqAt
open AutoSeq1 (wpAny_loadPart')
open MeetsSeq MeetsSeq2 MeetsSeq3 SeqRoads2
end Q
namespace Q
open PySem PySem.Spec PyProof.Rows L2
/-- what == of two values answers, by the abstract heap -/
abbrev EqvB := V → V → Bool → Hp → Prop
def EqGB (X : Cx) (n : Nat) (D : EqvB) : Prop :=
  ∀ (A : Around) (pins : List (Addr × Obj)) (s : Shared) (σ : L2.St) (H : Hp) (x y : V) (u v : Value) (r : Bool), Sub X n A → Inv X pins σ H s → RelV x u → RelV y v → D x y r H →
    wpAny (model X.prog X.w) A (eqBool u v) (fun r' s' => r' = r ∧ ∃ H', Inv X pins σ H' s' ∧ Same H H') X.xe s
theorem EqGB.imp {X : Cx} {n : Nat} {D D' : EqvB} (h : EqGB X n D) (hd : ∀ x y r H, D' x y r H → D x y r H) : EqGB X n D' := fun A pins s σ H x y u v r sb I rx ry d => h A pins s σ H x y u v r sb I rx ry (hd x y r H d)
end Q
namespace Q
open PySem PySem.Spec PyProof.Rows L2
theorem while_go {c : TT} {tb : TS} {D : Ends} {σ : L2.St} {H : Hp} (W : Nat → L2.St → Hp → Prop) (m0 : Nat) (h0 : W m0 σ H)
    (hs : ∀ m σ H, W m σ H → c σ H fun b H1 => if b = true then tb { D with nx := fun σ' H' => ∃ m', m' < m ∧ W m' σ' H', ct := fun σ' H' => ∃ m', m' < m ∧ W m' σ' H', bk := D.nx } σ H1 else D.nx σ H1)
    (mono : ∀ σ H (Q Q' : Bool → Hp → Prop), (∀ b H1, Q b H1 → Q' b H1) → c σ H Q → c σ H Q') : tWhile c tb D σ H := by
  refine ⟨W, ⟨m0, h0⟩, fun m σ H h => mono σ H _ _ (fun b H1 h1 => ?_) (hs m σ H h)⟩
  cases b with
  | true => exact ⟨_, fun σ' H' z => z, h1⟩
  | false => exact h1
def FcAt (G : Hp) (v : V) (f : Fc) : Prop := (∃ a, v = .ref a ∧ G a = some (.tup [.str f.1, .int f.2.1, .bl f.2.2])) ∧ Right f.1 f.2.1
theorem FcAt.same {G G' : Hp} {v : V} {f : Fc} (h : FcAt G v f) (s : Same G G') : FcAt G' v f := by
  obtain ⟨⟨a, e, h⟩, r⟩ := h
  exact ⟨⟨a, e, s _ _ h⟩, r⟩
def causeOk (r : V) : Prop := r = .str zTime ∨ ∃ n, r = .int n ∧ 0 ≤ n ∧ n ≤ 100000000000000000000000000000 ∧ n ≠ 5
theorem causeOk.reason {r : V} (h : causeOk r) : reasonV r = true := by
  rcases h with rfl | ⟨n, rfl, h, _⟩
  · rfl
  · exact decide_eq_true h
theorem causeOk.most {r : V} (h : causeOk r) : ∀ n, r = .int n → n ≤ 1000000000000000000000000000000 := fun n e => by
  rcases h with rfl | ⟨m, rfl, _, h, _⟩
  · cases e
  · cases e; omega
def PartIs (G : Hp) (v : V) (p : Sx) : Prop := ∃ a x y, v = .ref a ∧ G a = some (.tup [x, y, p.2.2]) ∧ FcAt G x p.1 ∧ FcAt G y p.2.1 ∧ causeOk p.2.2
theorem PartIs.same {G G' : Hp} {v : V} {p : Sx} (h : PartIs G v p) (s : Same G G') : PartIs G' v p := by
  obtain ⟨a, x, y, e, h1, h2, h3, h4⟩ := h
  exact ⟨a, x, y, e, s _ _ h1, h2.same s, h3.same s, h4⟩
abbrev PartsIn (G : Hp) (xs : List V) (L : List Sx) : Prop := Paired (fun v p => PartIs G v p) xs L
def PrtAt (G : Hp) (l : Addr) (L : List Sx) : Prop := ∃ xs, G l = some (.lst xs) ∧ PartsIn G xs L ∧ 1 ≤ L.length ∧ L.length ≤ 5
theorem PrtAt.same {G G' : Hp} {l : Addr} {L : List Sx} (h : PrtAt G l L) (s : Same G G') : PrtAt G' l L := by
  obtain ⟨xs, h1, h2, h3⟩ := h
  exact ⟨xs, s _ _ h1, Paired.mapP h2 fun _ _ b => b.same s, h3⟩
def reaD : V → PyData
  | .str z => .str z
  | .int n => .int n
  | _ => .none
def partD (p : Sx) : PyData := .tuple [fcD p.1, fcD p.2.1, reaD p.2.2]
theorem FcAt.dq {K : PySem.W.Frag} {G : Hp} {v : V} {f : Fc} (h : FcAt G v f) : Dq K G v (fcD f) := by
  obtain ⟨⟨a, rfl, h⟩, _⟩ := h
  exact .tup (SqT.of h) (.cons (.str _) (.cons (.int _) (.cons (.bl _) .nil)))
theorem FcAt.dp {K : PySem.W.Frag} {G : Hp} {v : V} {f : Fc} (h : FcAt G v f) : Dp K G v (fcD f) := by
  obtain ⟨⟨a, rfl, h⟩, _⟩ := h
  exact .tup (SqT.of h) (.cons (.str _) (.cons (.int _) (.cons (.bl _) .nil)))
theorem rea_dq {K : PySem.W.Frag} {G : Hp} {r : V} (h : causeOk r) : Dq K G r (reaD r) := by
  rcases h with rfl | ⟨n, rfl, _⟩
  · exact .str _
  · exact .int _
theorem PartIs.dq {K : PySem.W.Frag} {G : Hp} {v : V} {p : Sx} (h : PartIs G v p) : Dq K G v (partD p) := by
  obtain ⟨a, x, y, rfl, h1, h2, h3, h4⟩ := h
  exact .tup (SqT.of h1) (.cons h2.dq (.cons h3.dq (.cons (rea_dq h4) .nil)))
end Q
namespace Q
open PySem PySem.Spec PyProof.Rows L2
abbrev FcsIn (G : Hp) (xs : List V) (fs : List Fc) : Prop := Paired (fun v f => FcAt G v f) xs fs
theorem FcsIn.same {G G' : Hp} {xs : List V} {fs : List Fc} (h : FcsIn G xs fs) (s : Same G G') : FcsIn G' xs fs := Paired.mapP h fun _ _ b => b.same s
theorem PartsIn.same {G G' : Hp} {xs : List V} {L : List Sx} (h : PartsIn G xs L) (s : Same G G') : PartsIn G' xs L := Paired.mapP h fun _ _ b => b.same s
theorem PartIs.but {G : Hp} {l : Addr} {o : HO} {v : V} {f : Fc} (h : FcAt G v f) (hl : ∀ ys, G l ≠ some (.tup ys)) : FcAt (upd G l o) v f := by
  obtain ⟨⟨a, e, h⟩, r⟩ := h
  refine ⟨⟨a, e, ?_⟩, r⟩
  rw [upd_ne fun z => hl _ (by rw [← z]; exact h)]
  exact h
theorem causeOk.kd {K : PySem.W.Frag} {G : Hp} {r : V} (h : causeOk r) : ∃ u, Kd K G r u := reason_kd h.reason
end Q
namespace Q
open PySem PySem.Spec PyProof.Rows L2
section
variable {K : PySem.W.Frag} {Cc C Cs Cb : Addr} {e : En} {G H : Hp} {M : List Addr} {Q : VK} {E : XK}
theorem StepAt.ins {a : Addr} {p : Sx} (h : StepAt C Cs G a p) : ∃ dx fs, G a = some (.ins C dx fs) := by
  obtain ⟨dx, x, y, h, _⟩ := h
  exact ⟨dx, _, h⟩
theorem ChainAt.ins {a : Addr} {L : List Sx} (h : ChainAt Cc C Cs G a L) : ∃ dx fs, G a = some (.ins Cc dx fs) := by
  obtain ⟨dx, t, xs, h, _⟩ := h
  exact ⟨dx, _, h⟩
theorem plain_str (z : Str) : Plain K G (.str z) := ⟨"str", by simp, .base (.str z)⟩
theorem plain_int (n : Int) : Plain K G (.int n) := ⟨"int", by simp, .base (.int n)⟩
theorem plain_non : Plain K G .non := ⟨"NoneType", by simp, .base .non⟩
theorem plain_tup {a : Addr} {xs : List V} (h : G a = some (.tup xs)) : Plain K G (.ref a) := ⟨"tuple", by simp, .base (.tup h)⟩
theorem plain_lst {a : Addr} {xs : List V} (h : G a = some (.lst xs)) : Plain K G (.ref a) := ⟨"list", by simp, .base (.lst h)⟩
theorem plain_dK {a : Addr} {ds : List ((Int ⊕ Str) × V)} (h : G a = some (.dK ds)) : Plain K G (.ref a) := by
  obtain ⟨t, k⟩ := (⟨_, kd_dK h⟩ : ∃ t, Kd K G (.ref a) t)
  exact ⟨"dict", by simp, (kd_dK h).ty⟩
end
end Q
namespace Q
open PySem PySem.Spec PyProof.Rows L2
/-- the object at c is a code of the name q, with its table at P -/
def CodeT (c : Addr) (q : Str) (P : Addr) : HO := .ext fun h => PySem.W.CodeHd h c P ∧ ∃ (oc : Obj) (vs : Array Value) (t : Tok), h.get? c = some oc ∧ oc.data = .fields vs ∧ vs[1]? = some (.str q t)
theorem codeT_ne {c P : Addr} {q : Str} (ps : Array Value) : CodeT c q P ≠ .tbl ps := fun z => by
  unfold CodeT at z
  cases z
/-- what is there behind the making: the code, its own table -/
structure Fresh2 (s : Shared) (h' : Heap) (qual : Str) (pos : Pos) (ps : Array Value) (P c' P' : Addr) : Prop where
  ext : Heap.ExtBut P s.heap h'
  gc : s.heap.objs.size ≤ c'
  lc : c' < h'.objs.size
  gp : s.heap.objs.size ≤ P'
  nm : h'.CodeRec (.ref c') qual
  tab : h'.get? P = some (PySem.W.tabObj (ps ++ #[rawInt pos.line, rawInt pos.col, .ref c']))
  hd : PySem.W.CodeHd h' c' P'
  own : h'.get? P' = some (PySem.W.tabObj #[])
theorem make_lam {M : Model} {A : Around} {E : Value → Shared → Prop} {s : Shared} {name qual : Str} {params : Arguments} {body : Expr} {scope : Scope} {env : Env} {c P : Addr} {ps : Array Value} {pos : Pos} {firstLine : Nat} {mg : Str → Option Value} {clos : List (Str × Addr)} {Q : Value → Shared → Prop}
    (cl : closureFor scope env = pure clos) (g0 : env.globals = mainGlobals) (ns : s.heap.Ns mainGlobals mg) (ec : env.code = .ref c) (C : PySem.W.CodeHd s.heap c P) (tP : s.heap.get? P = some (PySem.W.tabObj ps)) (tr : TriplesOk ps.toList)
    (nf : codeAmong pos ps.toList = none) (gP : mainGlobals ≠ P) (bt : s.heap.BuiltinsAt mg P)
    (k : ∀ c' P' ctv h' tk, Fresh2 s h' qual pos ps P c' P' → Q (.ref h'.objs.size) { s with heap := h'.push (PySem.W.kla_obj name qual params body scope clos ((mg "__name__").getD .none) c' ctv), toks := tk }) :
    wpAny M A (makeFunction name qual params (.expr body) scope env [] [] [] pos firstLine) Q E s := by
  obtain ⟨m0, o0, x1, x2, _, x3, x4, x5, x6, x7⟩ := bt
  rw [makeFunction_eq]
  simp only [pure_bind, List.isEmpty_nil, List.filterMap_nil, List.zip_nil_right, if_true]
  unfold makeTail
  rw [cl, g0]
  refine wpAny_bind (wpAny_pure ?_)
  have fin : ∀ {s1 : Shared}, (∀ b o, s.heap.get? b = some o → s1.heap.get? b = some o) → s.heap.objs.size ≤ s1.heap.objs.size → ∀ (c' : Addr) (h' : Heap), Heap.ExtBut P s1.heap h' → s1.heap.objs.size ≤ c' → c' < h'.objs.size → h'.CodeRec (.ref c') qual →
      h'.TableAt c P (ps ++ #[rawInt pos.line, rawInt pos.col, .ref c']) → (∃ P', s1.heap.objs.size ≤ P' ∧ h'.IsCode c' P' #[] ∧ h'.TableAt c' P' #[]) → ∃ P', Fresh2 s h' qual pos ps P c' P' :=
    fun {s1} kp sz c' h' hx y1 y2 y3 y4 ⟨P', z1, z2, z3⟩ => ⟨P', fun b o hb e => hx b o hb (kp b o e), Nat.le_trans sz y1, y2, Nat.le_trans sz z1, y3, y4.2, .of z2 z3, z3.2⟩
  cases clos with
  | nil =>
    simp only [if_true, List.isEmpty_nil]
    refine wpAny_bind (wpAny_pure (wpAny_bind (wpAny_functionCodeX ec (C.code tP tr) (C.tab tP) nf fun c' h' tk hx y1 y2 _ y3 y4 y5 => ?_)))
    obtain ⟨P', F⟩ := fin (s1 := s) (fun _ _ e => e) (Nat.le_refl _) c' h' hx y1 y2 y3 y4 y5
    have nsh := ns.extBut F.ext gP
    exact wpAny_bind (wpAny_builtinsFor nsh x1 x2 (F.ext _ _ x3 x4) x5 x6 x7 (wpAny_bind (wpAny_nsGet nsh (wpAny_bind (wpAny_pure (wpAny_newObj_type (k c' P' .none h' tk F) (by size_fits)))))))
  | cons q r =>
    simp only [Bool.false_eq_true, List.isEmpty_cons, if_false]
    have kp : ∀ oT : Obj, ∀ b o, s.heap.get? b = some o → (s.heap.push oT).get? b = some o := fun oT b o e => Heap.get?_push_of_some _ e
    have up : ∀ oT : Obj, s.heap.objs.size ≤ (s.heap.push oT).objs.size := fun oT => by rw [Heap.size_push]; omega
    refine wpAny_bind (wpAny_newTextTuple (wpAny_bind (wpAny_functionCodeX ec ((C.keeps (kp _)).code (kp _ _ _ tP) tr) ((C.keeps (kp _)).tab (kp _ _ _ tP)) nf fun c' h' tk hx y1 y2 _ y3 y4 y5 => ?_)))
    obtain ⟨P', F⟩ := fin (s1 := { s with heap := s.heap.push _ }) (kp _) (up _) c' h' hx y1 y2 y3 y4 y5
    have nsh := ns.extBut F.ext gP
    exact wpAny_bind (wpAny_builtinsFor nsh x1 x2 (F.ext _ _ x3 x4) x5 x6 x7 (wpAny_bind (wpAny_nsGet nsh (wpAny_bind (wpAny_pure (wpAny_newObj_type (k c' P' _ h' tk F) (by size_fits)))))))
/-- the three that change: the maker's table, the code, the code's own table -/
def lamH (H : Hp) (P : Addr) (ps : Array Value) (c : Addr) (q : Str) (P' : Addr) : Hp := upd (upd (upd H P (.tbl ps)) P' (.tbl #[])) c (CodeT c q P')
section
variable {X : Cx} {pins : List (Addr × Obj)} {σ : L2.St} {H : Hp} {s : Shared}
theorem inv_lamT {P c P' : Addr} {q : Str} {pos : Pos} {ps : Array Value} {h1 h' : Heap} {t' : Nat} (I : Inv X pins σ H s) (hP : H P = some (.tbl ps)) (F : Fresh2 s h1 q pos ps P c P') (up : ∀ b o, h1.get? b = some o → h'.get? b = some o) :
    Inv X pins σ (lamH H P (ps ++ #[rawInt pos.line, rawInt pos.col, .ref c]) c q P') { s with heap := h', toks := t' } := by
  have nC : H c = none := I.hok.fresh F.gc
  have nP' : H P' = none := I.hok.fresh F.gp
  obtain ⟨oc, vs, file, tf, flags, tg, inF, text, tt, e1, e2⟩ := id F.hd
  have cP' : c ≠ P' := e2.2.2.2.2.2.2.2.2
  have old : ∀ b o, s.heap.get? b = some o → b ≠ c ∧ b ≠ P' := fun b o e => by
    exact ⟨Nat.ne_of_lt (Nat.lt_of_lt_of_le (Heap.lt_size e) F.gc), Nat.ne_of_lt (Nat.lt_of_lt_of_le (Heap.lt_size e) F.gp)⟩
  have rest : ∀ b, b ≠ P → b ≠ c → b ≠ P' → lamH H P (ps ++ #[rawInt pos.line, rawInt pos.col, .ref c]) c q P' b = H b := fun b n1 n2 n3 => by
    unfold lamH
    rw [upd_ne n2, upd_ne n3, upd_ne n1]
  have raw : ∀ b o, b ≠ P → s.heap.get? b = some o → h'.get? b = some o := fun b o n e => up _ _ (F.ext b o n e)
  have kn : ∀ b u, H b = some u → b ≠ c ∧ b ≠ P' := fun b u e => ⟨ne_of_none e nC, ne_of_none e nP'⟩
  have nt : ∀ b u, H b = some u → (∀ qs, u ≠ .tbl qs) → b ≠ P := fun b u e n z => n ps (Option.some.inj ((z ▸ e).symm.trans hP))
  have nn : ∀ b, H b = none → b ≠ P := fun b e z => by
    rw [z, hP] at e
    cases e
  have Pc : P ≠ c := (kn _ _ hP).1
  have PP' : P ≠ P' := (kn _ _ hP).2
  have atP : lamH H P (ps ++ #[rawInt pos.line, rawInt pos.col, .ref c]) c q P' P = some (.tbl (ps ++ #[rawInt pos.line, rawInt pos.col, .ref c])) := by
    unfold lamH
    rw [upd_ne Pc, upd_ne PP', upd_same]
  have atC : lamH H P (ps ++ #[rawInt pos.line, rawInt pos.col, .ref c]) c q P' c = some (CodeT c q P') := upd_same
  have atP' : lamH H P (ps ++ #[rawInt pos.line, rawInt pos.col, .ref c]) c q P' P' = some (.tbl #[]) := by
    unfold lamH
    rw [upd_ne cP'.symm, upd_same]
  refine I.step (g' := s.gens) (d' := s.drawn) (ch := []) (fun b hb => nomatch hb) (fun b o _ _ _ e n => raw b o (nn b n) e) (fun b o _ _ _ e n => ⟨o.slots, raw b o (nn b n) e⟩)
    (fun b o _ e n => (rest b (nn b n) (old b o e).1 (old b o e).2).trans n) (fun b o _ e => ?_) (fun b xs e => (rest b (nt b _ e (fun _ z => nomatch z)) (kn b _ e).1 (kn b _ e).2).trans e)
    (fun b o u e => (rest b (nt b _ e (fun _ z => nomatch z)) (kn b _ e).1 (kn b _ e).2).trans e) (fun b qs e => ?_) (fun m hn => ?_) (fun b u e => ?_) I.bare
  · by_cases hb : b = P
    · exact ⟨_, up _ _ (hb ▸ F.tab)⟩
    · exact ⟨o, raw b o hb e⟩
  · by_cases hb : b = P
    · subst hb
      rw [hP] at e
      cases e
      exact ⟨_, atP⟩
    · exact ⟨#[], by rw [rest b hb (kn b _ e).1 (kn b _ e).2, e]; simp⟩
  · obtain ⟨ob, es, ep, ho, r⟩ := hn
    exact ⟨ob, es, ep, raw _ ob (nn _ I.free) ho, r⟩
  · by_cases hb : b = c
    · subst hb
      rw [atC] at e
      cases e
      obtain ⟨c0, o0, v0, t0, q0, g0, g1, g2⟩ := id F.nm
      cases q0
      refine ⟨⟨F.hd.keeps up, o0, v0, t0, up _ _ g0, g1, g2⟩, ⟨o0, up _ _ g0⟩, fun h1 h2 ⟨⟨p0, p1, p2, p3, p4, p5, p6, p7, p8, pe, pr⟩, o1, v1, t1, f0, f1, f2⟩ st => ⟨⟨p0, p1, p2, p3, p4, p5, p6, p7, p8, st _ pe, pr⟩, o1, v1, t1, st _ f0, f1, f2⟩⟩
    · by_cases hb2 : b = P'
      · subst hb2
        rw [atP'] at e
        cases e
        exact up _ _ F.own
      · by_cases hb3 : b = P
        · subst hb3
          rw [atP] at e
          cases e
          exact up _ _ F.tab
        · rw [rest b hb3 hb hb2] at e
          refine (I.hok b u e).stay (fun d v hd z => raw d v ?_ z) (fun d z => (rest d (nt d _ z (fun _ y => nomatch y)) (kn d _ z).1 (kn d _ z).2).trans z) fun d xs z => (rest d (nt d _ z (fun _ y => nomatch y)) (kn d _ z).1 (kn d _ z).2).trans z
          rcases hd with z | z
          · exact z ▸ hb3
          · exact nt d _ z (fun _ y => nomatch y)
theorem bt_any {h : Heap} {mg : Str → Option Value} {P0 P : Addr} {ps : Array Value} (B : h.BuiltinsAt mg P0) (tP : h.get? P = some (PySem.W.tabObj ps)) : h.BuiltinsAt mg P := by
  obtain ⟨m0, o0, x1, x2, x2', _, x4, x5, x6, x7⟩ := B
  refine ⟨m0, o0, x1, x2, x2', fun z => ?_, x4, x5, x6, x7⟩
  rw [z, tP] at x4
  cases x4
  cases x5
theorem main_ne {h : Heap} {mg : Str → Option Value} {P : Addr} {ps : Array Value} (N : h.Ns mainGlobals mg) (tP : h.get? P = some (PySem.W.tabObj ps)) : mainGlobals ≠ P := fun z => by
  obtain ⟨o, es, ep, e, hd, _⟩ := N
  rw [z, tP] at e
  cases e
  cases hd
/-- a lambda is made; the maker's code is c, its table stands at P -/
theorem lam_mk {c P P0 : Addr} {ps : Array Value} {params : Arguments} {body : Expr} {scope : Scope} {pos : Pos} {E : Value → Shared → Prop} {Q : Value → Shared → Prop} (I : Inv X pins σ H s) (hcode : X.env.code = .ref c) (C : PySem.W.CodeHd s.heap c P) (hP : H P = some (.tbl ps)) (tr : TriplesOk ps.toList)
    (B : X.base.BuiltinsAt X.mg P0) (hdef : defaultsOf params X.env = ([], [])) (hfree : ∀ y ∈ scope.names, y.2 = .free → ∃ c, X.env.cells.lookup y.1 = some c)
    (miss : codeAmong pos ps.toList = none → ∀ (f c' P' : Addr) (pm ctv : Value) (s' : Shared), H c' = none → H P' = none → c' ≠ P' → Inv X pins σ (lamH H P (ps ++ #[rawInt pos.line, rawInt pos.col, .ref c']) c' (X.env.qual ++ "<lambda>") P') s' →
      s'.heap.get? f = some (PySem.W.kla_obj "<lambda>" (X.env.qual ++ "<lambda>") params body scope (cloFrom X.env.cells scope.names []) pm c' ctv) → lamH H P (ps ++ #[rawInt pos.line, rawInt pos.col, .ref c']) c' (X.env.qual ++ "<lambda>") P' f = none → f ∉ frs X.stack → Q (.ref f) s')
    (hit : ∀ cv, codeAmong pos ps.toList = some cv → ∃ c' : Addr, cv = .ref c' ∧ ∀ (f : Addr) (pm ctv : Value) (s' : Shared), Inv X pins σ H s' →
      s'.heap.get? f = some (PySem.W.kla_obj "<lambda>" (X.env.qual ++ "<lambda>") params body scope (cloFrom X.env.cells scope.names []) pm c' ctv) → H f = none → f ∉ frs X.stack → Q (.ref f) s') :
    wpAny (model X.prog X.w) X.A (eval (.Lambda params body scope pos) X.env) Q E s := by
  refine PySem.W.kla_eval hdef ?_
  have rP : s.heap.get? P = some (PySem.W.tabObj ps) := I.hok P _ hP
  have nsG := I.mod.glob.keeps I.bk
  have bt := bt_any (B.keeps I.bk) rP
  have nofr : ∀ f, s.heap.objs.size ≤ f → f ∉ frs X.stack := fun f hf z => (List.mem_cons.mp (I.stkSub _ z)).elim
    (fun e => Nat.lt_irrefl _ (Nat.lt_of_lt_of_le (e ▸ I.lt) hf)) (I.nofs hf)
  cases hc : codeAmong pos ps.toList with
  | none =>
    refine make_lam (mg := X.mg) (closure_ok hfree) I.ok.glob nsG hcode C rP tr hc (main_ne nsG rP) bt fun c' P' ctv h' tk F => ?_
    have sz : s.heap.objs.size ≤ h'.objs.size := Nat.le_trans F.gc (Nat.le_of_lt F.lc)
    have lP' : P' < h'.objs.size := Heap.lt_size F.own
    obtain ⟨o, vs, file, tf, flags, tg, inF, text, tt, e1, e2⟩ := id F.hd
    refine miss hc h'.objs.size c' P' ((X.mg "__name__").getD .none) ctv _ (I.hok.fresh F.gc) (I.hok.fresh F.gp) e2.2.2.2.2.2.2.2.2 (inv_lamT I hP F fun b o e => Heap.get?_push_of_some _ e) (Heap.get?_push_size _ rfl) ?_ (nofr _ sz)
    unfold lamH
    rw [upd_ne (Nat.ne_of_gt F.lc), upd_ne (Nat.ne_of_gt lP'), upd_ne (Nat.ne_of_gt (Nat.lt_of_lt_of_le (Heap.lt_size rP) sz))]
    exact I.hok.fresh sz
  | some cv =>
    obtain ⟨c', e, k⟩ := hit cv hc
    subst e
    refine PySem.W.kla_makeFunctionHit (mg := X.mg) (closure_ok hfree) I.ok.glob nsG hcode C rP tr hc bt fun ctv h' tk hx hsz => ?_
    exact k h'.objs.size ((X.mg "__name__").getD .none) ctv _ (I.kept fun b o e => Heap.get?_push_of_some _ (hx b o e)) (Heap.get?_push_size _ rfl) (I.hok.fresh hsz) (nofr _ hsz)
/-- each code in the table at P is one of the name q -/
def TabI (H : Hp) (P : Addr) (q : Str) : Prop := ∃ ps : Array Value, H P = some (.tbl ps) ∧ TriplesOk ps.toList ∧ ∀ (pos : Pos) (cv : Value), codeAmong pos ps.toList = some cv → ∃ c P', cv = .ref c ∧ H c = some (CodeT c q P')
/-- .. and has a table of its own of that kind -/
def TabN (H : Hp) (P : Addr) (q q2 : Str) : Prop := ∃ ps : Array Value, H P = some (.tbl ps) ∧ TriplesOk ps.toList ∧ ∀ (pos : Pos) (cv : Value), codeAmong pos ps.toList = some cv → ∃ c P', cv = .ref c ∧ H c = some (CodeT c q P') ∧ P' ≠ P ∧ TabI H P' q2
theorem TabI.same {H H' : Hp} {P : Addr} {q : Str} (h : TabI H P q) (s : ∀ b o, H b = some o → H' b = some o) : TabI H' P q := by
  obtain ⟨ps, h1, h2, h3⟩ := h
  refine ⟨ps, s _ _ h1, h2, fun pos cv hc => ?_⟩
  obtain ⟨c, P', e, h⟩ := h3 pos cv hc
  exact ⟨c, P', e, s _ _ h⟩
theorem TabN.same {H H' : Hp} {P : Addr} {q q2 : Str} (h : TabN H P q q2) (s : ∀ b o, H b = some o → H' b = some o) : TabN H' P q q2 := by
  obtain ⟨ps, h1, h2, h3⟩ := h
  refine ⟨ps, s _ _ h1, h2, fun pos cv hc => ?_⟩
  obtain ⟨c, P', e, h, n, t⟩ := h3 pos cv hc
  exact ⟨c, P', e, s _ _ h, n, t.same s⟩
theorem TabN.nil {H : Hp} {P : Addr} {q q2 : Str} (h : H P = some (.tbl #[])) : TabN H P q q2 := ⟨#[], h, trivial, fun pos cv hc => by
  have z : codeAmong pos [] = some cv := hc
  simp [codeAmong] at z⟩
theorem TabI.nil {H : Hp} {P : Addr} {q : Str} (h : H P = some (.tbl #[])) : TabI H P q := ⟨#[], h, trivial, fun pos cv hc => by
  have z : codeAmong pos [] = some cv := hc
  simp [codeAmong] at z⟩
theorem lamH_keep {H : Hp} {P c P' : Addr} {ps : Array Value} {q : Str} (nC : H c = none) (nP : H P' = none) : ∀ b o, b ≠ P → H b = some o → lamH H P ps c q P' b = some o := fun b o n e => by
  unfold lamH
  rw [upd_ne (ne_of_none e nC), upd_ne (ne_of_none e nP), upd_ne n]
  exact e
theorem tabI_made {H : Hp} {P c P' : Addr} {ps : Array Value} {q : Str} {pos : Pos} (nC : H c = none) (nP : H P' = none) (hP : H P = some (.tbl ps)) (tr : TriplesOk ps.toList)
    (h3 : ∀ (pos : Pos) (cv : Value), codeAmong pos ps.toList = some cv → ∃ c P', cv = .ref c ∧ H c = some (CodeT c q P')) : TabI (lamH H P (ps ++ #[rawInt pos.line, rawInt pos.col, .ref c]) c q P') P q := by
  have Pc := ne_of_none hP nC
  have PP := ne_of_none hP nP
  have eL : (ps ++ #[rawInt pos.line, rawInt pos.col, .ref c]).toList = ps.toList ++ [rawInt pos.line, rawInt pos.col, .ref c] := by simp
  refine ⟨ps ++ #[rawInt pos.line, rawInt pos.col, .ref c], by unfold lamH; rw [upd_ne Pc, upd_ne PP, upd_same], by rw [eL]; exact PySem.TriplesOk_snoc _ _ _ _ tr, fun p' cv hcv => ?_⟩
  rw [eL] at hcv
  rcases LamX.among_app _ tr hcv with z | z
  · obtain ⟨c0, P0, e, h⟩ := h3 p' cv z
    refine ⟨c0, P0, e, lamH_keep nC nP _ _ (fun y => ?_) h⟩
    rw [y, hP] at h
    exact codeT_ne _ (Option.some.inj h).symm
  · exact ⟨c, P', z, upd_same⟩
end
end Q
namespace Q
open PySem PySem.Spec PyProof.Rows L2
structure LamS1 (sc scope : Scope) (a : Str) : Prop where
  kind : scope.kind = .function
  co : scope.isCoroutine = false
  gen : scope.isGenerator = false
  own : ∀ y ∈ scope.names, y.2 ≠ .cell ∧ (y.2 = .local → y.1 = a)
  par : scope.names.lookup a = some .local
  free : ∀ y ∈ scope.names, y.2 = .free → sc.names.lookup y.1 = some .cell ∨ sc.names.lookup y.1 = some .free
def lamS1B (sc scope : Scope) (a : Str) : Bool :=
  decide (scope.kind = .function) && !scope.isCoroutine && !scope.isGenerator && decide (scope.names.lookup a = some .local) && scope.names.all fun y => !decide (y.2 = .cell) && (!decide (y.2 = .local) || decide (y.1 = a)) && (!decide (y.2 = .free) || decide (sc.names.lookup y.1 = some .cell) || decide (sc.names.lookup y.1 = some .free))
theorem lamS1_by {sc scope : Scope} {a : Str} (h : lamS1B sc scope a = true) : LamS1 sc scope a := by
  unfold lamS1B at h
  simp only [Bool.not_eq_true', decide_eq_false_iff_not, decide_eq_true_eq, Bool.and_eq_true, List.all_eq_true, Bool.or_eq_true] at h
  obtain ⟨⟨⟨⟨h1, h2⟩, h3⟩, h5⟩, h4⟩ := h
  refine ⟨h1, h2, h3, fun y hy => ⟨(h4 y hy).1.1, fun e => (h4 y hy).1.2.resolve_left fun n => n e⟩, h5, fun y hy e => ?_⟩
  rcases (h4 y hy).2 with (z | z) | z
  · exact absurd e z
  · exact .inl z
  · exact .inr z
theorem LamS1.has {X : Cx} {scope : Scope} {a : Str} (L : LamS1 X.env.scope scope a) (ok : X.Ok) : ∀ y ∈ scope.names, y.2 = .free → ∃ c, X.env.cells.lookup y.1 = some c := fun y hy e => (L.free y hy e).elim (fun k => ok.has _ (.inl k)) fun k => ok.has _ (.inr k)
section
variable {X : Cx} {pins : List (Addr × Obj)} {σ : L2.St} {H HZ : Hp} {s s1 : Shared}
theorem lam_start1 {A : Around} {outer : List Env} {E : XK} {scope : Scope} {f c' : Addr} {h₁ : Heap} {tk i0 : Nat} {a : Str} {v : V} {u : Value} (I : Inv X pins σ H s) (L : LamS1 X.env.scope scope a) (e0 : Env0 X.prog X.w X.K X.mg X.base A outer s1 HZ) (hd : A.handled = none)
    (i1 : X.N[i0]? = some a) (i2 : ∀ i, X.N[i]? = some a → i = i0) (rv : RelV v u)
    (un : Un (frs X.stack) [] H HZ s.heap s1.heap) (hns : h₁.Ns s1.heap.objs.size fun y => [(a, u)].reverse.lookup y) (kp : ∀ b o, s1.heap.get? b = some o → h₁.get? b = some o) :
    Inv (LamX.lamCx X A outer s1 HZ E scope f c') [] (σ.set i0 (some v)) HZ { s1 with heap := h₁, toks := tk } := by
  have fr := L.has I.ok
  have back : ∀ {y c}, (cloFrom X.env.cells scope.names []).lookup y = some c → X.env.cells.lookup y = some c := fun {y c} e => by
    rcases cloFrom_mem (PySem.mem_of_lookup e) with m | ⟨m1, m2⟩
    · cases m
    · obtain ⟨d, hd⟩ := fr _ m1 rfl
      have hd : X.env.cells.lookup y = some d := hd
      rw [m2, hd] <;> rfl
  have there : ∀ {y}, scope.names.lookup y = some .free → ∃ c, (cloFrom X.env.cells scope.names []).lookup y = some c := fun {y} hl => mem_lookup (cloFrom_has (cells := X.env.cells) (acc := []) (show (y, NameKind.free) ∈ scope.names from PySem.mem_of_lookup hl))
  have still : ∀ {c : Addr} {x : Option Value}, H c = none → s.heap.IsCell c x → h₁.IsCell c x := fun {c x} n ⟨o, ho, hd⟩ => by
    obtain ⟨sl, q⟩ := un.any ho n (by simp)
    exact ⟨_, kp _ _ q, hd⟩
  have noX : ∀ b : Addr, b ∉ (LamX.lamCx X A outer s1 HZ E scope f c').ex := fun b z => nomatch (show b ∈ ([] : List Addr) from z)
  refine ⟨⟨e0.mod, L.kind, rfl, rfl, Nat.le_refl _, fun y z c e1 e2 => I.ok.inj y z c (back e1) (back e2), fun y hy => ?_, fun y c z _ => (nomatch (show false = true from z)), fun _ => hd, Around.frames_deeper e0.frames, .inr ⟨rfl, rfl⟩, fun b z => absurd z (noX b), e0.bs, e0.bsz, fun b _ _ => noX b,
      fun b z => absurd z (noX b), e0.funs, e0.frf⟩,
    rfl, e0.bare, Un.kept kp, ⟨_, hns, fun i y x e1 e2 e3 => ?_⟩, fun y c e => ?_, e0.hok.fresh (Nat.le_refl _), fun y c e => ?_, fun q hq => (nomatch (show q ∈ ([] : List (Addr × Obj)) ++ [] from hq)), e0.hok.kept kp, by rw [List.length_set]; exact I.len⟩
  · rcases (show scope.names.lookup y = some .cell ∨ scope.names.lookup y = some .free from hy) with hy | hy
    · exact absurd rfl (L.own _ (PySem.mem_of_lookup hy)).1
    · exact there hy
  · have e1 : X.N[i]? = some y := e1
    rcases (show Vis scope y from e3) with k | k | k
    · have ey : y = a := (L.own _ (PySem.mem_of_lookup k)).2 rfl
      subst ey
      have ei := i2 i e1
      subst ei
      have li : i < σ.length := by
        rw [I.len]
        exact (List.getElem?_eq_some_iff.mp e1).1
      rw [List.getElem?_set_self li] at e2
      obtain rfl := Option.some.inj (Option.some.inj e2)
      exact ⟨u, rv, .inl ⟨k, by simp⟩⟩
    · exact absurd rfl (L.own _ (PySem.mem_of_lookup k)).1
    · have ni : i0 ≠ i := fun z => by
        subst z
        rw [i1] at e1
        cases e1
        have k := k.symm.trans L.par
        cases k
      rw [List.getElem?_set_ne ni] at e2
      obtain ⟨m, hn, hl⟩ := I.loc
      obtain ⟨w', r, q⟩ := hl i y x e1 e2 ((L.free _ (PySem.mem_of_lookup k) rfl).elim (fun k => .inr (.inl k)) (fun k => .inr (.inr k)))
      obtain ⟨c2, h2⟩ := there k
      refine ⟨w', r, .inr ⟨.inr k, c2, h2, ?_⟩⟩
      have c1 := back h2
      rcases q with ⟨k', _⟩ | ⟨_, c3, e', z⟩
      · have k' : X.env.scope.names.lookup y = some .local := k'
        exact (L.free _ (PySem.mem_of_lookup k) rfl).elim (fun k2 => nomatch (k'.symm.trans k2)) (fun k2 => nomatch (k'.symm.trans k2))
      · rw [c1] at e'
        cases e'
        exact still (I.freeC y _ c1) z
  · obtain ⟨w', z⟩ := I.cell y c (back e)
    exact ⟨w', still (I.freeC y c (back e)) z⟩
  · obtain ⟨v, o, ho, hd⟩ := I.cell y c (back e)
    exact un.free c o ho (I.freeC y c (back e)) (by simp)
end
/-- the function at f, called with one argument in whatever state behind s, does what t says -/
structure CallW (P : Program) (w : World) (K : PySem.W.Frag) (mg : Str → Option Value) (base : Heap) (stack : List Env) (s : Shared) (H : Hp) (k : Nat) (f c' : Addr) (ho : HO) (t : V → XK → Hp → VK → Prop) : Prop where
  fn : ∃ oc od fd sl, s.heap.get? f = some ⟨oc, od, .func fd, sl⟩
  nt : H f = none
  nf : f ∉ frs stack
  run : ∀ (A : Around) (outer : List Env) (s1 : Shared) (H1 : Hp) (v : V) (u : Value) (Q : VK) (E : XK), Room k A → Env0 P w K mg base A outer s1 H1 → Un (frs stack) [] H H1 s.heap s1.heap → RelV v u → H1 c' = some ho → t v E H1 Q →
    codeAny (model P w) A (.call (.ref f) ⟨[u], []⟩) (CR (L2.CX P w) outer P w H1 s1 Q E) s1
/-- what a code's description tells of its name -/
def Named (ho : HO) (c' : Addr) (q : Str) : Prop := ∀ (P : Program) (w : World) (H : Hp) (h : Heap), ObjOk P w H h c' ho → ∃ (oc : Obj) (vs : Array Value) (t : Tok), h.get? c' = some oc ∧ oc.data = .fields vs ∧ vs[1]? = some (.str q t)
theorem named_T {c' P' : Addr} {q : Str} : Named (CodeT c' q P') c' q := fun _ _ _ _ h => h.1.2
section
variable {X : Cx} {pins : List (Addr × Obj)} {σ : L2.St} {H : Hp} {s : Shared}
theorem callw_lam {f c' : Addr} {ho : HO} {pm ctv : Value} {params : Arguments} {body : Expr} {scope : Scope} {k i0 : Nat} {a : Str} {tb : XK → TE} (I : Inv X pins σ H s) (L : LamS1 X.env.scope scope a) (i1 : X.N[i0]? = some a) (i2 : ∀ i, X.N[i]? = some a → i = i0) (nmd : Named ho c' (X.env.qual ++ "<lambda>"))
    (hf : s.heap.get? f = some (PySem.W.kla_obj "<lambda>" (X.env.qual ++ "<lambda>") params body scope (cloFrom X.env.cells scope.names []) pm c' ctv)) (hfn : H f = none) (hfr : f ∉ frs X.stack)
    (hbind : ∀ u, bindArgs (PySem.W.kla_fn "<lambda>" (X.env.qual ++ "<lambda>") params body scope (cloFrom X.env.cells scope.names []) pm (.ref c') ctv) ⟨[u], []⟩ = pure [(a, u)])
    (hbody : ∀ (A : Around) (outer : List Env) (s : Shared) (H : Hp) (E : XK), Room k (A.deeper (LamX.lamEnv X scope s.heap.objs.size f c')) → PE (LamX.lamCx X A outer s H E scope f c') body (tb E)) :
    CallW X.prog X.w X.K X.mg X.base X.stack s H (k + 1) f c' ho (fun v E HZ Q => tb E (σ.set i0 (some v)) HZ Q) := by
  refine ⟨⟨_, _, _, _, hf⟩, hfn, hfr, ?_⟩
  intro A outer s1 HZ v u Q E hr e0 un rv hc ht
  have of1 := un.keep f _ hf hfn hfr (by simp)
  obtain ⟨oc, vs, t, hoc, hdc, hvc⟩ := nmd _ _ _ _ (e0.hok c' _ hc)
  refine PySem.W.kla_callFunE hr.depth of1 rfl L.co L.gen rfl ⟨c', oc, vs, t, rfl, hoc, hdc, hvc⟩ ?_
  rw [hbind]
  have lim : s1.heap.NoLimit := e0.mod.nolimit.keeps fun b o e => (e0.bs b o e).1
  refine wpAny_pure (wpAny_newFunctionEnv (fun y hy => (L.own y hy).1) (fun y hy => by rw [List.mem_singleton.mp hy]; exact L.par) (fun h₁ hns hsb => ⟨lim.fresh _ hsb, ?_⟩) L.kind)
  have kp : ∀ b o, s1.heap.get? b = some o → h₁.get? b = some o := fun b o e => hsb.extBut b o (Nat.ne_of_lt (Heap.lt_size e)) (Heap.get?_push_of_some _ e)
  have J := lam_start1 (E := E) (f := f) (c' := c') (tk := s1.toks + [(a, u)].length) I L e0 hr.hd i1 i2 rv un hns kp
  show codeAny _ _ (.expr body (LamX.lamEnv X scope s1.heap.objs.size f c')) _ _
  refine PySem.W.kla_codeExpr (wpAny_mono ((hbody _ _ s1 HZ E (hr.deeper _)).run [] _ _ HZ Q J ht) (fun y s' ⟨w', H', J', ry, q⟩ => ⟨w', H', J'.os, J'.bare, J'.base, J'.hok, ry, q⟩) fun e s' hq => hq)
end
section
variable {X : Cx} {f c' : Addr} {ho : HO} {t : V → XK → Hp → VK → Prop} {k i : Nat} {E : XK} {a : Str} {p1 p2 : Pos}
/-- what the caller got, called with e -/
theorem pe_callw {e : Expr} {te : TE} (c : CallW X.prog X.w X.K X.mg X.base X.outer X.s_0 X.H_0 k f c' ho t) (hex : X.ex = []) (hr : Room k X.A) (hx : Passes (L2.CX X.prog X.w) X E) (hN : X.N[i]? = some a) (hv : Vis X.env.scope a) (he : PE X e te)
    (hd : (a == ("__debug__" : Str)) = false := by decide) (hcd : (a == ("__classdict__" : Str)) = false := by decide) (hst : starEach (e :: []) X.env = (false, eval e X.env) :: starEach [] X.env := by rfl) :
    PE X (.Call (.Name a p1) [e] [] p2) (fun σ H Q => σ[i]? = some (some (.ref f)) ∧ te σ H fun v H1 => H1 c' = some ho ∧ t v E H1 Q) := by
  refine ⟨fun pins s σ H Q I h => ?_⟩
  obtain ⟨hs, h⟩ := h
  refine wpAny_Call_Name_kw (thn ((pe_var (pos := p1) (i := i) hN hv hd hcd).run pins s σ H (fun v H1 => v = .ref f ∧ H1 = H) I ⟨.ref f, hs, rfl, rfl⟩) fun u s1 ⟨v, H1, I1, r1, q1⟩ => ?_)
  obtain ⟨ev, eH⟩ := q1
  subst ev
  rw [eH] at I1
  obtain rfl : u = Value.ref f := r1
  have unOf : ∀ {H : Hp} {s : Shared}, Inv X pins σ H s → Un (frs X.outer) [] X.H_0 H X.s_0.heap s.heap := fun I => hex ▸ I.base
  obtain ⟨oc, od, fd, sl, ef⟩ := c.fn
  refine PySem.W.callWith_F ⟨oc, od, fd, sl, (unOf I1).keep f _ ef c.nt c.nf (by simp)⟩ ?_ hst
  rw [hst]
  show wpAny _ _ (spliced ((false, eval e X.env) :: backTo p2 (starEach [] X.env))) _ _ s1
  refine Calls.spliced_cons (thn (he.run pins s1 σ H _ I1 h) fun y s2 ⟨v, H2, I2, rv, hc, ht⟩ => Calls.spliced_nil ⟨⟨oc, od, fd, sl, (unOf I2).keep f _ ef c.nt c.nf (by simp)⟩, ?_⟩)
  refine wpAny_call (codeAny_mono (c.run X.A X.stack s2 H2 v y Q E hr I2.env0 (unOf I2) rv hc ht) fun r s' hq => ?_)
  match r, hq with
  | .error e, hq => exact hx pins σ H2 s2 e s' I2 hq
  | .ok (.ret u), hq => exact I2.after hq
  | .ok .next, hq => exact False.elim hq
  | .ok .brk, hq => exact False.elim hq
  | .ok .cont, hq => exact False.elim hq
end
/-- the def `__call__` of the class C, called with an instance and a function of one argument -/
structure PlayG (P : Program) (w : World) (K : PySem.W.Frag) (mg : Str → Option Value) (base : Heap) (k k0 : Nat) (C : Addr) (sp : (V → XK → Hp → VK → Prop) → Addr → Hp → VK → XK → Prop) : Prop where
  ex : ∃ g : Addr, StX.CallO K C g ∧ ∀ (A : Around) (outer : List Env) (s : Shared) (H : Hp) (f c' : Addr) (q : Str) (P' a : Addr) (Q : VK) (E : XK) (t : V → XK → Hp → VK → Prop), Room k A → Env0 P w K mg base A outer s H → K.In s.heap →
    CallW P w K mg base outer s H k0 f c' (CodeT c' q P') t → H c' = some (CodeT c' q P') → sp t a H Q E → codeAny (model P w) A (.call (.ref g) ⟨[.ref a, .ref f], []⟩) (CR (L2.CX P w) outer P w H s Q E) s
/-- what stands behind the making of a lambda by the code c whose table is at P -/
def LamGo (q : Str) (P : Addr) (H : Hp) (k : Hp → Addr → HO → Prop) : Prop := ∃ ps : Array Value, H P = some (.tbl ps) ∧ TriplesOk ps.toList ∧
  (∀ (pos : Pos), codeAmong pos ps.toList = none → ∀ c' P', H c' = none → H P' = none → c' ≠ P' → k (lamH H P (ps ++ #[rawInt pos.line, rawInt pos.col, .ref c']) c' q P') c' (CodeT c' q P')) ∧
  ∀ (pos : Pos) (cv : Value), codeAmong pos ps.toList = some cv → ∃ c' P', cv = .ref c' ∧ H c' = some (CodeT c' q P') ∧ k H c' (CodeT c' q P')
section
variable {X : Cx}
/-- e(lambda a: body), e an instance of C; the maker is a code that is made at run time -/
def tPlayW (C c : Addr) (q qc : Str) (sp : (V → XK → Hp → VK → Prop) → Addr → Hp → VK → XK → Prop) (i0 : Nat) (E : XK) (te : TE) (tb : XK → TE) : TE := fun σ H Q => te σ H fun y H1 => ∃ a dx fs P, y = .ref a ∧ H1 a = some (.ins C dx fs) ∧ H1 c = some (CodeT c qc P) ∧
  LamGo q P H1 fun H2 _ _ => H2 a = some (.ins C dx fs) ∧ sp (fun v E' HZ Q' => tb E' (σ.set i0 (some v)) HZ Q') a H2 Q E
theorem pe_playW {C c P0 : Addr} {qc : Str} {sp : (V → XK → Hp → VK → Prop) → Addr → Hp → VK → XK → Prop} {k kx j i0 : Nat} {a : Str} {E : XK} {params : Arguments} {body : Expr} {scope : Scope} {fe : Expr} {te : TE} {tb : XK → TE} {pos lpos : Pos}
    (D : PlayG X.prog X.w X.K X.mg X.base kx (k + 1) C sp) (hf : PE X fe te) (hcode : X.env.code = .ref c) (B : X.base.BuiltinsAt X.mg P0) (L : LamS1 X.env.scope scope a) (i1 : X.N[i0]? = some a) (i2 : ∀ i, X.N[i]? = some a → i = i0) (hdef : defaultsOf params X.env = ([], []))
    (hbind : ∀ (q : Str) (cl : List (Str × Addr)) (pm cv ctv u : Value), bindArgs (PySem.W.kla_fn "<lambda>" q params body scope cl pm cv ctv) ⟨[u], []⟩ = pure [(a, u)]) (hr : Room j X.A) (hx : Passes (L2.CX X.prog X.w) X E)
    (hbody : ∀ (A : Around) (outer : List Env) (s : Shared) (H : Hp) (E : XK) (f c' : Addr), Room k (A.deeper (LamX.lamEnv X scope s.heap.objs.size f c')) → PE (LamX.lamCx X A outer s H E scope f c') body (tb E)) (hj : kx ≤ j := by decide)
    (ht : eval (.Call fe [.Lambda params body scope lpos] [] pos) X.env = (do callWith pos (← eval fe X.env) [] (backTo pos (starEach [.Lambda params body scope lpos] X.env)) (backToKw pos (keywordEach [] X.env))) := by rfl)
    (hst : starEach (.Lambda params body scope lpos :: []) X.env = (false, eval (.Lambda params body scope lpos) X.env) :: starEach [] X.env := by rfl) :
    PE X (.Call fe [.Lambda params body scope lpos] [] pos) (tPlayW C c (X.env.qual ++ "<lambda>") qc sp i0 E te tb) := by
  obtain ⟨g, cc, F⟩ := D.ex
  refine ⟨fun pins s σ H Q I h => ?_⟩
  refine Call_ (thn (hf.run pins s σ H _ I h) fun u s1 ⟨y, H1, I1, ry, o, dx, fs, P, ey, ho, hcT, ps, hP, tr, miss, hit⟩ => ?_) ht
  subst ey
  obtain rfl : u = Value.ref o := ry
  refine StX.callO_with ?_ hst (by rfl)
  rw [hst]
  show wpAny _ _ (spliced ((false, eval (.Lambda params body scope lpos) X.env) :: backTo pos (starEach [] X.env))) _ _ s1
  have C1 : PySem.W.CodeHd s1.heap c P := (I1.hok c _ hcT).1.1
  have fin : ∀ {H2 : Hp} {s2 : Shared} {f c' : Addr} {P' : Addr} {pm ctv : Value}, Inv X pins σ H2 s2 → s2.heap.get? f = some (PySem.W.kla_obj "<lambda>" (X.env.qual ++ "<lambda>") params body scope (cloFrom X.env.cells scope.names []) pm c' ctv) → H2 f = none → f ∉ frs X.stack →
      H2 c' = some (CodeT c' (X.env.qual ++ "<lambda>") P') → (H2 o = some (.ins C dx fs) ∧ sp (fun v E' HZ Q' => tb E' (σ.set i0 (some v)) HZ Q') o H2 Q E) →
      (∃ C ox od, PySem.W.InstAt s2.heap o ox C od ∧ ox.data = .plain) ∧ wpAny (model X.prog X.w) X.A (call (.ref o) ([] ++ [.ref f])) (EP X pins σ Q) X.xe s2 := fun {H2 s2 f c' P' pm ctv} I2 hfo hfn hfr hc2 ⟨ho2, q⟩ => by
    obtain ⟨ox, od, J, hd⟩ := StX.insC_at I2 (.inr ⟨dx, fs, ho2⟩)
    have cw := callw_lam (k := k) (tb := tb) I2 L i1 i2 (named_T (P' := P')) hfo hfn hfr (hbind _ _ _ _ _) (fun A outer s H E hr2 => hbody A outer s H E f c' hr2)
    refine ⟨⟨C, ox, od, J, hd⟩, wpAny_call (PySem.W.kco_code I2.kIn J hd cc.at_ cc.fn cc.fi (codeAny_mono (F X.A X.stack s2 H2 f c' _ _ o Q E _ (hr.mono hj) I2.env0 I2.kIn cw hc2 q) fun r s' hq => ?_))⟩
    match r, hq with
    | .error e, hq => exact hx pins σ H2 s2 e s' I2 hq
    | .ok (.ret u), hq => exact I2.after hq
    | .ok .next, hq => exact False.elim hq
    | .ok .brk, hq => exact False.elim hq
    | .ok .cont, hq => exact False.elim hq
  refine Calls.spliced_cons (lam_mk I1 hcode C1 hP tr B hdef (L.has I1.ok) (fun n f c' P' pm ctv s' n1 n2 n3 I2 hfo hfn hfr => Calls.spliced_nil (fin I2 hfo hfn hfr upd_same (miss lpos n c' P' n1 n2 n3))) fun cv hcv => ?_)
  obtain ⟨c', P', e, hc', q⟩ := hit lpos cv hcv
  exact ⟨c', e, fun f pm ctv s' I2 hfo hfn hfr => Calls.spliced_nil (fin I2 hfo hfn hfr hc' q)⟩
end
end Q
namespace Q
open PySem PySem.Spec PyProof.Rows L2
structure Call0 (P : Program) (w : World) (K : PySem.W.Frag) (mg : Str → Option Value) (base : Heap) (stack : List Env) (s : Shared) (H : Hp) (k : Nat) (f c' : Addr) (ho : HO) (t : XK → Hp → VK → Prop) : Prop where
  fn : ∃ oc od fd sl, s.heap.get? f = some ⟨oc, od, .func fd, sl⟩
  nt : H f = none
  nf : f ∉ frs stack
  run : ∀ (A : Around) (outer : List Env) (s1 : Shared) (H1 : Hp) (Q : VK) (E : XK), Room k A → Env0 P w K mg base A outer s1 H1 → Un (frs stack) [] H H1 s.heap s1.heap → H1 c' = some ho → t E H1 Q → codeAny (model P w) A (.call (.ref f) ⟨[], []⟩) (CR (L2.CX P w) outer P w H1 s1 Q E) s1
section
variable {X : Cx} {pins : List (Addr × Obj)} {σ : L2.St} {H : Hp} {s : Shared}
theorem call0_lam {f c' : Addr} {ho : HO} {pm ctv : Value} {params : Arguments} {body : Expr} {scope : Scope} {k : Nat} {tb : Addr → XK → TE} (I : Inv X pins σ H s) (L : LamX.LamS X.env.scope scope) (nmd : Named ho c' (X.env.qual ++ "<lambda>"))
    (hf : s.heap.get? f = some (PySem.W.kla_obj "<lambda>" (X.env.qual ++ "<lambda>") params body scope (cloFrom X.env.cells scope.names []) pm c' ctv)) (hfn : H f = none) (hfr : f ∉ frs X.stack)
    (hbind : bindArgs (PySem.W.kla_fn "<lambda>" (X.env.qual ++ "<lambda>") params body scope (cloFrom X.env.cells scope.names []) pm (.ref c') ctv) ⟨[], []⟩ = pure [])
    (hbody : ∀ (A : Around) (outer : List Env) (s : Shared) (H : Hp) (E : XK), Room k (A.deeper (LamX.lamEnv X scope s.heap.objs.size f c')) → PE (LamX.lamCx X A outer s H E scope f c') body (tb c' E)) :
    Call0 X.prog X.w X.K X.mg X.base X.stack s H (k + 1) f c' ho (fun E HZ Q => tb c' E σ HZ Q) := by
  refine ⟨⟨_, _, _, _, hf⟩, hfn, hfr, fun A outer s1 HZ Q E hr e0 un hc ht => ?_⟩
  have here := un.keep f _ hf hfn hfr (by simp)
  obtain ⟨oc, vs, t, hoc, hdc, hvc⟩ := nmd _ _ _ _ (e0.hok c' _ hc)
  refine PySem.W.kla_callFunE hr.depth here rfl L.co L.gen rfl ⟨c', oc, vs, t, rfl, hoc, hdc, hvc⟩ ?_
  rw [hbind]
  have lim : s1.heap.NoLimit := e0.mod.nolimit.keeps fun b o e => (e0.bs b o e).1
  refine wpAny_pure (wpAny_newFunctionEnv (fun y hy => (L.own y hy).2) (fun y hy => nomatch hy) (fun h₁ hns hsb => ⟨lim.fresh _ hsb, ?_⟩) L.kind)
  have J := LamX.lam_start2 (E := E) (f := f) (c' := c') (tk := s1.toks + ([] : List (Str × Value)).length) I L e0 hr.hd un hns fun b o e => hsb.extBut b o (Nat.ne_of_lt (Heap.lt_size e)) (Heap.get?_push_of_some _ e)
  show codeAny _ _ (.expr body (LamX.lamEnv X scope s1.heap.objs.size f c')) _ _
  exact PySem.W.kla_codeExpr (wpAny_mono ((hbody _ _ s1 HZ E (hr.deeper _)).run [] _ _ HZ Q J ht) (fun y s' ⟨w', H', J', ry, q⟩ => ⟨w', H', J'.os, J'.bare, J'.base, J'.hok, ry, q⟩) fun e s' hq => hq)
end
section
variable {X : Cx} {f c' : Addr} {ho : HO} {t : XK → Hp → VK → Prop} {k i : Nat} {E : XK} {a : Str} {p1 p2 : Pos}
theorem pe_call0 (c : Call0 X.prog X.w X.K X.mg X.base X.outer X.s_0 X.H_0 k f c' ho t) (hex : X.ex = []) (hr : Room k X.A) (hx : Passes (L2.CX X.prog X.w) X E) (hN : X.N[i]? = some a) (hv : Vis X.env.scope a)
    (hd : (a == ("__debug__" : Str)) = false := by decide) (hcd : (a == ("__classdict__" : Str)) = false := by decide) : PE X (.Call (.Name a p1) [] [] p2) (fun σ H Q => σ[i]? = some (some (.ref f)) ∧ H c' = some ho ∧ t E H Q) := by
  refine ⟨fun pins s σ H Q I ⟨hs, hc, ht⟩ => ?_⟩
  refine wpAny_Call_Name_kw (thn ((pe_var (pos := p1) (i := i) hN hv hd hcd).run pins s σ H (fun v H1 => v = .ref f ∧ H1 = H) I ⟨.ref f, hs, rfl, rfl⟩) fun u s1 ⟨v, H1, I1, r1, ev, eH⟩ => ?_)
  subst ev
  subst eH
  obtain rfl : u = Value.ref f := r1
  have un : Un (frs X.outer) [] X.H_0 H1 X.s_0.heap s1.heap := hex ▸ I1.base
  obtain ⟨oc, od, fd, sl, ef⟩ := c.fn
  refine PySem.W.callWith_F0 ⟨oc, od, fd, sl, un.keep f _ ef c.nt c.nf (by simp)⟩ (wpAny_call (codeAny_mono (c.run X.A X.stack s1 H1 Q E hr I1.env0 un hc ht) fun r s' hq => ?_))
  match r, hq with
  | .error e, hq => exact hx pins σ H1 s1 e s' I1 hq
  | .ok (.ret u), hq => exact I1.after hq
  | .ok .next, hq => exact False.elim hq
  | .ok .brk, hq => exact False.elim hq
  | .ok .cont, hq => exact False.elim hq
end
/-- a def that hears: its one argument is a function without parameters -/
structure HearM (P : Program) (w : World) (K : PySem.W.Frag) (mg : Str → Option Value) (base : Heap) (k k0 : Nat) (x : Str) (sp : (XK → Hp → VK → Prop) → Hp → VK → Prop) : Prop where
  ex : ∃ g : Addr, mg x = some (.ref g) ∧ PySem.W.keepIn K (.ref g) = true ∧ ∀ (A : Around) (outer : List Env) (s : Shared) (H : Hp) (f c' : Addr) (ho : HO) (Q : VK) (t : XK → Hp → VK → Prop), G0 A → Room k A → Env0 P w K mg base A outer s H → K.In s.heap →
    Call0 P w K mg base outer s H k0 f c' ho t → H c' = some ho → sp t H Q → codeAny (model P w) A (.call (.ref g) ⟨[.ref f], []⟩) (CR C8.CX0 outer P w H s Q C8.E0) s
theorem hearM_of {P : Program} {w : World} {K : PySem.W.Frag} {mg : Str → Option Value} {base : Heap} {k k0 : Nat} {x a : Str} {st : Stmt} {g : Addr} {fd : FuncData} {N : List Str} {sp : (XK → Hp → VK → Prop) → Hp → VK → Prop} (F : FnP K x x st [] g fd) (hm : mg x = some (.ref g)) (S : FnScope N [a] (defScope st))
    (hNg : N[0]? = some a) (hva : Vis (defScope st) a) (hk0 : k0 ≤ k) (b : ∀ (kV doc pm : Value) (an : Option Addr) (cdv ct : Value) (us : List Value), us.length = [a].length → bindArgs (PySem.W.fnOf x x (defArgs st) (defBody st) (defScope st) .none kV doc pm an cdv ct) ⟨us, []⟩ = pure ([a].zip us))
    (body : ∀ (cdv : Value) (A : Around) (outer : List Env) (s : Shared) (H : Hp) (f c' : Addr) (ho : HO) (Q : VK) (t : XK → Hp → VK → Prop), G0 (A.deeper (envOfC x (defScope st) s.heap.objs.size g cdv)) → Room k (A.deeper (envOfC x (defScope st) s.heap.objs.size g cdv)) →
      (∀ (W : WX) (pn : List (Addr × Obj)) (xe : Value → Shared → Prop) (E : XK) (p1 p2 : Pos), Takes ((cxOf C8.CX0 P w K mg base N x (defScope st) g cdv A outer s H C8.E0).tr pn xe) W → (∀ cls d σ' H', E cls d H' → W cls d σ' H') →
        PE ((cxOf C8.CX0 P w K mg base N x (defScope st) g cdv A outer s H C8.E0).tr pn xe) (.Call (.Name a p1) [] [] p2) (fun σZ HZ Q => σZ[0]? = some (some (.ref f)) ∧ HZ c' = some ho ∧ t E HZ Q)) →
      H c' = some ho → sp t H Q → ∃ t', PSs (cxOf C8.CX0 P w K mg base N x (defScope st) g cdv A outer s H C8.E0).nox (defBody st) t' ∧ t' { nx := fun _ H' => Q .non H', rt := Q } (L2.start N [.ref f]) H)
    (hd : (a == ("__debug__" : Str)) = false := by decide) (hcd : (a == ("__classdict__" : Str)) = false := by decide) : HearM P w K mg base (k + 1) k0 x sp := by
  refine ⟨g, hm, F.kp, fun A outer s H f c' ho Q t g0 hr e0 kin c hc h => ?_⟩
  obtain ⟨oc, od, dV, kV, doc, pm, an, cdv, ct, osl, rfl, lk, hcx, _, _⟩ := F.ex
  refine LamX.run_ofS (N := N) (ps := [a]) (us := [.ref f]) (vs := [.ref f]) lk hcx S hr e0 ((F.bindsN b) s [.ref f] kin rfl) (.cons rfl .nil) rfl fun hr' => ?_
  obtain ⟨t', h1, h2⟩ := body cdv A outer s H f c' ho Q t (g0_deeper g0) hr' (fun W pn xe E p1 p2 tk hW => pe_call0 (X := (cxOf C8.CX0 P w K mg base N x (defScope st) g cdv A outer s H C8.E0).tr pn xe) (i := 0) c rfl (hr'.mono hk0) (passes_call tk hW) hNg hva hd hcd) hc h
  exact ⟨t', h1.nox, h2⟩
def tLamN (q : Str) (P : Addr) (sp : (XK → Hp → VK → Prop) → Hp → VK → Prop) (t : Addr → XK → TE) : TE := fun σ H Q => LamGo q P H fun H2 c' _ => sp (fun E H' Q' => t c' E σ H' Q') H2 Q
section
variable {X : Cx}
/-- x(lambda: body), the lambda's code makes lambdas of its own -/
theorem pe_lamN {sp : (XK → Hp → VK → Prop) → Hp → VK → Prop} {x : Str} {c P : Addr} {k kx : Nat} {params : Arguments} {body : Expr} {scope : Scope} {t : Addr → XK → TE} {p lpos pos : Pos}
    (D : HearM X.prog X.w X.K X.mg X.base kx (k + 1) x sp) (hg : Gl X x) (g0 : G0 X.A) (TB : LamX.TabB X.base X.mg c P) (hcode : X.env.code = .ref c) (hr : Room kx X.A) (L : LamX.LamS X.env.scope scope) (hdef : defaultsOf params X.env = ([], []))
    (hbind : ∀ (q : Str) (cl : List (Str × Addr)) (pm cv ctv : Value), bindArgs (PySem.W.kla_fn "<lambda>" q params body scope cl pm cv ctv) ⟨[], []⟩ = pure [])
    (hbody : ∀ (A : Around) (outer : List Env) (s : Shared) (H : Hp) (E : XK) (f c' : Addr), Room k (A.deeper (LamX.lamEnv X scope s.heap.objs.size f c')) → PE (LamX.lamCx X A outer s H E scope f c') body (t c' E)) (hdb : (x == ("__debug__" : Str)) = false := by decide)
    (hst : starEach (.Lambda params body scope lpos :: []) X.env = (false, eval (.Lambda params body scope lpos) X.env) :: starEach [] X.env := by rfl) :
    PE X (.Call (.Name x p) [.Lambda params body scope lpos] [] pos) (tLamN (X.env.qual ++ "<lambda>") P sp t) := by
  obtain ⟨g, hm, hk, F⟩ := D.ex
  refine ⟨fun pins s σ H Q I ⟨ps, hP, tr, miss, hit⟩ => ?_⟩
  refine wpAny_Call_Name_kw (ld_glob I hg hm (PySem.W.callWith_K (h₀ := X.base) I.ok.mod.kin hk ?_ hst (by rfl)) hdb)
  rw [hst]
  show wpAny _ _ (spliced ((false, eval (.Lambda params body scope lpos) X.env) :: backTo pos (starEach [] X.env))) _ _ s
  have fin : ∀ {H2 : Hp} {s2 : Shared} {f c' P' : Addr} {pm ctv : Value}, Inv X pins σ H2 s2 → s2.heap.get? f = some (PySem.W.kla_obj "<lambda>" (X.env.qual ++ "<lambda>") params body scope (cloFrom X.env.cells scope.names []) pm c' ctv) → H2 f = none → f ∉ frs X.stack →
      H2 c' = some (CodeT c' (X.env.qual ++ "<lambda>") P') → sp (fun E H' Q' => t c' E σ H' Q') H2 Q → X.K.In s2.heap ∧ wpAny (model X.prog X.w) X.A (call (.ref g) ([] ++ [.ref f])) (EP X pins σ Q) X.xe s2 := fun {H2 s2 f c' P' pm ctv} I2 hfo hfn hfr hc2 q => by
    have cw := call0_lam (k := k) (tb := t) I2 L (named_T (P' := P')) hfo hfn hfr (hbind _ _ _ _ _) (fun A outer s H E hr2 => hbody A outer s H E f c' hr2)
    refine ⟨I2.kIn, wpAny_call (codeAny_mono (F X.A X.stack s2 H2 f c' _ Q _ g0 hr I2.env0 I2.kIn cw hc2 q) fun r s' hq => ?_)⟩
    match r, hq with
    | .error e, hq => exact (show False from hq).elim
    | .ok (.ret u), hq => exact I2.after hq
    | .ok .next, hq => exact False.elim hq
    | .ok .brk, hq => exact False.elim hq
    | .ok .cont, hq => exact False.elim hq
  refine Calls.spliced_cons (lam_mk I hcode (TB.code.keeps I.bk) hP tr TB.bm hdef (L.has I.ok) (fun n f c' P' pm ctv s' n1 n2 n3 I2 hfo hfn hfr => Calls.spliced_nil (fin I2 hfo hfn hfr upd_same (miss lpos n c' P' n1 n2 n3))) fun cv hcv => ?_)
  obtain ⟨c', P', e, hc', q⟩ := hit lpos cv hcv
  exact ⟨c', e, fun f pm ctv s' I2 hfo hfn hfr => Calls.spliced_nil (fin I2 hfo hfn hfr hc' q)⟩
end
end Q
namespace Q
open PySem PySem.Spec PyProof.Rows L2
def TabM (H : Hp) (Ps : List Addr) (P : Addr) (q q2 : Str) : Prop := ∃ ps : Array Value, H P = some (.tbl ps) ∧ TriplesOk ps.toList ∧ ∀ (pos : Pos) (cv : Value), codeAmong pos ps.toList = some cv → ∃ c P', cv = .ref c ∧ H c = some (CodeT c q P') ∧ P' ∉ Ps ∧ TabI H P' q2
theorem noT_code {c P : Addr} {q : Str} : NoT (CodeT c q P) := fun ps z => codeT_ne ps z
theorem TabI.keep {H H' : Hp} {P : Addr} {q : Str} (h : TabI H P q) (s : ∀ b o, NoT o → H b = some o → H' b = some o) (hP : ∀ ps, H P = some (.tbl ps) → H' P = some (.tbl ps)) : TabI H' P q := by
  obtain ⟨ps, h1, h2, h3⟩ := h
  refine ⟨ps, hP _ h1, h2, fun pos cv hc => ?_⟩
  obtain ⟨c, P', e, h⟩ := h3 pos cv hc
  exact ⟨c, P', e, s _ _ noT_code h⟩
/-- the tables at Ps: simple ones, and the one at P1 whose codes have tables of their own -/
structure Tbs (Ps : List Addr) (L : List (Addr × Str)) (P1 : Addr) (q1 qi : Str) (H : Hp) : Prop where
  at_ : ∀ x ∈ Ps, ∃ ps, H x = some (.tbl ps)
  si : ∀ x ∈ L, TabI H x.1 x.2
  ne : TabM H Ps P1 q1 qi
structure TbsS (Ps : List Addr) (L : List (Addr × Str)) (P1 : Addr) : Prop where
  i1 : P1 ∈ Ps
  iL : ∀ x ∈ L, x.1 ∈ Ps ∧ x.1 ≠ P1
  un : ∀ x ∈ L, ∀ y ∈ L, x.1 = y.1 → x.2 = y.2
section
variable {Ps : List Addr} {L : List (Addr × Str)} {P1 : Addr} {q1 qi : Str} {H H' : Hp}
theorem Tbs.same (h : Tbs Ps L P1 q1 qi H) (s : ∀ b o, H b = some o → (NoT o → False) ∨ NoT o → H' b = some o) : Tbs Ps L P1 q1 qi H' := by
  have s' : ∀ b o, H b = some o → H' b = some o := fun b o e => s b o e (Classical.em (NoT o) |>.elim .inr .inl)
  obtain ⟨ps, h1, h2, h3⟩ := h.ne
  refine ⟨fun x hx => (h.at_ x hx).imp fun ps e => s' _ _ e, fun x hx => (h.si x hx).same s', ps, s' _ _ h1, h2, fun pos cv hc => ?_⟩
  obtain ⟨c, P', e, h, n, t⟩ := h3 pos cv hc
  exact ⟨c, P', e, s' _ _ h, n, t.same s'⟩
/-- what changes is no table and no code -/
theorem Tbs.but {p : Addr} {o : HO} (h : Tbs Ps L P1 q1 qi H) (b : But p H H') (hp : H p = some o) (no : NoT o) (nc : ∀ c q P, o ≠ CodeT c q P) : Tbs Ps L P1 q1 qi H' := by
  have kt : ∀ b ps, H b = some (.tbl ps) → H' b = some (.tbl ps) := fun x ps e => b _ _ (fun z => no ps (Option.some.inj (hp.symm.trans (z ▸ e)))) e
  have kc : ∀ c q P, H c = some (CodeT c q P) → H' c = some (CodeT c q P) := fun c q P e => b _ _ (fun z => nc c q P (Option.some.inj (hp.symm.trans (z ▸ e)))) e
  have ti : ∀ {P : Addr} {q : Str}, TabI H P q → TabI H' P q := fun {P q} ⟨ps, h1, h2, h3⟩ => ⟨ps, kt _ _ h1, h2, fun pos cv hc => by
    obtain ⟨c, P', e, h⟩ := h3 pos cv hc
    exact ⟨c, P', e, kc _ _ _ h⟩⟩
  obtain ⟨ps, h1, h2, h3⟩ := h.ne
  refine ⟨fun x hx => (h.at_ x hx).imp fun ps e => kt _ _ e, fun x hx => ti (h.si x hx), ps, kt _ _ h1, h2, fun pos cv hc => ?_⟩
  obtain ⟨c, P', e, h, n, t⟩ := h3 pos cv hc
  exact ⟨c, P', e, kc _ _ _ h, n, ti t⟩
/-- a lambda of a simple table is made -/
theorem Tbs.made {P c P' : Addr} {ps : Array Value} {q : Str} {pos : Pos} (S : TbsS Ps L P1) (h : Tbs Ps L P1 q1 qi H) (hm : (P, q) ∈ L) (nC : H c = none) (nP : H P' = none) (hP : H P = some (.tbl ps)) (tr : TriplesOk ps.toList)
    (h3 : ∀ (pos : Pos) (cv : Value), codeAmong pos ps.toList = some cv → ∃ c P', cv = .ref c ∧ H c = some (CodeT c q P')) : Tbs Ps L P1 q1 qi (lamH H P (ps ++ #[rawInt pos.line, rawInt pos.col, .ref c]) c q P') := by
  have keep := lamH_keep (q := q) (ps := ps ++ #[rawInt pos.line, rawInt pos.col, .ref c]) (P := P) nC nP
  have mine : TabI (lamH H P (ps ++ #[rawInt pos.line, rawInt pos.col, .ref c]) c q P') P q := tabI_made nC nP hP tr h3
  have kc : ∀ c0 q0 P0, H c0 = some (CodeT c0 q0 P0) → lamH H P (ps ++ #[rawInt pos.line, rawInt pos.col, .ref c]) c q P' c0 = some (CodeT c0 q0 P0) := fun c0 q0 P0 e => keep _ _ (fun z => codeT_ne ps (Option.some.inj (e.symm.trans (z ▸ hP)))) e
  have ti : ∀ {Z : Addr} {z : Str}, Z ≠ P → TabI H Z z → TabI (lamH H P (ps ++ #[rawInt pos.line, rawInt pos.col, .ref c]) c q P') Z z := fun {Z z} n ⟨us, g1, g2, g3⟩ => ⟨us, keep _ _ n g1, g2, fun p2 cv hc => by
    obtain ⟨c0, P0, e, h⟩ := g3 p2 cv hc
    exact ⟨c0, P0, e, kc _ _ _ h⟩⟩
  have nP1 : P1 ≠ P := fun z => (S.iL _ hm).2 z.symm
  obtain ⟨us, g1, g2, g3⟩ := h.ne
  refine ⟨fun x hx => ?_, fun x hx => ?_, us, keep _ _ nP1 g1, g2, fun p2 cv hc => ?_⟩
  · by_cases e : x = P
    · obtain ⟨us, a, _⟩ := mine
      exact ⟨us, e ▸ a⟩
    · obtain ⟨us, a⟩ := h.at_ x hx
      exact ⟨us, keep _ _ e a⟩
  · by_cases e : x.1 = P
    · rw [e, S.un x hx (P, q) hm e]
      exact mine
    · exact ti e (h.si x hx)
  · obtain ⟨c0, P0, e, k, n, t⟩ := g3 p2 cv hc
    exact ⟨c0, P0, e, kc _ _ _ k, n, ti (fun z => n (z ▸ (S.iL _ hm).1)) t⟩
/-- the lambda that makes lambdas is made -/
theorem Tbs.made1 {c P' : Addr} {ps : Array Value} {pos : Pos} (S : TbsS Ps L P1) (h : Tbs Ps L P1 q1 qi H) (nC : H c = none) (nP : H P' = none) (cP : c ≠ P') (hP : H P1 = some (.tbl ps)) (tr : TriplesOk ps.toList)
    (h3 : ∀ (pos : Pos) (cv : Value), codeAmong pos ps.toList = some cv → ∃ c P', cv = .ref c ∧ H c = some (CodeT c q1 P') ∧ P' ∉ Ps ∧ TabI H P' qi) :
    Tbs Ps L P1 q1 qi (lamH H P1 (ps ++ #[rawInt pos.line, rawInt pos.col, .ref c]) c q1 P') ∧ P' ∉ Ps ∧ TabI (lamH H P1 (ps ++ #[rawInt pos.line, rawInt pos.col, .ref c]) c q1 P') P' qi := by
  have keep := lamH_keep (q := q1) (ps := ps ++ #[rawInt pos.line, rawInt pos.col, .ref c]) (P := P1) nC nP
  have kc : ∀ c0 q0 P0, H c0 = some (CodeT c0 q0 P0) → lamH H P1 (ps ++ #[rawInt pos.line, rawInt pos.col, .ref c]) c q1 P' c0 = some (CodeT c0 q0 P0) := fun c0 q0 P0 e => keep _ _ (fun z => codeT_ne ps (Option.some.inj (e.symm.trans (z ▸ hP)))) e
  have ti : ∀ {Z : Addr} {z : Str}, Z ≠ P1 → TabI H Z z → TabI (lamH H P1 (ps ++ #[rawInt pos.line, rawInt pos.col, .ref c]) c q1 P') Z z := fun {Z z} n ⟨us, g1, g2, g3⟩ => ⟨us, keep _ _ n g1, g2, fun p2 cv hc => by
    obtain ⟨c0, P0, e, h⟩ := g3 p2 cv hc
    exact ⟨c0, P0, e, kc _ _ _ h⟩⟩
  have nPs : P' ∉ Ps := fun m => by
    obtain ⟨us, e⟩ := h.at_ _ m
    rw [nP] at e
    cases e
  have own : TabI (lamH H P1 (ps ++ #[rawInt pos.line, rawInt pos.col, .ref c]) c q1 P') P' qi := .nil (by unfold lamH; rw [upd_ne cP.symm, upd_same])
  have Pc := ne_of_none hP nC
  have PP := ne_of_none hP nP
  have atP : lamH H P1 (ps ++ #[rawInt pos.line, rawInt pos.col, .ref c]) c q1 P' P1 = some (.tbl (ps ++ #[rawInt pos.line, rawInt pos.col, .ref c])) := by unfold lamH; rw [upd_ne Pc, upd_ne PP, upd_same]
  have eL : (ps ++ #[rawInt pos.line, rawInt pos.col, .ref c]).toList = ps.toList ++ [rawInt pos.line, rawInt pos.col, .ref c] := by simp
  refine ⟨⟨fun x hx => ?_, fun x hx => ti (S.iL x hx).2 (h.si x hx), _, atP, by rw [eL]; exact PySem.TriplesOk_snoc _ _ _ _ tr, fun p2 cv hc => ?_⟩, nPs, own⟩
  · by_cases e : x = P1
    · exact ⟨_, by rw [e]; exact atP⟩
    · obtain ⟨us, a⟩ := h.at_ x hx
      exact ⟨us, keep _ _ e a⟩
  · rw [eL] at hc
    rcases LamX.among_app _ tr hc with z | z
    · obtain ⟨c0, P0, e, k, n, t⟩ := h3 p2 cv z
      exact ⟨c0, P0, e, kc _ _ _ k, n, ti (fun y => n (y ▸ S.i1)) t⟩
    · exact ⟨c, P', z, upd_same, nPs, own⟩
/-- a lambda of the lambda is made -/
theorem Tbs.made2 {P c P' : Addr} {ps : Array Value} {pos : Pos} (S : TbsS Ps L P1) (h : Tbs Ps L P1 q1 qi H) (nPs : P ∉ Ps) (nC : H c = none) (nP : H P' = none) (hP : H P = some (.tbl ps)) (tr : TriplesOk ps.toList)
    (h3 : ∀ (pos : Pos) (cv : Value), codeAmong pos ps.toList = some cv → ∃ c P', cv = .ref c ∧ H c = some (CodeT c qi P')) : Tbs Ps L P1 q1 qi (lamH H P (ps ++ #[rawInt pos.line, rawInt pos.col, .ref c]) c qi P') := by
  have keep := lamH_keep (q := qi) (ps := ps ++ #[rawInt pos.line, rawInt pos.col, .ref c]) (P := P) nC nP
  have mine : TabI (lamH H P (ps ++ #[rawInt pos.line, rawInt pos.col, .ref c]) c qi P') P qi := tabI_made nC nP hP tr h3
  have kc : ∀ c0 q0 P0, H c0 = some (CodeT c0 q0 P0) → lamH H P (ps ++ #[rawInt pos.line, rawInt pos.col, .ref c]) c qi P' c0 = some (CodeT c0 q0 P0) := fun c0 q0 P0 e => keep _ _ (fun z => codeT_ne ps (Option.some.inj (e.symm.trans (z ▸ hP)))) e
  have ti : ∀ {Z : Addr} {z : Str}, Z ≠ P → TabI H Z z → TabI (lamH H P (ps ++ #[rawInt pos.line, rawInt pos.col, .ref c]) c qi P') Z z := fun {Z z} n ⟨us, g1, g2, g3⟩ => ⟨us, keep _ _ n g1, g2, fun p2 cv hc => by
    obtain ⟨c0, P0, e, h⟩ := g3 p2 cv hc
    exact ⟨c0, P0, e, kc _ _ _ h⟩⟩
  have ps_ne : ∀ x ∈ Ps, x ≠ P := fun x hx z => nPs (z ▸ hx)
  obtain ⟨us, g1, g2, g3⟩ := h.ne
  refine ⟨fun x hx => (h.at_ x hx).imp fun us a => keep _ _ (ps_ne x hx) a, fun x hx => ti (ps_ne _ (S.iL x hx).1) (h.si x hx), us, keep _ _ (ps_ne _ S.i1) g1, g2, fun p2 cv hc => ?_⟩
  obtain ⟨c0, P0, e, k, n, t⟩ := g3 p2 cv hc
  refine ⟨c0, P0, e, kc _ _ _ k, n, ?_⟩
  by_cases y : P0 = P
  · exact y ▸ mine
  · exact ti y t
end
theorem extN_lamH {H : Hp} {P c P' : Addr} {ps us : Array Value} {q : Str} (hP : H P = some (.tbl us)) (nC : H c = none) (nP : H P' = none) : LamX.ExtN H (lamH H P ps c q P') := fun b o z no => lamH_keep nC nP b o (fun y => no us (Option.some.inj (z.symm.trans (y ▸ hP)))) z
section
variable {Ps : List Addr} {L : List (Addr × Str)} {P1 : Addr} {q1 qi : Str} {H : Hp} {e : En} {G : Hp} {M : List Addr}
/-- what is kept at the making of a lambda -/
structure Made (e : En) (G H H1 : Hp) (M : List Addr) (Ps : List Addr) (L : List (Addr × Str)) (P1 : Addr) (q1 qi : Str) : Prop where
  w : Wd e G H1 M
  tb : Tbs Ps L P1 q1 qi H1
  x : LamX.ExtN H H1
/-- a lambda of a simple table -/
theorem go_L {P : Addr} {q : Str} {k : Hp → Addr → HO → Prop} (S : TbsS Ps L P1) (w : Wd e G H M) (eT : e.T = []) (cov : CovT e) (h : Tbs Ps L P1 q1 qi H) (hm : (P, q) ∈ L)
    (go : ∀ H1 c' P', Made e G H H1 M Ps L P1 q1 qi → H1 c' = some (CodeT c' q P') → k H1 c' (CodeT c' q P')) : LamGo q P H k := by
  obtain ⟨ps, h1, h2, h3⟩ := h.si _ hm
  refine ⟨ps, h1, h2, fun pos n c' P' n1 n2 n3 => ?_, fun pos cv hc => ?_⟩
  · have x := extN_lamH (q := q) (ps := ps ++ #[rawInt pos.line, rawInt pos.col, .ref c']) h1 n1 n2
    exact go _ c' P' ⟨wd_lam w x (eT ▸ tabs_nil) cov.1 cov.2, h.made S hm n1 n2 h1 h2 h3, x⟩ upd_same
  · obtain ⟨c', P', e, hc'⟩ := h3 pos cv hc
    exact ⟨c', P', e, hc', go H c' P' ⟨w, h, LamX.ExtN.refl _⟩ hc'⟩
/-- the lambda that makes lambdas -/
theorem go_N {k : Hp → Addr → HO → Prop} (S : TbsS Ps L P1) (w : Wd e G H M) (eT : e.T = []) (cov : CovT e) (h : Tbs Ps L P1 q1 qi H)
    (go : ∀ H1 c' P', Made e G H H1 M Ps L P1 q1 qi → P' ∉ Ps → TabI H1 P' qi → H1 c' = some (CodeT c' q1 P') → k H1 c' (CodeT c' q1 P')) : LamGo q1 P1 H k := by
  obtain ⟨ps, h1, h2, h3⟩ := h.ne
  refine ⟨ps, h1, h2, fun pos n c' P' n1 n2 n3 => ?_, fun pos cv hc => ?_⟩
  · have x := extN_lamH (q := q1) (ps := ps ++ #[rawInt pos.line, rawInt pos.col, .ref c']) h1 n1 n2
    obtain ⟨a, b, d⟩ := h.made1 (pos := pos) S n1 n2 n3 h1 h2 h3
    exact go _ c' P' ⟨wd_lam w x (eT ▸ tabs_nil) cov.1 cov.2, a, x⟩ b d upd_same
  · obtain ⟨c', P', e, hc', n, t⟩ := h3 pos cv hc
    exact ⟨c', P', e, hc', go H c' P' ⟨w, h, LamX.ExtN.refl _⟩ n t hc'⟩
/-- a lambda of that lambda -/
theorem go_I {P : Addr} {k : Hp → Addr → HO → Prop} (S : TbsS Ps L P1) (w : Wd e G H M) (eT : e.T = []) (cov : CovT e) (h : Tbs Ps L P1 q1 qi H) (hP : P ∉ Ps) (ti : TabI H P qi)
    (go : ∀ H1 c' P', Made e G H H1 M Ps L P1 q1 qi → H1 c' = some (CodeT c' qi P') → k H1 c' (CodeT c' qi P')) : LamGo qi P H k := by
  obtain ⟨ps, h1, h2, h3⟩ := ti
  refine ⟨ps, h1, h2, fun pos n c' P' n1 n2 n3 => ?_, fun pos cv hc => ?_⟩
  · have x := extN_lamH (q := qi) (ps := ps ++ #[rawInt pos.line, rawInt pos.col, .ref c']) h1 n1 n2
    exact go _ c' P' ⟨wd_lam w x (eT ▸ tabs_nil) cov.1 cov.2, h.made2 S hP n1 n2 h1 h2 h3, x⟩ upd_same
  · obtain ⟨c', P', e, hc'⟩ := h3 pos cv hc
    exact ⟨c', P', e, hc', go H c' P' ⟨w, h, LamX.ExtN.refl _⟩ hc'⟩
end
/-- the law begins: the tables are told apart -/
theorem law_startK {cs : List (Addr × Addr)} {H : Hp} {a : Addr} {xs : List V} {K : PySem.W.Frag} (T : List (Addr × Str)) (eT : T.map (·.1) = cs.map (·.2)) (only : OnlyT cs H) (ht : ∀ p ∈ cs, H p.2 = some (.tbl #[])) (ha : SqL K H a xs) :
    ∃ (en : En) (G0 : Hp), Wd en G0 H [] ∧ SqL K G0 a xs ∧ en.T = [] ∧ CovT en := by
  obtain ⟨en, G0, w, h1, e1, cov⟩ := law_starts T eT only ht ha
  have nt : ∀ b o, G0 b = some o → NoT o := w.nt
  refine ⟨⟨G0, G0, [], []⟩, G0, ⟨w.le, fun a ha => (nomatch ha), List.nodup_nil, fun b hb => ?_, Same.refl _, fun _ _ => rfl, fun b o _ hb => w.le _ _ hb, w.nt, fun a ha => (nomatch ha), tabs_nil⟩, h1, rfl, fun b hb => .inr ⟨fun m => (nomatch m), fun o ho => nt b o ho⟩, fun r hr => (nomatch hr)⟩
  cases q : G0 b with
  | none => exact absurd q hb
  | some o => rw [w.le _ _ q]; simp
end Q
namespace Q
open PySem PySem.Spec PyProof.Rows L2
def kids (v2 v3 : V) : List V := [v2, v3].filter fun v => !decide (v = .non)
/-- a plan, or None; its branches and its entries counted -/
def BrX (C Ce : Addr) (G : Hp) : Tr Ck → V → Prop
  | .no, v => v = .non
  | .done, v => ∃ a dx bl el, v = .ref a ∧ G a = some (.ins C dx (planF .non .non .non bl el)) ∧ G bl = some (.lst []) ∧ G el = some (.lst [])
  | .ask c p f, v => ∃ a dx bl el en vp vf es, v = .ref a ∧ G a = some (.ins C dx (planF (.ref en) vp vf bl el)) ∧ G bl = some (.lst (kids vp vf)) ∧ G el = some (.lst es) ∧ es.length = (Tr.ask c p f).size ∧ EntAt Ce G en c.1 c.2.1 c.2.2 ∧ BrX C Ce G p vp ∧ BrX C Ce G f vf
section
variable {K : PySem.W.Frag} {C Ce Cb : Addr} {G G' : Hp}
theorem BrX.same (s : Same G G') : ∀ {t : Tr Ck} {v : V}, BrX C Ce G t v → BrX C Ce G' t v
  | .no, _, h => h
  | .done, _, ⟨a, dx, bl, el, e, h1, h2, h3⟩ => ⟨a, dx, bl, el, e, s _ _ h1, s _ _ h2, s _ _ h3⟩
  | .ask c p f, _, ⟨a, dx, bl, el, en, vp, vf, es, e, h1, h2, h3, h4, h5, h6, h7⟩ => ⟨a, dx, bl, el, en, vp, vf, es, e, s _ _ h1, s _ _ h2, s _ _ h3, h4, h5.same s, BrX.same s h6, BrX.same s h7⟩
theorem BrX.at_ : ∀ {t : Tr Ck} {v : V}, BrX C Ce G t v → BrAt C Ce G t v
  | .no, _, h => h
  | .done, _, h => h
  | .ask c p f, _, ⟨a, dx, bl, el, en, vp, vf, es, e, h1, h2, h3, h4, h5, h6, h7⟩ => ⟨a, dx, bl, el, en, vp, vf, _, es, e, h1, h2, h3, Nat.le_of_eq h4, h5, h6.at_, h7.at_⟩
theorem BrX.non {t : Tr Ck} {v : V} (h : BrX C Ce G t v) : decide (v = .non) = t.isNo := h.at_.non
theorem BrX.ins {t : Tr Ck} {v : V} (h : BrX C Ce G t v) (n : t.isNo = false) : ∃ a dx v1 v2 v3 bl el es, v = .ref a ∧ G a = some (.ins C dx (planF v1 v2 v3 bl el)) ∧ G el = some (.lst es) ∧ es.length = t.size := by
  cases t with
  | no => cases n
  | done =>
    obtain ⟨a, dx, bl, el, e, h1, h2, h3⟩ := h
    exact ⟨a, dx, _, _, _, bl, el, [], e, h1, h3, rfl⟩
  | ask c p f =>
    obtain ⟨a, dx, bl, el, en, vp, vf, es, e, h1, h2, h3, h4, _⟩ := h
    exact ⟨a, dx, _, _, _, bl, el, es, e, h1, h3, h4⟩
theorem brs_sum {α : Type} (p f : Tr α) : ((brs p f).map Tr.size).sum = p.size + f.size := by
  unfold brs
  cases p <;> cases f <;> simp [Tr.isNo, Tr.size]
theorem kids_at {p f : Tr Ck} {v2 v3 : V} (h2 : BrX C Ce G p v2) (h3 : BrX C Ce G f v3) : Paired (fun v t => BrX C Ce G t v) (kids v2 v3) (brs p f) := by
  have e2 := h2.non
  have e3 := h3.non
  unfold kids brs
  rw [List.filter_cons, List.filter_cons, List.filter_cons, List.filter_cons, List.filter_nil, List.filter_nil, e2, e3]
  cases p.isNo <;> cases f.isNo
  · exact .cons h2 (.cons h3 .nil)
  · exact .cons h2 .nil
  · exact .cons h3 .nil
  · exact .nil
/-- the three parts of a plan -/
def PlanV (C : Addr) (G : Hp) (v v1 v2 v3 : V) : Prop := ∃ a dx bl el, v = .ref a ∧ G a = some (.ins C dx (planF v1 v2 v3 bl el))
def spPlInitX (C Ce : Addr) : Sp := fun vs H Q _ => ∃ (G : Hp) (x dx : Addr) (v1 v2 v3 : V) (p f : Tr Ck), vs = [.ref x, v1, v2, v3] ∧ Gh G H ∧ G x = none ∧ H x = some (.ins C dx []) ∧ (v1 = .non ∨ ∃ a t i b, v1 = .ref a ∧ EntAt Ce G a t i b) ∧ BrX C Ce G p v2 ∧ BrX C Ce G f v3 ∧ p.size ≤ 1000 ∧ f.size ≤ 1000 ∧
  ∀ (G' H' : Hp) (bl el : Addr) (es : List V), But x H H' → Gh G' H' → Same G G' → (∀ a, H a ≠ none → G' a = G a) → G' bl = some (.lst (kids v2 v3)) → G' el = some (.lst es) → es.length = (if v1 = .non then 0 else 1) + (p.size + f.size) → H' x = some (.ins C dx (planF v1 v2 v3 bl el)) → Q .non H'
def spDoneX (C Ce : Addr) : Sp := fun vs H Q _ => ∃ (G : Hp), vs = [] ∧ Gh G H ∧ Ret G H (fun v G' => BrX C Ce G' .done v) Q
/-- what an argument is: an entry or none; a branch or none -/
def entO (K : PySem.W.Frag) (Ce : Addr) (G : Hp) (v : V) : Option Ck → Prop
  | some c => ∃ a, v = .ref a ∧ EntAt Ce G a c.1 c.2.1 c.2.2
  | none => ∃ t, TyX K G v t ∧ PySem.W.kitOne K t (.ref Ce) = some false
def brO (K : PySem.W.Frag) (C Ce : Addr) (G : Hp) (v : V) : Option (Tr Ck) → Prop
  | some t => BrX C Ce G t v ∧ t.size ≤ 1000
  | none => v ≠ .non ∧ ∃ t, TyX K G v t ∧ PySem.W.kitOne K t (.ref C) = some false
def askBad : Option Ck → Option (Tr Ck) → Option (Tr Ck) → Option Nat
  | none, _, _ => some 0
  | some _, none, _ => some 1
  | some _, some _, none => some 2
  | some _, some p, some f => if (p.isNo && f.isNo) = true then some 2 else none
def spAskX (K : PySem.W.Frag) (C Ce Cb : Addr) : Sp := fun vs H Q E => ∃ (G : Hp) (v1 v2 v3 : V) (o1 : Option Ck) (o2 o3 : Option (Tr Ck)), vs = [v1, v2, v3] ∧ Gh G H ∧ entO K Ce G v1 o1 ∧ brO K C Ce G v2 o2 ∧ brO K C Ce G v3 o3 ∧
  (∀ k, askBad o1 o2 o3 = some k → RetX G H Cb "at" (.int (k : Int)) E) ∧ ∀ c p f, o1 = some c → o2 = some p → o3 = some f → (p.isNo && f.isNo) = false → Ret G H (fun v G' => BrX C Ce G' (.ask c p f) v ∧ PlanV C G' v v1 v2 v3) Q
def spPlLen (C Ce : Addr) : Sp := fun vs H Q _ => ∃ (G : Hp) (v : V) (t : Tr Ck), vs = [v] ∧ Gh G H ∧ BrX C Ce G t v ∧ t.isNo = false ∧ t.size ≤ 1000000 ∧ Ret G H (fun r _ => r = .int (t.size : Int)) Q
def Tr.deep {α : Type} : Tr α → Nat
  | .ask _ p f => 1 + max p.deep f.deep
  | _ => 0
def spPlDeep (C Ce : Addr) : Nat → Sp
  | 0 => fun _ _ _ _ => False
  | d + 1 => fun vs H Q _ => ∃ (G : Hp) (v : V) (t : Tr Ck), vs = [v] ∧ d ≤ 4 ∧ Gh G H ∧ BrX C Ce G t v ∧ t.ok d = true ∧ Ret G H (fun r _ => r = .int (t.deep : Int)) Q
def spPlFld (C : Addr) (fst : Bool) : Sp := fun vs H Q _ => ∃ (G : Hp) (v v1 v2 v3 : V), vs = [v] ∧ Gh G H ∧ PlanV C G v v1 v2 v3 ∧ Ret G H (fun r _ => r = if fst = true then v2 else v3) Q
/-- a plan by the addresses of its entries -/
def EnsAt (C : Addr) (G : Hp) : Tr Addr → V → Prop
  | .no, v => v = .non
  | .done, v => PlanV C G v .non .non .non
  | .ask en p f, v => ∃ vp vf, PlanV C G v (.ref en) vp vf ∧ EnsAt C G p vp ∧ EnsAt C G f vf
theorem PlanV.same {C : Addr} {v v1 v2 v3 : V} (h : PlanV C G v v1 v2 v3) (s : Same G G') : PlanV C G' v v1 v2 v3 := by
  obtain ⟨a, dx, bl, el, e, h⟩ := h
  exact ⟨a, dx, bl, el, e, s _ _ h⟩
theorem EnsAt.same {C : Addr} (s : Same G G') : ∀ {t : Tr Addr} {v : V}, EnsAt C G t v → EnsAt C G' t v
  | .no, _, h => h
  | .done, _, h => PlanV.same h s
  | .ask en p f, _, ⟨vp, vf, h1, h2, h3⟩ => ⟨vp, vf, h1.same s, EnsAt.same s h2, EnsAt.same s h3⟩
theorem EnsAt.non {C : Addr} {t : Tr Addr} {v : V} (h : EnsAt C G t v) : decide (v = .non) = t.isNo := by
  cases t with
  | no => rw [show v = .non from h] <;> rfl
  | done =>
    obtain ⟨a, _, _, _, rfl, _⟩ := h
    rfl
  | ask en p f =>
    obtain ⟨_, _, ⟨a, _, _, _, rfl, _⟩, _⟩ := h
    rfl
end
section
variable {K : PySem.W.Frag} {C Ce Cb : Addr} {e : En} {G H : Hp} {M : List Addr} {Q : VK} {E : XK}
theorem u_plMakeX {v1 v2 v3 : V} {p f : Tr Ck} (w : Wd e G H M) (h1 : v1 = .non ∨ ∃ a t i b, v1 = .ref a ∧ EntAt Ce G a t i b) (h2 : BrX C Ce G p v2) (h3 : BrX C Ce G f v3) (z1 : p.size ≤ 1000) (z2 : f.size ≤ 1000)
    (k : ∀ a dx bl el es G' H', Wd e G' H' M → Same G G' → Same H H' → G' a = some (.ins C dx (planF v1 v2 v3 bl el)) → G' bl = some (.lst (kids v2 v3)) → G' el = some (.lst es) → es.length = (if v1 = .non then 0 else 1) + (p.size + f.size) → Q (.ref a) H') :
    MakeGo C (spPlInitX C Ce) [v1, v2, v3] E H Q := by
  refine make_go w fun x dx G1 H1 hx nm s1 t1 w1 hi1 n0 => ?_
  refine ⟨G1, x, dx, v1, v2, v3, p, f, rfl, w1.gh, (w1.mu x List.mem_cons_self).1, hi1, h1.imp id (fun ⟨a, t, i, b, e, h⟩ => ⟨a, t, i, b, e, h.same s1⟩), h2.same s1, h3.same s1, z1, z2, fun G2 H2 bl el es b2 s2 s3 fr hbl hel hle hi2 => ⟨rfl, ?_⟩⟩
  have w2 := wd_made w1 b2 hi2 rfl s2 s3 fr
  obtain ⟨w4, s4⟩ := wd_freeze w2 hi2 n0
  refine k x dx bl el es _ H2 w4 (s1.trans (s3.trans s4)) (fun a o h => ?_) upd_same (s4 _ _ hbl) (s4 _ _ hel) hle
  refine b2 a o (fun q => ?_) (t1 _ _ h)
  subst q
  rw [hx] at h
  cases h
theorem u_doneX (w : Wd e G H M) (k : ∀ v G' H', Wd e G' H' M → Same G G' → Same H H' → BrX C Ce G' .done v → Q v H') : spDoneX C Ce [] H Q E :=
  ⟨G, rfl, w.gh, ret_use w fun v G' H' w' s1 s2 p => k v G' H' w' s1 s2 p⟩
theorem u_askX {v1 v2 v3 : V} {o1 : Option Ck} {o2 o3 : Option (Tr Ck)} (w : Wd e G H M) (h1 : entO K Ce G v1 o1) (h2 : brO K C Ce G v2 o2) (h3 : brO K C Ce G v3 o3)
    (bad : ∀ k, askBad o1 o2 o3 = some k → ∀ d G' H', Wd e G' H' M → Same G G' → Same H H' → G' d = some (.xd [("at", .int (k : Int))]) → E (.ref Cb) (some d) H')
    (good : ∀ c p f, o1 = some c → o2 = some p → o3 = some f → (p.isNo && f.isNo) = false → ∀ v G' H', Wd e G' H' M → Same G G' → Same H H' → BrX C Ce G' (.ask c p f) v → PlanV C G' v v1 v2 v3 → Q v H') : spAskX K C Ce Cb [v1, v2, v3] H Q E :=
  ⟨G, v1, v2, v3, o1, o2, o3, rfl, w.gh, h1, h2, h3, fun k hk => retX_use w (bad k hk), fun c p f e1 e2 e3 n => ret_use w fun v G' H' w' s1 s2 q => good c p f e1 e2 e3 n v G' H' w' s1 s2 q.1 q.2⟩
theorem u_plLen {v : V} {t : Tr Ck} (w : Wd e G H M) (h1 : BrX C Ce G t v) (n : t.isNo = false) (z : t.size ≤ 1000000) (k : ∀ G' H', Wd e G' H' M → Same G G' → Same H H' → Q (.int (t.size : Int)) H') : spPlLen C Ce [v] H Q E :=
  ⟨G, v, t, rfl, w.gh, h1, n, z, ret_use w fun v G' H' w' s1 s2 p => by subst p; exact k G' H' w' s1 s2⟩
theorem u_plDeep {v : V} {t : Tr Ck} {d : Nat} (w : Wd e G H M) (hd : d ≤ 4) (h1 : BrX C Ce G t v) (o : t.ok d = true) (k : ∀ G' H', Wd e G' H' M → Same G G' → Same H H' → Q (.int (t.deep : Int)) H') : spPlDeep C Ce (d + 1) [v] H Q E :=
  ⟨G, v, t, rfl, hd, w.gh, h1, o, ret_use w fun v G' H' w' s1 s2 p => by subst p; exact k G' H' w' s1 s2⟩
theorem u_plFld {v v1 v2 v3 : V} {fst : Bool} (w : Wd e G H M) (h1 : PlanV C G v v1 v2 v3) (k : ∀ G' H', Wd e G' H' M → Same G G' → Same H H' → Q (if fst = true then v2 else v3) H') : spPlFld C fst [v] H Q E :=
  ⟨G, v, v1, v2, v3, rfl, w.gh, h1, ret_use w fun v G' H' w' s1 s2 p => by subst p; exact k G' H' w' s1 s2⟩
end
end Q
namespace Q
open PySem PySem.Spec PyProof.Rows L2
/-- a def that changes one list of its caller's, at l -/
def RetM (l : Addr) (G H : Hp) (P : V → Hp → List V → Prop) (Q : VK) : Prop := ∀ v H' G' zs, But l H H' → H' l = some (.lst zs) → Gh G' H' → Same G G' → (∀ a, H a ≠ none → G' a = G a) → P v G' zs → Q v H'
theorem retM_of {l : Addr} {G H G' H' : Hp} {M : List Addr} {P : V → Hp → List V → Prop} {Q : VK} {v : V} {zs : List V} (k : RetM l G H P Q) (w : Wd ⟨H, G, [l], []⟩ G' H' M) (h : H' l = some (.lst zs)) (p : P v G' zs) : Q v H' :=
  k v H' G' zs (fun a o n z => w.kp a o (by simpa using n) z) h w.gh w.gr w.fr p
theorem retM_use {l : Addr} {e : En} {G H : Hp} {M : List Addr} {P : V → Hp → List V → Prop} {Q : VK} (w : Wd e G H M) (hl : l ∈ M) (k : ∀ v zs G' H', Wd e G' H' M → Same G G' → But l H H' → H' l = some (.lst zs) → P v G' zs → Q v H') : RetM l G H P Q := by
  intro v H' G' zs b h s2 s3 fr p
  have w1 := wd_but w hl b h
  refine k v zs G' H' ⟨s2.1, fun a ha => ?_, w.nd, w1.dom, fun a o z => s3 _ _ (w.gr _ _ z), fun a ha => (fr a (w.dom a ha)).trans (w.fr a ha), w1.kp, s2.2, w1.mt, w1.tb⟩ s3 b h p
  obtain ⟨g1, ⟨o, g2⟩, g3⟩ := w.mu a ha
  exact ⟨(fr a (some_ne g2)).trans g1, (w1.mu a ha).2.1, g3⟩
abbrev zPass : Str := "pass"
abbrev zFail : Str := "fail"
/-- the entries that are asked and the words for them; the number of the first wrong word, with the entry that was asked for it -/
def plE (W : Nat → V) : Tr Addr → Nat → List (Addr × V) × Option (Nat × Addr)
  | .ask en p f, k =>
    if W k = .str zPass then (if p.isNo = true then ([], some (k, en)) else ((en, W k) :: (plE W p (k + 1)).1, (plE W p (k + 1)).2))
    else if W k = .str zFail then (if f.isNo = true then ([], some (k, en)) else ((en, W k) :: (plE W f (k + 1)).1, (plE W f (k + 1)).2))
    else ([], some (k, en))
  | _, _ => ([], none)
def nextT (v : V) (p f : Tr Addr) : Tr Addr := if v = .str zPass then p else if v = .str zFail then f else .no
theorem plE_ask (W : Nat → V) (en : Addr) (p f : Tr Addr) (k : Nat) : plE W (.ask en p f) k = if (nextT (W k) p f).isNo = true then ([], some (k, en)) else ((en, W k) :: (plE W (nextT (W k) p f) (k + 1)).1, (plE W (nextT (W k) p f) (k + 1)).2) := by
  unfold nextT
  rw [plE]
  by_cases h1 : W k = .str zPass
  · rw [if_pos h1, if_pos h1]
  · rw [if_neg h1, if_neg h1]
    by_cases h2 : W k = .str zFail
    · rw [if_pos h2, if_pos h2]
    · rw [if_neg h2, if_neg h2, if_pos (show (Tr.no : Tr Addr).isNo = true from rfl)]
theorem nextT_deep (v : V) (en : Addr) (p f : Tr Addr) : (nextT v p f).deep + 1 ≤ (Tr.ask en p f).deep := by
  unfold nextT
  split
  · simp only [Tr.deep]; omega
  · split
    · simp only [Tr.deep]; omega
    · simp only [Tr.deep]; omega
abbrev EwAt (G : Hp) (xs : List V) (r : List (Addr × V)) : Prop := Paired (fun v (q : Addr × V) => ∃ a, v = .ref a ∧ G a = some (.tup [.ref q.1, q.2])) xs r
theorem EwAt.same {G G' : Hp} {xs : List V} {r : List (Addr × V)} (h : EwAt G xs r) (s : Same G G') : EwAt G' xs r := Paired.mapP h fun _ _ ⟨a, e, h⟩ => ⟨a, e, s _ _ h⟩
def asked (r : List (Addr × V)) : List V := r.map fun q => V.ref q.1
/-- a plan called with an answerer t that notes each entry in the list at l and tells W 0, W 1, .. -/
def spPlay (K : PySem.W.Frag) (C Cb : Addr) (t : V → XK → Hp → VK → Prop) (o : Addr) : Hp → VK → XK → Prop := fun H Q E => ∃ (G : Hp) (tr : Tr Addr) (l : Addr) (xs0 : List V) (W : Nat → V), Gh G H ∧ EnsAt C G tr (.ref o) ∧ tr.deep ≤ 5 ∧ G l = none ∧ H l = some (.lst xs0) ∧ xs0.length ≤ 1000 ∧
  (∀ k, ∃ u, Kd K G (W k) u) ∧
  (∀ (e : En) (Gx Hx : Hp) (M : List Addr) (en : Addr) (ys : List V) (E' : XK) (Q' : VK), Wd e Gx Hx M → l ∈ M → Same G Gx → Hx l = some (.lst (xs0 ++ ys)) → ys.length ≤ 4 →
    (∀ G2 H2, Wd e G2 H2 M → Same Gx G2 → But l Hx H2 → H2 l = some (.lst (xs0 ++ ys ++ [.ref en])) → Q' (W ys.length) H2) → t (.ref en) E' Hx Q') ∧
  (∀ r, plE W tr 0 = (r, none) → RetM l G H (fun v G' zs => zs = xs0 ++ asked r ∧ ∃ q xs, v = .ref q ∧ G' q = some (.tup xs) ∧ EwAt G' xs r) Q) ∧
  ∀ r i en, plE W tr 0 = (r, some (i, en)) → ∀ d, RetM l G H (fun _ G' zs => zs = xs0 ++ asked r ++ [.ref en] ∧ G' d = some (.xd [("at", .int (i : Int))])) (fun _ H' => E (.ref Cb) (some d) H')
theorem play_of {P : Program} {w : World} {K : PySem.W.Frag} {mg : Str → Option Value} {base : Heap} {k k0 : Nat} {C g : Addr} {x qual sf a : Str} {st : Stmt} {fd : FuncData} {N : List Str} {sp : (V → XK → Hp → VK → Prop) → Addr → Hp → VK → XK → Prop} (F : FnP K x qual st [] g fd) (cc : StX.CallO K C g)
    (S : FnScope N [sf, a] (defScope st)) (b : ∀ (kV doc pm : Value) (an : Option Addr) (cdv ct : Value) (us : List Value), us.length = [sf, a].length → bindArgs (PySem.W.fnOf x qual (defArgs st) (defBody st) (defScope st) .none kV doc pm an cdv ct) ⟨us, []⟩ = pure ([sf, a].zip us))
    (body : ∀ (cdv : Value) (A : Around) (outer : List Env) (s : Shared) (H : Hp) (f c' : Addr) (q : Str) (P' o : Addr) (Q : VK) (E : XK) (t : V → XK → Hp → VK → Prop), Room k (A.deeper (envOfC qual (defScope st) s.heap.objs.size g cdv)) → CallW P w K mg base outer s H k0 f c' (CodeT c' q P') t → H c' = some (CodeT c' q P') → sp t o H Q E →
      ∃ t', PSs (cxOf (L2.CX P w) P w K mg base N qual (defScope st) g cdv A outer s H E) (defBody st) t' ∧ t' { nx := fun _ H' => Q .non H', rt := Q } (L2.start N [.ref o, .ref f]) H) : PlayG P w K mg base (k + 1) k0 C sp := by
  refine ⟨g, cc, fun A outer s H f c' q P' o Q E t hr e0 kin c hc h => ?_⟩
  obtain ⟨oc, od, dV, kV, doc, pm, an, cdv, ct, osl, rfl, lk, hcx, _, _⟩ := F.ex
  exact LamX.run_ofS (CX := L2.CX P w) (N := N) (ps := [sf, a]) (us := [.ref o, .ref f]) (vs := [.ref o, .ref f]) lk hcx S hr e0 ((F.bindsN b) s [.ref o, .ref f] kin rfl) (.cons rfl (.cons rfl .nil)) rfl fun hr' => body cdv A outer s H f c' q P' o Q E t hr' c hc h
end Q
namespace Q
open PySem PySem.Spec PyProof.Rows L2
def spAnswer : Sp := fun vs H Q _ => ∃ (G : Hp) (l ls : Addr) (en v : V) (ys ws : List V), vs = [en, .ref ls, .ref l] ∧ Gh G H ∧ G l = none ∧ H l = some (.lst ys) ∧ ys.length ≤ 100000 ∧ G ls = some (.lst ws) ∧ ws[ys.length]? = some v ∧ RetM l G H (fun r _ zs => zs = ys ++ [en] ∧ r = v) Q
theorem u_answer {e : En} {G H : Hp} {M : List Addr} {Q : VK} {E : XK} {l ls : Addr} {en v : V} {ys ws : List V} (w : Wd e G H M) (hl : l ∈ M) (h : H l = some (.lst ys)) (z : ys.length ≤ 100000) (hs : G ls = some (.lst ws)) (hv : ws[ys.length]? = some v)
    (k : ∀ G' H', Wd e G' H' M → Same G G' → But l H H' → H' l = some (.lst (ys ++ [en])) → Q v H') : spAnswer [en, .ref ls, .ref l] H Q E :=
  ⟨G, l, ls, en, v, ys, ws, rfl, w.gh, (w.mu l hl).1, h, z, hs, hv, retM_use w hl fun r zs G' H' w' s b h' p => by
    obtain ⟨rfl, rfl⟩ := p
    exact k G' H' w' s b h'⟩
/-- a heard error: BadEntry's `at`, told with the word "entry" -/
def HrE (Cb : Addr) (Q : VK) : XK := fun cls d H' => ∃ (e : En) (G : Hp) (M : List Addr) (v : V) (dd : Addr), Wd e G H' M ∧ cls = .ref Cb ∧ d = some dd ∧ G dd = some (.xd [("at", v)]) ∧
  ∀ a G2 H2, Wd e G2 H2 M → Same G G2 → Same H' H2 → G2 a = some (.tup [.str "entry", v]) → Q (.ref a) H2
/-- .. a value, told in a list -/
def HrV (Q : VK) : VK := fun v H' => ∃ (e : En) (G : Hp) (M : List Addr), Wd e G H' M ∧ ∀ a G2 H2, Wd e G2 H2 M → Same G G2 → Same H' H2 → G2 a = some (.lst [v]) → Q (.ref a) H2
def THe (Cb : Addr) : (XK → Hp → VK → Prop) → Hp → VK → Prop := fun tl H Q => ∀ (E : XK) (Q' : VK), (∀ cls d H1, HrE Cb Q cls d H1 → E cls d H1) → (∀ v H1, HrV Q v H1 → Q' v H1) → tl E H Q'
/-- the three entries of a turn, at their addresses -/
def CksE (Ce : Addr) (G : Hp) (l : Addr) (g : Nat → Ck) (ad : Nat → Addr) : Prop := G l = some (.lst [.ref (ad 0), .ref (ad 1), .ref (ad 2)]) ∧ ∀ i, i < 3 → EntAt Ce G (ad i) (g i).1 (g i).2.1 (g i).2.2
theorem CksE.same {Ce l : Addr} {G G' : Hp} {g : Nat → Ck} {ad : Nat → Addr} (h : CksE Ce G l g ad) (s : Same G G') : CksE Ce G' l g ad := ⟨s _ _ h.1, fun i hi => (h.2 i hi).same s⟩
theorem CksE.get {Ce l : Addr} {G : Hp} {g : Nat → Ck} {ad : Nat → Addr} {k : Nat} (h : CksE Ce G l g ad) (hk : k < 3) : ∃ xs, G l = some (.lst xs) ∧ atI xs (k : Int) = some (.ref (ad k)) ∧ EntAt Ce G (ad k) (g k).1 (g k).2.1 (g k).2.2 := by
  match k, hk with
  | 0, hk => exact ⟨_, h.1, rfl, h.2 0 hk⟩
  | 1, hk => exact ⟨_, h.1, rfl, h.2 1 hk⟩
  | 2, hk => exact ⟨_, h.1, rfl, h.2 2 hk⟩
def spPlannedX (C Ce : Addr) : Nat → Sp
  | 0 => fun _ _ _ _ => False
  | d + 1 => fun vs H Q _ => ∃ (G : Hp) (v : V) (l : Addr) (g : Nat → Ck) (ad : Nat → Addr) (t : Tr Nat), vs = [v, .ref l] ∧ d ≤ 4 ∧ Gh G H ∧ LtAt G t v ∧ t.okB d = true ∧ CksE Ce G l g ad ∧ Ret G H (fun r G' => BrX C Ce G' (t.map g) r ∧ EnsAt C G' (t.map ad) r) Q
theorem u_plannedX {C Ce l : Addr} {e : En} {G H : Hp} {M : List Addr} {Q : VK} {E : XK} {v : V} {g : Nat → Ck} {ad : Nat → Addr} {t : Tr Nat} {d : Nat} (w : Wd e G H M) (h : LtAt G t v) (hd : d ≤ 4) (o : t.okB d = true) (hc : CksE Ce G l g ad)
    (k : ∀ r G' H', Wd e G' H' M → Same G G' → Same H H' → BrX C Ce G' (t.map g) r → EnsAt C G' (t.map ad) r → Q r H') : spPlannedX C Ce (d + 1) [v, .ref l] H Q E :=
  ⟨G, v, l, g, ad, t, rfl, hd, w.gh, h, o, hc, ret_use w fun v G' H' w' s1 s2 p => k v G' H' w' s1 s2 p.1 p.2⟩
end Q
namespace Q
open PySem PySem.Spec PyProof.Rows L2
def spSizes : Nat → Sp
  | 0 => fun _ _ _ _ => False
  | d + 1 => fun vs H Q _ => ∃ (G : Hp) (v : V) (t : Tr Nat), vs = [v] ∧ d ≤ 4 ∧ Gh G H ∧ LtAt G t v ∧ t.okB d = true ∧ Ret G H (fun r G' => ∃ a, r = .ref a ∧ G' a = some (.tup [.int (t.size : Int), .int (t.deep : Int)])) Q
theorem u_sizes {e : En} {G H : Hp} {M : List Addr} {Q : VK} {E : XK} {v : V} {t : Tr Nat} {d : Nat} (w : Wd e G H M) (h : LtAt G t v) (hd : d ≤ 4) (o : t.okB d = true)
    (k : ∀ a G' H', Wd e G' H' M → Same G G' → Same H H' → G' a = some (.tup [.int (t.size : Int), .int (t.deep : Int)]) → Q (.ref a) H') : spSizes (d + 1) [v] H Q E :=
  ⟨G, v, t, rfl, hd, w.gh, h, o, ret_use w fun r G' H' w' s1 s2 ⟨a, e, h⟩ => by subst e; exact k a G' H' w' s1 s2 h⟩
def rightG (g : Nat → Ck) : Prop := ∀ i, i < 3 → RightC (g i)
def Tr.lt3 : Tr Nat → Prop
  | .ask k p f => k < 3 ∧ p.lt3 ∧ f.lt3
  | _ => True
theorem LtAt.lt3 {G : Hp} : ∀ {t : Tr Nat} {v : V}, LtAt G t v → t.lt3
  | .no, _, _ => trivial
  | .done, _, _ => trivial
  | .ask k p f, _, ⟨_, _, _, _, _, h2, h3, h4⟩ => ⟨h2, h3.lt3, h4.lt3⟩
theorem map_right {g : Nat → Ck} (hg : rightG g) : ∀ {t : Tr Nat}, t.lt3 → (t.map g).right
  | .no, _ => trivial
  | .done, _ => trivial
  | .ask k p f, ⟨h1, h2, h3⟩ => ⟨hg k h1, map_right hg h2, map_right hg h3⟩
def spWording (Ce : Addr) : Nat → Sp
  | 0 => fun _ _ _ _ => False
  | d + 1 => fun vs H Q _ => ∃ (G : Hp) (v : V) (l : Addr) (g : Nat → Ck) (ad : Nat → Addr) (t : Tr Nat), vs = [v, .ref l] ∧ d ≤ 4 ∧ Gh G H ∧ LtAt G t v ∧ t.okB d = true ∧ CksE Ce G l g ad ∧ rightG g ∧ Ret G H (fun r _ => r = .str (t.map g).text) Q
theorem u_wording {Ce l : Addr} {e : En} {G H : Hp} {M : List Addr} {Q : VK} {E : XK} {v : V} {g : Nat → Ck} {ad : Nat → Addr} {t : Tr Nat} {d : Nat} (w : Wd e G H M) (h : LtAt G t v) (hd : d ≤ 4) (o : t.okB d = true) (hc : CksE Ce G l g ad) (hg : rightG g)
    (k : ∀ G' H', Wd e G' H' M → Same G G' → Same H H' → Q (.str (t.map g).text) H') : spWording Ce (d + 1) [v, .ref l] H Q E :=
  ⟨G, v, l, g, ad, t, rfl, hd, w.gh, h, o, hc, hg, ret_use w fun r G' H' w' s1 s2 p => by subst p; exact k G' H' w' s1 s2⟩
def spPartsR (C Ce : Addr) : Nat → Sp
  | 0 => fun _ _ _ _ => False
  | d + 1 => fun vs H Q _ => ∃ (G : Hp) (v tv : V) (l : Addr) (g : Nat → Ck) (ad : Nat → Addr) (t : Tr Nat), vs = [v, tv, .ref l] ∧ d ≤ 4 ∧ Gh G H ∧ LtAt G t tv ∧ t.ok d = true ∧ CksE Ce G l g ad ∧ EnsAt C G (t.map ad) v ∧ Ret G H (fun r _ => r = .bl true) Q
theorem u_partsR {C Ce l : Addr} {e : En} {G H : Hp} {M : List Addr} {Q : VK} {E : XK} {v tv : V} {g : Nat → Ck} {ad : Nat → Addr} {t : Tr Nat} {d : Nat} (w : Wd e G H M) (h : LtAt G t tv) (hd : d ≤ 4) (o : t.ok d = true) (hc : CksE Ce G l g ad) (he : EnsAt C G (t.map ad) v)
    (k : ∀ G' H', Wd e G' H' M → Same G G' → Same H H' → Q (.bl true) H') : spPartsR C Ce (d + 1) [v, tv, .ref l] H Q E :=
  ⟨G, v, tv, l, g, ad, t, rfl, hd, w.gh, h, o, hc, he, ret_use w fun r G' H' w' s1 s2 p => by subst p; exact k G' H' w' s1 s2⟩
end Q
namespace Q
open PySem PySem.Spec PyProof.Rows L2
section
variable {M : Model} {A : Around} {E : Value → Shared → Prop} {s : Shared} {C : Addr}
theorem none_asks {op : CmpOp} {id : String} {Q : Value → Shared → Prop} {K : PySem.W.Frag} {ox : Obj} {od : Option Obj} {x : Addr} (hu : A.units < cLine) (X : K.In s.heap) (I : PySem.W.InstAt s.heap x ox C od) (hk : PySem.W.mroIn K C (.type "NoneType") = some false)
    (h1 : Slot "NoneType" (cmpInfo op).2.1 id) (hc : ∀ Q' : Value → Shared → Prop, Q' .notImplemented s → wpAny M A (call (.builtin id) [.none, .ref x]) Q' E s)
    (h : wpAny M A (tryCompare (.ref x) (cmpInfo op).2.2 .none) (fun r s' => ∃ v, r = some v ∧ Q v s') E s) : wpAny M A (richCompare op .none (.ref x)) Q E s := by
  have ha : s.TypeIs .none "NoneType" := rfl
  unfold richCompare
  rw [ha.oneThing_none]
  refine wpAny_holding (wpAny_bind (wpAny_cRoomFor hu ?_))
  refine wpAny_bind (wpAny_typeOf ha (wpAny_bind (I.type.here ?_)))
  have hne : (Value.type "NoneType" != Value.ref C) = true := rfl
  rw [if_pos hne]
  refine wpAny_bind ((PySem.W.looks_subIn X (t := .ref C) hk).here ?_)
  simp only [Bool.false_eq_true, if_false, Bool.not_false, if_true]
  refine wpAny_bind (m := tryCompare .none _ (.ref x)) (wpAny_tryCompare_declines ha h1 (hc _ ⟨rfl, ?_⟩))
  refine wpAny_bind (wpAny_mono h (fun r s' z => ?_) fun _ _ e => e)
  obtain ⟨v, rfl, hq⟩ := z
  exact wpAny_pure hq
end
section
variable {X : Cx} {CX : CXT} {k j : Nat} {C f : Addr} {fd : FuncData} {ps : List Str} {sp : Sp} {E : XK}
/-- the instance on the right is asked -/
def rEqN (C : Addr) (sp : Sp) (E : XK) : R2 := fun x y H Q => ∃ a dx fs, x = .non ∧ y = .ref a ∧ H a = some (.ins C dx fs) ∧ sp [y, x] H Q E
def rNeN (C : Addr) (sp : Sp) (E : XK) : R2 := fun x y H Q => ∃ a dx fs, x = .non ∧ y = .ref a ∧ H a = some (.ins C dx fs) ∧ sp [y, x] H (fun v H' => ∃ b, v = .bl b ∧ Q (.bl (!b)) H') E
theorem r_eqN {H : Hp} {a dx : Addr} {fs : List (Str × V)} {Qv : VK} (h : H a = some (.ins C dx fs)) (q : sp [.ref a, .non] H Qv E) : rEqN C sp E .non (.ref a) H Qv := ⟨a, dx, fs, rfl, rfl, h, q⟩
theorem r_neN {H : Hp} {a dx : Addr} {fs : List (Str × V)} {Qv : VK} (h : H a = some (.ins C dx fs)) (q : sp [.ref a, .non] H (fun v H' => ∃ b, v = .bl b ∧ Qv (.bl (!b)) H') E) : rNeN C sp E .non (.ref a) H Qv := ⟨a, dx, fs, rfl, rfl, h, q⟩
theorem q_eqN (hk : PySem.W.mroIn X.K C (.type "NoneType") = some false) (D : SpD X.prog X.w X.K X.mg X.base CX k C "__eq__" sp) (hr : Room j X.A) (hx : Passes CX X E) (hj : k ≤ j := by decide) : OpR X (compareOp .Eq) (rEqN C sp E) := by
  obtain ⟨f, fd, ps, hs, hf, hb, FF⟩ := D.ex
  intro pins s σ H x y v u Q I rx ry h
  obtain ⟨a, dx, fs, rfl, rfl, ea, q⟩ := h
  cases (show v = Value.none from rx)
  cases (show u = Value.ref a from ry)
  obtain ⟨mA, O, _⟩ := ins_get I.hok ea
  obtain ⟨od, J, _⟩ := O.look
  have hr' := hr.mono hj
  show wpAny (model X.prog X.w) X.A (richCompare .Eq .none (.ref a)) (EP X pins σ Q) X.xe s
  refine none_asks (op := .Eq) hr'.units0 I.kIn J hk PySem.F.slot_NoneType_eq (fun Q' hq => call_gives PySem.F.slot_NoneType_eq rfl PySem.F.entry_NoneType_eq (PySem.F.args_NoneType_eq_2 _ _) (SeqAt.NoneType___eq___none_ref_0 a) hq) ?_
  unfold tryCompare
  refine wpAny_bind (PySem.W.ifBound_K I.kIn J hs hf ?_)
  refine wpAny_mono (run_under (us := [.ref a, .none]) (vs := [.ref a, .non]) FF hr' I.env0 hb hx I (.cons rfl (.cons rfl .nil)) q) (fun w s' z => ?_) fun _ _ x => x
  obtain ⟨z', H', I', rz, qz⟩ := z
  have back := SlX.cmpback (P := fun v s' => EP X pins σ Q v s') rz ⟨z', H', I', rz, qz⟩
  cases w <;> first | exact back.elim | exact wpAny_pure ⟨_, rfl, back⟩
theorem q_neN (hk : PySem.W.mroIn X.K C (.type "NoneType") = some false) (hne : PySem.W.findIn X.K (.ref C) "__ne__" = some (some (.builtin "object.__ne__"))) (hm : PySem.W.mroIn X.K C (.type "object") = some true) (D : SpD X.prog X.w X.K X.mg X.base CX k C "__eq__" sp) (hr : Room j X.A) (hx : Passes CX X E)
    (hj : k + 1 ≤ j := by decide) : OpR X (compareOp .NotEq) (rNeN C sp E) := by
  obtain ⟨f, fd, ps, hs, hf, hb, FF⟩ := D.ex
  intro pins s σ H x y v u Q I rx ry h
  obtain ⟨a, dx, fs, rfl, rfl, ea, q⟩ := h
  cases (show v = Value.none from rx)
  cases (show u = Value.ref a from ry)
  obtain ⟨mA, O, _⟩ := ins_get I.hok ea
  obtain ⟨od, J, _⟩ := O.look
  have hr' := hr.mono hj
  have hr1 : Room k X.A.in1 := hr'.in1
  show wpAny (model X.prog X.w) X.A (richCompare .NotEq .none (.ref a)) (EP X pins σ Q) X.xe s
  refine none_asks (op := .NotEq) hr'.units0 I.kIn J hk PySem.F.slot_NoneType_ne (fun Q' hq => call_gives PySem.F.slot_NoneType_ne rfl PySem.F.entry_NoneType_ne (PySem.F.args_NoneType_ne_2 _ _) (SeqAt.NoneType___ne___none_ref_0 a) hq) ?_
  unfold tryCompare
  refine wpAny_bind (ifBound_b I.kIn J hne PySem.F.slot_object_ne.bind ?_)
  refine wpAny_call (codeAny_call_builtin PySem.F.slot_object_ne.plain PySem.F.cmpEntry_ne (PySem.W.check_slot (i := "object.__ne__") (owner := "object") (n := "__ne__") PySem.F.cmpKind_ne PySem.F.cmpSplit_ne (J.type.andThen (PySem.W.looks_mroIn I.kIn hm)) (PySem.F.cmpArgs_ne _ _) ?_))
  unfold Builtin.«object.__ne__»
  refine wpAny_bind (m := slotArgs "__ne__" 1 _) (wpAny_pure ?_)
  refine wpAny_bind (m := cRoomFor _ _) (wpAny_cRoomFor hr1.units0 ?_)
  refine wpAny_bind (m := callSpecialIfBound? (.ref a) (Str.ofString "__eq__") [.none]) (PySem.W.ifBound_K I.kIn J hs hf ?_)
  refine wpAny_mono (run_under (us := [.ref a, .none]) (vs := [.ref a, .non]) FF hr1 I.env0.in1 hb hx I (.cons rfl (.cons rfl .nil)) q) (fun w s' z => ?_) fun _ _ x => x
  obtain ⟨z', H', I', rz, b, e, qz⟩ := z
  subst e
  cases (show w = Value.bool b from rz)
  refine wpAny_bind (m := truthy (.bool b)) (wpAny_truthy_bool ?_)
  exact wpAny_pure (wpAny_pure ⟨_, rfl, .bl (!b), H', I', rfl, qz⟩)
end
end Q
namespace Q
open PySem PySem.Spec PyProof.Rows L2
def Tr.same {α : Type} [DecidableEq α] : Tr α → Tr α → Bool
  | .no, .no => true
  | .done, .done => true
  | .ask c p f, .ask c' p' f' => decide (c = c') && (p.same p' && f.same f')
  | _, _ => false
theorem Tr.same_iff {α : Type} [DecidableEq α] : ∀ {t u : Tr α}, t.same u = true ↔ t = u
  | .no, .no => by simp [Tr.same]
  | .no, .done => by simp [Tr.same]
  | .no, .ask _ _ _ => by simp [Tr.same]
  | .done, .no => by simp [Tr.same]
  | .done, .done => by simp [Tr.same]
  | .done, .ask _ _ _ => by simp [Tr.same]
  | .ask _ _ _, .no => by simp [Tr.same]
  | .ask _ _ _, .done => by simp [Tr.same]
  | .ask c p f, .ask c' p' f' => by simp [Tr.same, Tr.same_iff (t := p) (u := p'), Tr.same_iff (t := f) (u := f')]
theorem Tr.same_ne {α : Type} [DecidableEq α] {t u : Tr α} (h : t ≠ u) : t.same u = false := Bool.eq_false_iff.mpr fun q => h (Tr.same_iff.mp q)
theorem Tr.same_self {α : Type} [DecidableEq α] {t : Tr α} : t.same t = true := Tr.same_iff.mpr rfl
def Tr.ent {α : Type} : Tr α → Option α
  | .ask c _ _ => some c
  | _ => none
theorem Tr.eq_parts {α : Type} [DecidableEq α] {t u : Tr α} (h1 : t.isNo = false) (h2 : u.isNo = false) : t.same u = (decide (t.ent = u.ent) && ((t.sub true).same (u.sub true) && (t.sub false).same (u.sub false))) := by
  cases t with
  | no => cases h1
  | done =>
    cases u with
    | no => cases h2
    | done => simp [Tr.same, Tr.ent, Tr.sub]
    | ask c p f => simp [Tr.same, Tr.ent]
  | ask c p f =>
    cases u with
    | no => cases h2
    | done => simp [Tr.same, Tr.ent]
    | ask c' p' f' => simp [Tr.same, Tr.ent, Tr.sub]
def OptE (Ce : Addr) (G : Hp) : Option Ck → V → Prop
  | none, v => v = .non
  | some c, v => ∃ a, v = .ref a ∧ EntAt Ce G a c.1 c.2.1 c.2.2
/-- whatever stands right of == -/
def PlTo (K : PySem.W.Frag) (C Ce : Addr) (G : Hp) (d : Nat) (t : Tr Ck) (y : V) (r : Bool) : Prop := (∃ u, TyX K G y u ∧ PySem.W.kitOne K u (.ref C) = some false ∧ r = false) ∨ ∃ t2, BrX C Ce G t2 y ∧ t2.ok d = true ∧ r = t.same t2
def spPlEqX (K : PySem.W.Frag) (C Ce : Addr) : Nat → Sp
  | 0 => fun _ _ _ _ => False
  | d + 1 => fun vs H Q _ => ∃ (G : Hp) (v y : V) (t : Tr Ck) (r : Bool), vs = [v, y] ∧ d ≤ 4 ∧ Gh G H ∧ BrX C Ce G t v ∧ t.ok d = true ∧ PlTo K C Ce G d t y r ∧ Ret G H (fun v _ => v = .bl r) Q
/-- == and != of data, or by an own def of the left one, or of the right one -/
def rEqP (K : PySem.W.Frag) (C : Addr) (sp : Sp) (E : XK) : R2 := fun x y H Q => rEqB K C sp E x y H Q ∨ rEqN C sp E x y H Q
def rNeP (K : PySem.W.Frag) (C : Addr) (sp : Sp) (E : XK) : R2 := fun x y H Q => rNeB K C sp E x y H Q ∨ rNeN C sp E x y H Q
section
variable {X : Cx} {CX : CXT} {k j : Nat} {C : Addr} {sp : Sp} {E : XK}
theorem q_eqP (hu : X.A.units + 64 < cLine) (hk : PySem.W.mroIn X.K C (.type "NoneType") = some false) (D : SpD X.prog X.w X.K X.mg X.base CX k C "__eq__" sp) (hr : Room j X.A) (hx : Passes CX X E) (hj : k ≤ j := by decide) : OpR X (compareOp .Eq) (rEqP X.K C sp E) := opr_or (q_eqB hu D hr hx hj) (q_eqN hk D hr hx hj)
theorem q_neP (hu : X.A.units + 64 < cLine) (hk : PySem.W.mroIn X.K C (.type "NoneType") = some false) (hne : PySem.W.findIn X.K (.ref C) "__ne__" = some (some (.builtin "object.__ne__"))) (hm : PySem.W.mroIn X.K C (.type "object") = some true) (D : SpD X.prog X.w X.K X.mg X.base CX k C "__eq__" sp) (hr : Room j X.A) (hx : Passes CX X E)
    (hj : k + 1 ≤ j := by decide) : OpR X (compareOp .NotEq) (rNeP X.K C sp E) := opr_or (q_neB hu hne hm D hr hx hj) (q_neN hk hne hm D hr hx hj)
end
theorem isNo_iff {α : Type} {t : Tr α} : t.isNo = true ↔ t = .no := by cases t <;> simp [Tr.isNo]
theorem ok_no {α : Type} {t : Tr α} {d : Nat} (h : t.ok d = true) : t.isNo = false := by
  cases t with
  | no => cases d <;> cases h
  | done => rfl
  | ask c p f => rfl
section
variable {K : PySem.W.Frag} {C Ce : Addr} {e : En} {G G' H : Hp} {M : List Addr} {Q : VK} {E : XK}
theorem OptE.same {o : Option Ck} {v : V} (h : OptE Ce G o v) (s : Same G G') : OptE Ce G' o v := by
  cases o with
  | none => exact h
  | some c => exact ⟨h.choose, h.choose_spec.1, h.choose_spec.2.same s⟩
theorem PlTo.same {d : Nat} {t : Tr Ck} {y : V} {r : Bool} (h : PlTo K C Ce G d t y r) (s : Same G G') : PlTo K C Ce G' d t y r := by
  rcases h with ⟨u, h1, h2, h3⟩ | ⟨t2, h1, h2, h3⟩
  · exact .inl ⟨u, same_ty s h1, h2, h3⟩
  · exact .inr ⟨t2, h1.same s, h2, h3⟩
theorem BrX.parts {t : Tr Ck} {v : V} (h : BrX C Ce G t v) (n : t.isNo = false) : ∃ v1 v2 v3, PlanV C G v v1 v2 v3 ∧ OptE Ce G t.ent v1 ∧ BrX C Ce G (t.sub true) v2 ∧ BrX C Ce G (t.sub false) v3 := by
  cases t with
  | no => cases n
  | done =>
    obtain ⟨a, dx, bl, el, e, h1, _⟩ := h
    exact ⟨_, _, _, ⟨a, dx, bl, el, e, h1⟩, rfl, rfl, rfl⟩
  | ask c p f =>
    obtain ⟨a, dx, bl, el, en, vp, vf, es, e, h1, _, _, _, h5, h6, h7⟩ := h
    exact ⟨_, _, _, ⟨a, dx, bl, el, e, h1⟩, ⟨en, rfl, h5⟩, h6, h7⟩
theorem u_plEqX {v y : V} {t : Tr Ck} {d : Nat} {r : Bool} (w : Wd e G H M) (h1 : BrX C Ce G t v) (hd : d ≤ 4) (o : t.ok d = true) (h2 : PlTo K C Ce G d t y r) (k : ∀ G' H', Wd e G' H' M → Same G G' → Same H H' → Q (.bl r) H') : spPlEqX K C Ce (d + 1) [v, y] H Q E :=
  ⟨G, v, y, t, r, rfl, hd, w.gh, h1, o, h2, ret_use w fun v G' H' w' s1 s2 p => by subst p; exact k G' H' w' s1 s2⟩
theorem pl_ref {t : Tr Ck} {v : V} (w : Wd e G H M) (S : PlC K C) (h : BrX C Ce G t v) (n : t.isNo = false) : ∃ a dx fs, v = .ref a ∧ H a = some (.ins C dx fs) ∧ TyX K H v (.ref C) := by
  obtain ⟨a, dx, v1, v2, v3, bl, el, es, rfl, ha, _⟩ := h.ins n
  exact ⟨a, dx, _, rfl, w.le _ _ ha, same_ty w.le (S.ty ha)⟩
theorem eqP_go {i : Nat} {r1 r2 : V} {p q : Tr Ck} (w : Wd e G H M) (S : PlC K C) (hn : PySem.W.kitOne K (.type "NoneType") (.ref C) = some false) (hf : PySem.W.notFirst K C (.type "NoneType") = true) (hi : i ≤ 5) (h1 : BrX C Ce G p r1) (h2 : BrX C Ce G q r2)
    (o1 : p.isNo = true ∨ ∃ j, i = j + 1 ∧ p.ok j = true) (o2 : q.isNo = true ∨ ∃ j, i = j + 1 ∧ q.ok j = true) (k : ∀ G' H', Wd e G' H' M → Same G G' → Same H H' → Q (.bl (p.same q)) H') : rEqP K C (spPlEqX K C Ce i) E r1 r2 H Q := by
  cases n1 : p.isNo with
  | true =>
    obtain rfl := isNo_iff.mp n1
    obtain rfl : r1 = .non := h1
    cases n2 : q.isNo with
    | true =>
      obtain rfl := isNo_iff.mp n2
      obtain rfl : r2 = .non := h2
      have := k _ _ w (Same.refl _) (Same.refl _)
      exact .inl (.inl (r_eqS rfl (by simpa [Tr.same] using this)))
    | false =>
      rw [n2] at o2
      obtain ⟨j, rfl, o⟩ := o2.resolve_left (by decide)
      obtain ⟨a, dx, fs, rfl, ha, ty⟩ := pl_ref w S h2 n2
      refine .inr (r_eqN ha (u_plEqX w h2 (by omega) o (.inl ⟨_, .base .non, hn, rfl⟩) fun G' H' w' s t => ?_))
      have := k _ _ w' s t
      have ne : (Tr.no : Tr Ck) ≠ q := fun e => by rw [← e] at n2; cases n2
      rwa [Tr.same_ne ne] at this
  | false =>
    rw [n1] at o1
    obtain ⟨j, rfl, o⟩ := o1.resolve_left (by decide)
    obtain ⟨a, dx, fs, rfl, ha, ty⟩ := pl_ref w S h1 n1
    cases n2 : q.isNo with
    | true =>
      obtain rfl := isNo_iff.mp n2
      obtain rfl : r2 = .non := h2
      refine .inl (.inr (r_eqI ha (.base .non) hf (u_plEqX w h1 (by omega) o (.inl ⟨_, .base .non, hn, rfl⟩) fun G' H' w' s t => ?_)))
      have := k _ _ w' s t
      have ne : p ≠ .no := fun e => by rw [e] at n1; cases n1
      rwa [Tr.same_ne ne] at this
    | false =>
      rw [n2] at o2
      obtain ⟨j', e, o'⟩ := o2.resolve_left (by decide)
      obtain rfl : j = j' := by omega
      obtain ⟨a', dx', fs', rfl, ha', ty'⟩ := pl_ref w S h2 n2
      exact .inl (.inr (r_eqI ha ty' S.fme (u_plEqX w h1 (by omega) o (.inr ⟨q, h2, o', rfl⟩) k)))
theorem opt_ent {o1 o2 : Option Ck} : decide (o1 = o2) = (match o1, o2 with | none, none => true | some c, some c' => PyData.eqv (faceE c.1 c.2.1 c.2.2) (faceE c'.1 c'.2.1 c'.2.2) | _, _ => false) := by
  cases o1 with
  | none => cases o2 <;> simp
  | some c =>
    cases o2 with
    | none => simp
    | some c' =>
      obtain ⟨a, b, d⟩ := c
      obtain ⟨a', b', d'⟩ := c'
      simp only [eqv_faceE, Option.some.injEq, Prod.mk.injEq]
theorem neE_go {x y : V} {o1 o2 : Option Ck} (w : Wd e G H M) (Se : EnC K Ce) (hn : PySem.W.kitOne K (.type "NoneType") (.ref Ce) = some false) (hf : PySem.W.notFirst K Ce (.type "NoneType") = true) (h1 : OptE Ce G o1 x) (h2 : OptE Ce G o2 y)
    (k : ∀ G' H', Wd e G' H' M → Same G G' → Same H H' → Q (.bl (!decide (o1 = o2))) H') : rNeP K Ce (spEntEqX K Ce) E x y H Q := by
  cases o1 with
  | none =>
    obtain rfl : x = .non := h1
    cases o2 with
    | none =>
      obtain rfl : y = .non := h2
      have := k _ _ w (Same.refl _) (Same.refl _)
      exact .inl (.inl (r_neS rfl (by simpa using this)))
    | some c =>
      obtain ⟨a, rfl, ha⟩ := h2
      obtain ⟨_, dx, fc, hi, _⟩ := id ha
      exact .inr (r_neN (w.le _ _ hi) (u_entEqX w ha (.inl ⟨_, .base .non, hn, rfl⟩) fun G' H' w' s t => ⟨false, rfl, by simpa using k _ _ w' s t⟩))
  | some c =>
    obtain ⟨a, rfl, ha⟩ := h1
    obtain ⟨_, dx, fc, hi, _⟩ := id ha
    cases o2 with
    | none =>
      obtain rfl : y = .non := h2
      exact .inl (.inr (r_neI (w.le _ _ hi) (.base .non) hf (u_entEqX w ha (.inl ⟨_, .base .non, hn, rfl⟩) fun G' H' w' s t => ⟨false, rfl, by simpa using k _ _ w' s t⟩)))
    | some c' =>
      obtain ⟨a', rfl, ha'⟩ := h2
      refine .inl (.inr (r_neI (w.le _ _ hi) (same_ty w.le (Se.ty ha')) Se.fme (u_entEqX w ha (EntTo.ent ha') fun G' H' w' s t => ⟨_, rfl, ?_⟩)))
      have := k _ _ w' s t
      rwa [opt_ent] at this
end
/-- trees of numbers, and what stands at the numbers -/
theorem treeD_eqv : ∀ t u : Tr Nat, PyData.eqv (treeD t) (treeD u) = t.same u
  | .no, .no => by simp [treeD, PyData.eqv, Tr.same]
  | .no, .done => by simp [treeD, PyData.eqv, Tr.same]
  | .no, .ask _ _ _ => by simp [treeD, PyData.eqv, Tr.same]
  | .done, .no => by simp [treeD, PyData.eqv, Tr.same]
  | .done, .done => by simp [treeD, PyData.eqv, Tr.same]
  | .done, .ask _ _ _ => by simp [treeD, PyData.eqv, Tr.same]
  | .ask _ _ _, .no => by simp [treeD, PyData.eqv, Tr.same]
  | .ask _ _ _, .done => by simp [treeD, PyData.eqv, Tr.same]
  | .ask k p f, .ask k' p' f' => by
    simp only [treeD, PyData.eqv, PyData.eqvAll, treeD_eqv p p', treeD_eqv f f', Bool.and_true, Tr.same]
    by_cases h1 : k = k'
    · simp [h1]
    · simp [h1, Int.ofNat_inj]
theorem map_inj {α : Type} {g : Nat → α} (hg : ∀ i j, i < 3 → j < 3 → g i = g j → i = j) : ∀ {t u : Tr Nat}, t.lt3 → u.lt3 → (t.map g = u.map g ↔ t = u)
  | .no, .no, _, _ => by simp [Tr.map]
  | .no, .done, _, _ => by simp [Tr.map]
  | .no, .ask _ _ _, _, _ => by simp [Tr.map]
  | .done, .no, _, _ => by simp [Tr.map]
  | .done, .done, _, _ => by simp [Tr.map]
  | .done, .ask _ _ _, _, _ => by simp [Tr.map]
  | .ask _ _ _, .no, _, _ => by simp [Tr.map]
  | .ask _ _ _, .done, _, _ => by simp [Tr.map]
  | .ask k p f, .ask k' p' f', ⟨h1, h2, h3⟩, ⟨h1', h2', h3'⟩ => by
    simp only [Tr.map, Tr.ask.injEq, map_inj hg h2 h2', map_inj hg h3 h3']
    exact ⟨fun h => ⟨hg _ _ h1 h1' h.1, h.2⟩, fun h => ⟨by rw [h.1], h.2⟩⟩
end Q
namespace Q
open PySem PySem.Spec PyProof.Rows L2
/-- a word, or something else in its place -/
structure WordV (K : PySem.W.Frag) (G : Hp) (v : V) : Prop where
  kd : ∃ u, Kd K G v u
  dq : ∃ d, Dq K G v d
theorem WordV.same {K : PySem.W.Frag} {G G' : Hp} {v : V} (h : WordV K G v) (s : Same G G') : WordV K G' v := ⟨h.kd.imp fun _ k => k.same s, h.dq.imp fun _ k => same_dq s k⟩
/-- in a tuple of texts -/
def rInW (K : PySem.W.Frag) : R2 := fun x y H Q => ∃ (p : Addr) (ys : List Str), y = .ref p ∧ SqT K H p (ys.map V.str) ∧ WordV K H x ∧ Q (.bl (decide (x ∈ ys.map V.str))) H
theorem r_inW {K : PySem.W.Frag} {H : Hp} {x : V} {p : Addr} {ys : List Str} {Q : VK} (h : SqT K H p (ys.map V.str)) (hx : WordV K H x) (q : Q (.bl (decide (x ∈ ys.map V.str))) H) : rInW K x (.ref p) H Q := ⟨p, ys, rfl, h, hx, q⟩
theorem vals_strs : ∀ {ys : List Str} {us : List Value}, Vals (ys.map V.str) us → ∀ y ∈ us, ∃ z t, y = Value.str z t
  | [], _, h, y, hy => by cases h; cases hy
  | z :: ys, _, h, y, hy => by
    cases h with
    | @cons _ u _ us h1 h2 =>
      obtain ⟨t, rfl⟩ := (show ∃ t, u = Value.str z t from h1)
      rcases List.mem_cons.mp hy with rfl | hy
      · exact ⟨z, t, rfl⟩
      · exact vals_strs h2 y hy
theorem q_inW {X : Cx} (hu : X.A.units + 64 < cLine) : OpR X (compareOp .In) (rInW X.K) := by
  intro pins s σ H x y v u Q I rx ry h
  obtain ⟨p, ys, rfl, hp, hx, q⟩ := h
  cases (show u = Value.ref p from ry)
  obtain ⟨its, r, pl, hz⟩ := I.tuple hp
  have far : X.A.in1.units < cLine := Nat.lt_of_le_of_lt (Nat.add_le_add_left (by decide : 1 ≤ 64) X.A.units) hu
  refine SeqAt.in_tupleAt (eqZ x) pl (fun w hw => ?_) ⟨.bl _, H, I, rfl, ?_⟩
  · obtain ⟨z, t, rfl⟩ := vals_strs r w (by simpa using hw)
    obtain ⟨d, hd⟩ := hx.dq
    revert rx
    cases hd with
    | non => intro rx; cases (show v = Value.none from rx); exact SeqAt.EqAt.str_none z t
    | bl b => intro rx; cases (show v = Value.bool b from rx); exact SeqAt.EqAt.str_bool z t b
    | int i => intro rx; obtain ⟨j, rfl⟩ := (show ∃ j, v = Value.int i j from rx); exact SeqAt.EqAt.str_int z t i j
    | str c => intro rx; obtain ⟨j, rfl⟩ := (show ∃ j, v = Value.str c j from rx); exact SeqAt.EqAt.str_str z t c j
    | lst g _ => intro rx; cases (show v = Value.ref _ from rx); exact SeqAt.EqAt.str_list z t (I.list g).choose_spec.2.1.isList far
    | tup g _ => intro rx; cases (show v = Value.ref _ from rx); exact SeqAt.EqAt.str_tuple z t (I.tuple g).choose_spec.2.1 far
    | dic g _ _ =>
      intro rx
      cases (show v = Value.ref _ from rx)
      obtain ⟨_, _, _, _, da⟩ := dk_rd I.hok g
      obtain ⟨o, _, _, e1, _, e3, _⟩ := id da
      exact eq_str_dict z t e1 (fun v y => by rw [e3] at y; cases y) da.typeIs far
  · rw [show its.toArray.any (eqZ x) = its.any (eqZ x) by simp, any_eqZ r]
    exact q
def DRef : Eqv := fun x y _ => ∃ a, x = .ref a ∧ y = .ref a
theorem mon_ref : Mon DRef := fun _ _ _ _ _ d => d
theorem eqG_ref {X : Cx} : EqG X 0 DRef := by
  intro A pins s σ H x y u v sb I rx ry d
  obtain ⟨a, rfl, rfl⟩ := d
  cases rx
  cases ry
  exact SeqAt.EqAt.same (A := A) (s := s) (.ref a) X.prog X.w X.xe _ ⟨rfl, H, I, Ext.rfl'⟩
def DOne : Eqv := fun x y H => DRef x y H ∨ DFlat x y H
theorem mon_one : Mon DOne := Mon.or mon_ref mon_flat
theorem eqG_one {X : Cx} : EqG X 0 DOne := EqG.or eqG_ref eqG_flat
/-- a list with a tuple of pairs -/
def DDue (K : PySem.W.Frag) : Eqv := DList (DTup K (DTup K DOne))
theorem q_eqDue {X : Cx} {j : Nat} (hr : Room j X.A) (hj : 3 ≤ j := by decide) : OpR X (compareOp .Eq) (rEqG (DDue X.K)) := op_eqG (rcG_list (mon_tup (mon_tup mon_one)) (eqG_tup (mon_tup mon_one) (eqG_tup mon_one eqG_one))) (hr.mono hj)
theorem q_eqSeen {X : Cx} {j : Nat} (hr : Room j X.A) (hj : 1 ≤ j := by decide) : OpR X (compareOp .Eq) (rEqG (DList DOne)) := op_eqG (rcG_list mon_one eqG_one) (hr.mono hj)
def plMap (ad : Nat → Nat) (r : List (Nat × V)) : List (Nat × V) := r.map fun q => (ad q.1, q.2)
theorem plE_map (W : Nat → V) (ad : Nat → Nat) : ∀ (t : Tr Nat) (k : Nat), plE W (t.map ad) k = (plMap ad (plE W t k).1, (plE W t k).2.map fun q => (q.1, ad q.2))
  | .no, _ => by simp [Tr.map, plE, plMap]
  | .done, _ => by simp [Tr.map, plE, plMap]
  | .ask n p f, k => by
    have hn : ∀ v, nextT v (p.map ad) (f.map ad) = (nextT v p f).map ad := fun v => by
      unfold nextT
      split
      · rfl
      · split <;> rfl
    show plE W (.ask (ad n) (p.map ad) (f.map ad)) k = _
    rw [plE_ask, plE_ask, hn, Tr.isNo_map]
    have ih1 := plE_map W ad p (k + 1)
    have ih2 := plE_map W ad f (k + 1)
    cases c : (nextT (W k) p f).isNo with
    | true => simp [plMap]
    | false =>
      simp only [Bool.false_eq_true, if_false]
      have e : nextT (W k) p f = p ∨ nextT (W k) p f = f ∨ nextT (W k) p f = .no := by
        unfold nextT
        split
        · exact .inl rfl
        · split
          · exact .inr (.inl rfl)
          · exact .inr (.inr rfl)
      rcases e with e | e | e
      · rw [e, ih1]
        simp [plMap]
      · rw [e, ih2]
        simp [plMap]
      · rw [e] at c
        cases c
theorem plE_good (W : Nat → V) : ∀ (t : Tr Nat) (k : Nat), ∀ q ∈ (plE W t k).1, q.2 = .str zPass ∨ q.2 = .str zFail
  | .no, _, q, h => by simp [plE] at h
  | .done, _, q, h => by simp [plE] at h
  | .ask n p f, k, q, h => by
    rw [plE] at h
    split at h
    · rename_i c
      split at h
      · simp at h
      · rcases List.mem_cons.mp h with rfl | h
        · exact .inl c
        · exact plE_good W p _ q h
    · split at h
      · rename_i c
        split at h
        · simp at h
        · rcases List.mem_cons.mp h with rfl | h
          · exact .inr c
          · exact plE_good W f _ q h
      · simp at h
theorem plE_len (W : Nat → V) : ∀ (t : Tr Nat) (k : Nat), (plE W t k).1.length ≤ t.deep ∧ ∀ i a, (plE W t k).2 = some (i, a) → i = k + (plE W t k).1.length ∧ (plE W t k).1.length < t.deep
  | .no, _ => by simp [plE]
  | .done, _ => by simp [plE]
  | .ask n p f, k => by
    have ih1 := plE_len W p (k + 1)
    have ih2 := plE_len W f (k + 1)
    rw [plE]
    simp only [Tr.deep]
    split
    · split
      · simp only [List.length_nil, Option.some.injEq, Prod.mk.injEq]
        exact ⟨by omega, fun i a h => by omega⟩
      · simp only [List.length_cons]
        exact ⟨by omega, fun i a h => by have := ih1.2 i a h; omega⟩
    · split
      · split
        · simp only [List.length_nil, Option.some.injEq, Prod.mk.injEq]
          exact ⟨by omega, fun i a h => by omega⟩
        · simp only [List.length_cons]
          exact ⟨by omega, fun i a h => by have := ih2.2 i a h; omega⟩
      · simp only [List.length_nil, Option.some.injEq, Prod.mk.injEq]
        exact ⟨by omega, fun i a h => by omega⟩
theorem ok_deep {α : Type} : ∀ (d : Nat) (t : Tr α), t.okB d = true → t.deep ≤ d
  | d, .no, _ => Nat.zero_le _
  | d, .done, _ => Nat.zero_le _
  | 0, .ask c p f, h => by cases h
  | d + 1, .ask c p f, h => by
    have h : ((p.isNo || p.ok d) && ((f.isNo || f.ok d) && !(p.isNo && f.isNo))) = true := h
    rw [Bool.and_eq_true, Bool.and_eq_true] at h
    have a := ok_deep d p h.1
    have b := ok_deep d f h.2.1
    simp only [Tr.deep]
    omega
/-- five words -/
structure SaidAt (K : PySem.W.Frag) (G : Hp) (l : Addr) (ws : List V) : Prop where
  at_ : G l = some (.lst ws)
  len : ws.length = 5
  wd : ∀ v ∈ ws, WordV K G v
def wOf (ws : List V) (k : Nat) : V := (ws[k]?).getD .non
theorem SaidAt.same {K : PySem.W.Frag} {G G' : Hp} {l : Addr} {ws : List V} (h : SaidAt K G l ws) (s : Same G G') : SaidAt K G' l ws := ⟨s _ _ h.at_, h.len, fun v hv => (h.wd v hv).same s⟩
abbrev PwAt (G : Hp) (xs : List V) (r : List (Nat × V)) : Prop := Paired (fun v (q : Nat × V) => ∃ a, v = .ref a ∧ G a = some (.tup [.int (q.1 : Int), q.2])) xs r
theorem PwAt.same {G G' : Hp} {xs : List V} {r : List (Nat × V)} (h : PwAt G xs r) (s : Same G G') : PwAt G' xs r := Paired.mapP h fun _ _ ⟨a, e, h⟩ => ⟨a, e, s _ _ h⟩
def wrongV : Option (Nat × Nat) → V
  | none => .non
  | some q => .int (q.1 : Int)
def spPlayed (K : PySem.W.Frag) : Sp := fun vs H Q _ => ∃ (G : Hp) (tv : V) (ls : Addr) (t : Tr Nat) (ws : List V), vs = [tv, .ref ls] ∧ Gh G H ∧ LtAt G t tv ∧ t.ok 4 = true ∧ SaidAt K G ls ws ∧
  Ret G H (fun v G' => ∃ q lf xs, v = .ref q ∧ G' q = some (.tup [.ref lf, wrongV (plE (wOf ws) t 0).2]) ∧ G' lf = some (.lst xs) ∧ PwAt G' xs (plE (wOf ws) t 0).1) Q
theorem u_played {K : PySem.W.Frag} {e : En} {G H : Hp} {M : List Addr} {Q : VK} {E : XK} {tv : V} {ls : Addr} {t : Tr Nat} {ws : List V} (w : Wd e G H M) (h1 : LtAt G t tv) (o : t.ok 4 = true) (h2 : SaidAt K G ls ws)
    (k : ∀ q lf xs G' H', Wd e G' H' M → Same G G' → Same H H' → G' q = some (.tup [.ref lf, wrongV (plE (wOf ws) t 0).2]) → G' lf = some (.lst xs) → PwAt G' xs (plE (wOf ws) t 0).1 → Q (.ref q) H') : spPlayed K [tv, .ref ls] H Q E :=
  ⟨G, tv, ls, t, ws, rfl, w.gh, h1, o, h2, ret_use w fun v G' H' w' s1 s2 ⟨q, lf, xs, e1, h1, h2, h3⟩ => by subst e1; exact k q lf xs G' H' w' s1 s2 h1 h2 h3⟩
end Q
namespace Q
open PySem PySem.Spec PyProof.Rows L2
theorem HrE.imp {Cb : Addr} {R Q : VK} {cls : Value} {d : Option Addr} {H : Hp} (h : ∀ v H1, R v H1 → Q v H1) : HrE Cb R cls d H → HrE Cb Q cls d H := fun ⟨e, G, M, v, dd, w, e1, e2, e3, k⟩ => ⟨e, G, M, v, dd, w, e1, e2, e3, fun a G2 H2 w2 s t g => h _ _ (k a G2 H2 w2 s t g)⟩
theorem HrV.imp {R Q : VK} {v : V} {H : Hp} (h : ∀ v H1, R v H1 → Q v H1) : HrV R v H → HrV Q v H := fun ⟨e, G, M, w, k⟩ => ⟨e, G, M, w, fun a G2 H2 w2 s t g => h _ _ (k a G2 H2 w2 s t g)⟩
theorem the_cut {Cb : Addr} {tl : XK → Hp → VK → Prop} {H : Hp} {Q : VK} (R : VK) (h1 : THe Cb tl H R) (h2 : ∀ v H1, R v H1 → Q v H1) : THe Cb tl H Q := fun E Q' a b => h1 E Q' (fun cls d H1 z => a cls d H1 (z.imp h2)) (fun v H1 z => b v H1 (z.imp h2))
/-- what the hearing told -/
def HeardPl (G : Hp) (a : Addr) (zs : List V) : List (Addr × V) × Option (Nat × Addr) → Prop
  | (r, none) => zs = asked r ∧ ∃ q xs, G a = some (.lst [.ref q]) ∧ G q = some (.tup xs) ∧ EwAt G xs r
  | (r, some (i, en)) => zs = asked r ++ [.ref en] ∧ G a = some (.tup [.str "entry", .int (i : Int)])
theorem HeardPl.same {G G' : Hp} {a : Addr} {zs : List V} {o : List (Addr × V) × Option (Nat × Addr)} (h : HeardPl G a zs o) (s : Same G G') : HeardPl G' a zs o := by
  obtain ⟨r, o⟩ := o
  cases o with
  | none =>
    obtain ⟨h1, q, xs, h2, h3, h4⟩ := h
    exact ⟨h1, q, xs, s _ _ h2, s _ _ h3, h4.same s⟩
  | some q => exact ⟨h.1, s _ _ h.2⟩
def spPlayR (C Ce : Addr) (Ps : List Addr) (L : List (Addr × Str)) (P1 : Addr) (q1 qi : Str) : Sp := fun vs H Q _ => ∃ (G : Hp) (p c l : Addr) (n : Nat) (vm tv : V) (g : Nat → Ck) (ad : Nat → Addr) (t : Tr Nat), vs = [.ref p, vm, tv, .ref l] ∧ Gh G H ∧ G p = none ∧ Cells c G ∧ PenAt p c n H ∧ n ≤ 1000000 ∧
  LtAt G t tv ∧ t.ok 4 = true ∧ CksE Ce G l g ad ∧ EnsAt C G (t.map ad) vm ∧ Tbs Ps L P1 q1 qi H ∧ RetTs p c (n + 8) [] G H (fun v _ => v = .bl true) (fun v H' => Tbs Ps L P1 q1 qi H' → Q v H')
def spRefPl (Ce : Addr) (Ps : List Addr) (L : List (Addr × Str)) (P1 : Addr) (q1 qi : Str) : Sp := fun vs H Q _ => ∃ (G : Hp) (p c a : Addr) (n : Nat) (t : Str) (i : Int) (b : Str), vs = [.ref p, .ref a] ∧ Gh G H ∧ G p = none ∧ Cells c G ∧ PenAt p c n H ∧ n ≤ 1000000 ∧ EntAt Ce G a t i b ∧ Tbs Ps L P1 q1 qi H ∧
  RetTs p c (n + 6) [] G H (fun v _ => v = .bl true) (fun v H' => Tbs Ps L P1 q1 qi H' → Q v H')
section
variable {K : PySem.W.Frag} {C Ce : Addr} {e : En} {G H : Hp} {M : List Addr} {Q : VK} {E : XK} {Ps : List Addr} {L : List (Addr × Str)} {P1 : Addr} {q1 qi : Str} {p c l : Addr} {n : Nat}
theorem u_playR {vm tv : V} {g : Nat → Ck} {ad : Nat → Addr} {t : Tr Nat} (w : Wd e G H M) (hm : p ∈ M) (eT : e.T = []) (cov : CovT e) (hc : Cells c G) (P : PenAt p c n H) (hn : n ≤ 1000000) (ht : LtAt G t tv) (o : t.ok 4 = true) (hk : CksE Ce G l g ad) (he : EnsAt C G (t.map ad) vm) (tb : Tbs Ps L P1 q1 qi H)
    (k : ∀ G' H', Wd e G' H' M → Same G G' → PenAt p c (n + 8) H' → Tbs Ps L P1 q1 qi H' → Q (.bl true) H') : spPlayR C Ce Ps L P1 q1 qi [.ref p, vm, tv, .ref l] H Q E :=
  ⟨G, p, c, l, n, vm, tv, g, ad, t, rfl, w.gh, (w.mu p hm).1, hc, P, hn, ht, o, hk, he, tb, retTs_use w hm eT cov fun v G' H' w' s b P' h tb' => by subst h; exact k G' H' w' s P' tb'⟩
theorem u_refPl {a : Addr} {t b : Str} {i : Int} (w : Wd e G H M) (hm : p ∈ M) (eT : e.T = []) (cov : CovT e) (hc : Cells c G) (P : PenAt p c n H) (hn : n ≤ 1000000) (h : EntAt Ce G a t i b) (tb : Tbs Ps L P1 q1 qi H)
    (k : ∀ G' H', Wd e G' H' M → Same G G' → PenAt p c (n + 6) H' → Tbs Ps L P1 q1 qi H' → Q (.bl true) H') : spRefPl Ce Ps L P1 q1 qi [.ref p, .ref a] H Q E :=
  ⟨G, p, c, a, n, t, i, b, rfl, w.gh, (w.mu p hm).1, hc, P, hn, h, tb, retTs_use w hm eT cov fun v G' H' w' s b P' h tb' => by subst h; exact k G' H' w' s P' tb'⟩
end
end Q
namespace Q
open PySem PySem.Spec PyProof.Rows L2
structure FarC (K : PySem.W.Frag) (C Ce Cs : Addr) : Prop where
  pe : PySem.W.kitOne K (.ref C) (.ref Ce) = some false
  ep : PySem.W.kitOne K (.ref Ce) (.ref C) = some false
  sp : PySem.W.kitOne K (.ref Cs) (.ref C) = some false
  se : PySem.W.kitOne K (.ref Cs) (.ref Ce) = some false
  nfs : PySem.W.notFirst K C (.ref Cs) = true
  nfe : PySem.W.notFirst K C (.ref Ce) = true
def stallF (v : V) (q : Addr) : List (Str × V) := [("at", v), ("answers", .ref q)]
def spStallInit (K : PySem.W.Frag) (Cs : Addr) : Sp := fun vs H Q _ => ∃ (G : Hp) (x dx q : Addr) (v : V), vs = [.ref x, v, .ref q] ∧ Gh G H ∧ G x = none ∧ H x = some (.ins Cs dx []) ∧ G q = some (.tup []) ∧
  ∀ (G' H' : Hp) (q' : Addr), But x H H' → Gh G' H' → Same G G' → (∀ a, H a ≠ none → G' a = G a) → H' x = some (.ins Cs dx (stallF v q')) → Q .non H'
def spStallEnd (Cs : Addr) : Sp := fun vs H Q _ => ∃ (G : Hp) (v : V), vs = [v] ∧ Gh G H ∧ Ret G H (fun r G' => ∃ a dx fs, r = .ref a ∧ G' a = some (.ins Cs dx fs)) Q
section
variable {K : PySem.W.Frag} {C Ce Cs Cb : Addr} {e : En} {G G' H : Hp} {M : List Addr} {Q : VK} {E : XK}
theorem u_stallMake {v : V} {q : Addr} (w : Wd e G H M) (hq : G q = some (.tup [])) (k : ∀ a dx fs G' H', Wd e G' H' M → Same G G' → Same H H' → G' a = some (.ins Cs dx fs) → Q (.ref a) H') : MakeGo Cs (spStallInit K Cs) [v, .ref q] E H Q := by
  refine make_go w fun x dx G1 H1 hx nm s1 t1 w1 hi1 n0 => ?_
  refine ⟨G1, x, dx, q, v, rfl, w1.gh, (w1.mu x List.mem_cons_self).1, hi1, s1 _ _ hq, fun G2 H2 q' b2 s2 s3 fr hi2 => ⟨rfl, ?_⟩⟩
  obtain ⟨w4, s4⟩ := wd_freeze (wd_made w1 b2 hi2 rfl s2 s3 fr) hi2 n0
  refine k x dx _ _ H2 w4 (s1.trans (s3.trans s4)) (fun a o h => b2 a o (fun y => ?_) (t1 _ _ h)) upd_same
  subst y
  rw [hx] at h
  cases h
theorem u_stallEnd {v : V} (w : Wd e G H M) (k : ∀ a dx fs G' H', Wd e G' H' M → Same G G' → Same H H' → G' a = some (.ins Cs dx fs) → Q (.ref a) H') : spStallEnd Cs [v] H Q E :=
  ⟨G, v, rfl, w.gh, ret_use w fun r G' H' w' s1 s2 ⟨a, dx, fs, e1, h⟩ => by subst e1; exact k a dx fs G' H' w' s1 s2 h⟩
theorem entO.same {v : V} {o : Option Ck} (h : entO K Ce G v o) (s : Same G G') : entO K Ce G' v o := by
  cases o with
  | some c => exact ⟨h.choose, h.choose_spec.1, h.choose_spec.2.same s⟩
  | none => exact ⟨h.choose, same_ty s h.choose_spec.1, h.choose_spec.2⟩
theorem brO.same {v : V} {o : Option (Tr Ck)} (h : brO K C Ce G v o) (s : Same G G') : brO K C Ce G' v o := by
  cases o with
  | some t => exact ⟨h.1.same s, h.2⟩
  | none => exact ⟨h.1, h.2.choose, same_ty s h.2.choose_spec.1, h.2.choose_spec.2⟩
/-- an argument, told as an entry and as a branch -/
structure ArgV (K : PySem.W.Frag) (C Ce : Addr) (G : Hp) (v : V) (o1 : Option Ck) (o2 : Option (Tr Ck)) : Prop where
  e : entO K Ce G v o1
  b : brO K C Ce G v o2
theorem ArgV.same {v : V} {o1 : Option Ck} {o2 : Option (Tr Ck)} (h : ArgV K C Ce G v o1 o2) (s : Same G G') : ArgV K C Ce G' v o1 o2 := ⟨h.e.same s, h.b.same s⟩
theorem arg_plain {v : V} (S : ClC K C) (Se : ClC K Ce) (h : Plain K G v) (n : v ≠ .non) : ArgV K C Ce G v none none := by
  obtain ⟨k, h1, h2⟩ := h
  exact ⟨⟨_, h2, Se.no k h1⟩, n, _, h2, S.no k h1⟩
theorem arg_non (Se : ClC K Ce) : ArgV K C Ce G .non none (some .no) := ⟨⟨_, .base .non, Se.no _ (by simp)⟩, rfl, by decide⟩
theorem arg_done {v : V} (S : ClC K C) (F : FarC K C Ce Cs) (h : BrX C Ce G .done v) : ArgV K C Ce G v none (some .done) := by
  obtain ⟨a, dx, bl, el, rfl, ha, _⟩ := id h
  exact ⟨⟨_, S.ty ha, F.pe⟩, h, by decide⟩
theorem arg_ent {a : Addr} {c : Ck} (Se : ClC K Ce) (F : FarC K C Ce Cs) (h : EntAt Ce G a c.1 c.2.1 c.2.2) : ArgV K C Ce G (.ref a) (some c) none := by
  obtain ⟨_, dx, fc, hi, _⟩ := id h
  exact ⟨⟨a, rfl, h⟩, nofun, _, Se.ty hi, F.ep⟩
theorem arg_stall {a dx : Addr} {fs : List (Str × V)} (Ss : ClC K Cs) (F : FarC K C Ce Cs) (h : G a = some (.ins Cs dx fs)) : ArgV K C Ce G (.ref a) none none :=
  ⟨⟨_, Ss.ty h, F.se⟩, nofun, _, Ss.ty h, F.sp⟩
/-- a row: what ask refuses, and where -/
def RowB (K : PySem.W.Frag) (C Ce : Addr) (G : Hp) (v : V) (k : Nat) : Prop := ∃ a b v1 v2 v3 o1 o2 o3, v = .ref a ∧ G a = some (.tup [.int (k : Int), .ref b]) ∧ G b = some (.lst [v1, v2, v3]) ∧ entO K Ce G v1 o1 ∧ brO K C Ce G v2 o2 ∧ brO K C Ce G v3 o3 ∧ askBad o1 o2 o3 = some k
theorem RowB.same {v : V} {k : Nat} (h : RowB K C Ce G v k) (s : Same G G') : RowB K C Ce G' v k := by
  obtain ⟨a, b, v1, v2, v3, o1, o2, o3, e, h1, h2, h3, h4, h5, h6⟩ := h
  exact ⟨a, b, v1, v2, v3, o1, o2, o3, e, s _ _ h1, s _ _ h2, h3.same s, h4.same s, h5.same s, h6⟩
end
end Q
namespace Q
open PySem PySem.Spec PyProof.Rows L2 Calls
def tNever : TE := fun _ _ _ => False
theorem pe_never {X : Cx} {e : Expr} : PE X e tNever := ⟨fun _ _ _ _ _ _ h => False.elim h⟩
/-- a lambda made by the code c, whose table is at P -/
def tLamF (q : Str) (P : Addr) : TE := fun _ H Q => LamGo q P H fun H2 _ _ => ∀ f, H2 f = none → Q (.ref f) H2
theorem r_lamF {q : Str} {P : Addr} {σ : L2.St} {H : Hp} {Q : VK} (h : LamGo q P H fun H2 _ _ => ∀ f, H2 f = none → Q (.ref f) H2) : tLamF q P σ H Q := h
theorem pe_lamF {X : Cx} {c P : Addr} {params : Arguments} {body : Expr} {scope : Scope} {lpos : Pos} (TB : LamX.TabB X.base X.mg c P) (hcode : X.env.code = .ref c) (hdef : defaultsOf params X.env = ([], [])) (hfree : (scope.names.all fun y => !decide (y.2 = .free)) = true := by rfl) :
    PE X (.Lambda params body scope lpos) (tLamF (X.env.qual ++ "<lambda>") P) := by
  refine ⟨fun pins s σ H Q I ⟨ps, hP, tr, miss, hit⟩ => ?_⟩
  refine lam_mk I hcode (TB.code.keeps I.bk) hP tr TB.bm hdef (fun y hy e => by
    have z := List.all_eq_true.mp hfree y hy
    rw [e] at z
    cases z) (fun n f c' P' pm ctv s' n1 n2 n3 I2 hfo hfn hfr => ⟨.ref f, _, I2, rfl, miss lpos n c' P' n1 n2 n3 f hfn⟩) fun cv hcv => ?_
  obtain ⟨c', P', e, hc', q⟩ := hit lpos cv hcv
  exact ⟨c', e, fun f pm ctv s' I2 hfo hfn hfr => ⟨.ref f, H, I2, rfl, q f hfn⟩⟩
theorem inst_with {M : Model} {A : Around} {X : Value → Shared → Prop} {R : Value → Shared → Prop} {s : Shared} {o : Addr} {pos : Pos} {ps : List (Bool × Sem Value)} {kws : List (Option Str × Sem Value)} (pl : (ps.any (·.1) || kws.any (·.1.isNone)) = false)
    (h : wpAny M A (evalArgs (.ref o) true ps kws) (fun ar t => (∃ C ox od, PySem.W.InstAt t.heap o ox C od ∧ ox.data = .plain) ∧ wpAny M A (call (.ref o) ([] ++ ar.pos) ar.kw) R X t) X s) : wpAny M A (callWith pos (.ref o) [] ps kws) R X s := by
  unfold callWith
  refine wpAny_bind (wpAny_holding (wpAny_mono h (fun ar t told => wpAny_bind (wpAny_standAt ?_)) fun _ _ bad => bad))
  obtain ⟨⟨C, ox, od, J, plain⟩, run⟩ := told
  simp only [pl]
  refine wpAny_bind ((PySem.W.kco_keeper (M := M) J plain).here ?_)
  exact (wpAny_bind (wpAny_mono (wpAny_operateT run) (fun r t2 hr => wpAny_bind (wpAny_holding (wpAny_point (wpAny_pure hr)))) fun _ _ bad => bad))
/-- e(k=v): an own __call__ with keywords alone -/
structure CallK (P : Program) (w : World) (K : PySem.W.Frag) (mg : Str → Option Value) (base : Heap) (CX : CXT) (k : Nat) (C : Addr) (ks : List Str) (gV : List V → List V → List V) (sp : Sp) : Prop where
  ex : ∃ (g : Addr) (fd : FuncData) (ps : List Str) (gg : List Value → List Value → List Value), StX.CallO K C g ∧ KBn K fd ps 1 ks gg gV ∧ FnOk P w K mg base CX k g fd ps sp
def tCallOK (C : Addr) (n : Nat) (sp : Sp) (E : XK) (te : TE) (tk : TA) (gV : List V → List V → List V) : TE := fun σ H Q => te σ H fun y H1 => ∃ a dx fs, y = .ref a ∧ H1 a = some (.ins C dx fs) ∧ tk σ H1 fun zs H2 => H2 a = some (.ins C dx fs) ∧ zs.length = n ∧ sp (gV [.ref a] zs) H2 Q E
theorem pe_callOK {X : Cx} {CX : CXT} {k j : Nat} {C : Addr} {ks : List Str} {gV : List V → List V → List V} {sp : Sp} {E : XK} {fe : Expr} {kws : List Keyword} {te : TE} {tk : TA} {pos : Pos} (he : PE X fe te) (D : CallK X.prog X.w X.K X.mg X.base CX k C ks gV sp) (hr : Room j X.A) (hx : Passes CX X E) (hkw : PK X kws tk) (hj : k ≤ j := by decide)
    (hall : (backToKw pos (keywordEach kws X.env)).all (·.1.isSome) = true := by rfl) (hks : (backToKw pos (keywordEach kws X.env)).filterMap (·.1) = ks := by rfl)
    (hpl : ((backTo pos (starEach [] X.env)).any (·.1) || (backToKw pos (keywordEach kws X.env)).any (·.1.isNone)) = false := by rfl)
    (ht : eval (.Call fe [] kws pos) X.env = (do callWith pos (← eval fe X.env) [] (backTo pos (starEach [] X.env)) (backToKw pos (keywordEach kws X.env))) := by rfl) :
    PE X (.Call fe [] kws pos) (tCallOK C ks.length sp E te tk gV) := by
  obtain ⟨g, fd, ps, gg, cc, hb, FF⟩ := D.ex
  refine ⟨fun pins s σ H Q I h => ?_⟩
  rw [ht]
  refine wpAny_bind (thn (he.run pins s σ H _ I h) fun u s1 told => ?_)
  obtain ⟨y, H1, I1, ry, o, dx, fs, ey, ho, q⟩ := told
  subst ey
  obtain rfl : u = Value.ref o := ry
  refine inst_with hpl (evalArgs_kw2_nil hall (thn (hkw.run pos pins s1 σ H1 _ I1 q) fun ws s2 told2 => ?_))
  obtain ⟨zs, H2, I2, rz, ho2, l2, q2⟩ := told2
  obtain ⟨ox, od, J2, hd⟩ := StX.insC_at I2 (.inr ⟨dx, fs, ho2⟩)
  rw [hks]
  have r1 : Vals [V.ref o] [Value.ref o] := .cons rfl .nil
  have r2 := hb.rel r1 rz
  have e2 : ws.length = ks.length := rz.length.symm.trans l2
  refine ⟨⟨C, ox, od, J2, hd⟩, wpAny_call (PySem.W.kco_code I2.kIn J2 hd cc.at_ cc.fn cc.fi (codeAny_mono (FF.run X.A X.stack s2 H2 ⟨[.ref o], ks.zip ws⟩ (gg [.ref o] ws) _ Q E (hr.mono hj) I2.env0 (hb.to _ [.ref o] ws I2.kIn rfl e2) r2 q2) fun r s' hq => ?_))⟩
  match r, hq with
  | .error e, hq => exact hx pins σ H2 s2 e s' I2 hq
  | .ok (.ret u), hq => exact I2.after hq
  | .ok .next, hq => exact False.elim hq
  | .ok .brk, hq => exact False.elim hq
  | .ok .cont, hq => exact False.elim hq
/-- a plan that is done, played: nobody is asked -/
def spPlayDone (C Ce : Addr) : Sp := fun vs H Q _ => ∃ (G : Hp) (v x : V), vs = [v, x] ∧ Gh G H ∧ BrX C Ce G .done v ∧ Ret G H (fun r G' => ∃ q, r = .ref q ∧ G' q = some (.tup [])) Q
theorem u_playDone {C Ce : Addr} {e : En} {G H : Hp} {M : List Addr} {Q : VK} {E : XK} {v x : V} (w : Wd e G H M) (h : BrX C Ce G .done v) (k : ∀ q G' H', Wd e G' H' M → Same G G' → Same H H' → G' q = some (.tup []) → Q (.ref q) H') : spPlayDone C Ce [v, x] H Q E :=
  ⟨G, v, x, rfl, w.gh, h, ret_use w fun r G' H' w' s1 s2 ⟨q, e1, e2⟩ => by subst e1; exact k q G' H' w' s1 s2 e2⟩
end Q
namespace Q
open PySem PySem.Spec PyProof.Rows L2
def top (i : Nat) : Stmt := PySem.Challenge.pw_soundtill_k80_plans_made_and_played.main.body.getD i (.Pass ⟨0, 0, 0, 0⟩)
abbrev sDraw : Stmt := top 68
abbrev sPen : Stmt := top 67
abbrev sPick : Stmt := top 69
abbrev sIsInt : Stmt := top 16
abbrev sMoment : Stmt := top 17
abbrev sIsName : Stmt := top 18
abbrev sErrB : Stmt := inClass (top 7) 0
abbrev sEnInit : Stmt := inClass (top 61) 0
abbrev sEnEq : Stmt := inClass (top 61) 6
abbrev sEnStr : Stmt := inClass (top 61) 7
abbrev sPlInit : Stmt := inClass (top 63) 0
abbrev sPlDone : Stmt := inClass (top 63) 1
abbrev sPlAsk : Stmt := inClass (top 63) 2
abbrev sPlP : Stmt := inClass (top 63) 4
abbrev sPlF : Stmt := inClass (top 63) 5
abbrev sPlLen : Stmt := inClass (top 63) 7
abbrev sPlDeep : Stmt := inClass (top 63) 6
abbrev sPlCall : Stmt := inClass (top 63) 8
abbrev sAnswer : Stmt := top 76
abbrev sHeardE : Stmt := top 72
abbrev sPlanned : Stmt := top 71
abbrev sSizes : Stmt := top 74
abbrev sWording : Stmt := top 73
abbrev sLTree : Stmt := top 70
abbrev sPlStr : Stmt := inClass (top 63) 10
abbrev sPartsR : Stmt := top 79
abbrev sPlEq : Stmt := inClass (top 63) 9
abbrev sPlayed : Stmt := top 75
abbrev sPlayR : Stmt := top 77
abbrev sSlInit : Stmt := inClass (top 65) 0
abbrev sSlEnd : Stmt := inClass (top 65) 1
abbrev sRefR : Stmt := top 78
abbrev sLaw : Stmt := top 80
def fnL : List He5.DefA := [⟨fun K => He.ga K "law", "law", "law", defArgs sLaw, defBody sLaw, defScope sLaw, [], []⟩,
  ⟨fun K => He.ga K "is_integer", "is_integer", "is_integer", defArgs sIsInt, defBody sIsInt, defScope sIsInt, [], []⟩,
  ⟨fun K => He.ga K "is_moment", "is_moment", "is_moment", defArgs sMoment, defBody sMoment, defScope sMoment, [.int 0], []⟩,
  ⟨fun K => He.ga K "is_name", "is_name", "is_name", defArgs sIsName, defBody sIsName, defScope sIsName, [], []⟩,
  ⟨fun K => He.ma K (He.ga K "BadEntry") "__init__", "__init__", "BadEntry.__init__", defArgs sErrB, defBody sErrB, defScope sErrB, [], []⟩,
  ⟨fun K => He.ma K (He.ga K "Entry") "__init__", "__init__", "Entry.__init__", defArgs sEnInit, defBody sEnInit, defScope sEnInit, [], []⟩,
  ⟨fun K => He.ma K (He.ga K "Entry") "__eq__", "__eq__", "Entry.__eq__", defArgs sEnEq, defBody sEnEq, defScope sEnEq, [], []⟩,
  ⟨fun K => He.ma K (He.ga K "Entry") "__str__", "__str__", "Entry.__str__", defArgs sEnStr, defBody sEnStr, defScope sEnStr, [], []⟩,
  ⟨fun K => He.ma K (He.ga K "Plan") "__init__", "__init__", "Plan.__init__", defArgs sPlInit, defBody sPlInit, defScope sPlInit, [], []⟩,
  ⟨fun K => He5.wf K (He.ga K "Plan") "staticmethod" "done", "done", "Plan.done", defArgs sPlDone, defBody sPlDone, defScope sPlDone, [], []⟩,
  ⟨fun K => He5.wf K (He.ga K "Plan") "staticmethod" "ask", "ask", "Plan.ask", defArgs sPlAsk, defBody sPlAsk, defScope sPlAsk, [], []⟩,
  ⟨fun K => getterOf K (He.ma K (He.ga K "Plan") "passed"), "passed", "Plan.passed", defArgs sPlP, defBody sPlP, defScope sPlP, [], []⟩,
  ⟨fun K => getterOf K (He.ma K (He.ga K "Plan") "failed"), "failed", "Plan.failed", defArgs sPlF, defBody sPlF, defScope sPlF, [], []⟩,
  ⟨fun K => He.ma K (He.ga K "Plan") "__len__", "__len__", "Plan.__len__", defArgs sPlLen, defBody sPlLen, defScope sPlLen, [], []⟩,
  ⟨fun K => getterOf K (He.ma K (He.ga K "Plan") "depth"), "depth", "Plan.depth", defArgs sPlDeep, defBody sPlDeep, defScope sPlDeep, [], []⟩,
  ⟨fun K => He.ma K (He.ga K "Plan") "__eq__", "__eq__", "Plan.__eq__", defArgs sPlEq, defBody sPlEq, defScope sPlEq, [], []⟩,
  ⟨fun K => He.ma K (He.ga K "Plan") "__str__", "__str__", "Plan.__str__", defArgs sPlStr, defBody sPlStr, defScope sPlStr, [], []⟩,
  ⟨fun K => He.ma K (He.ga K "Plan") "__call__", "__call__", "Plan.__call__", defArgs sPlCall, defBody sPlCall, defScope sPlCall, [], []⟩,
  ⟨fun K => He.ma K (He.ga K "Stall") "__init__", "__init__", "Stall.__init__", defArgs sSlInit, defBody sSlInit, defScope sSlInit, [], []⟩,
  ⟨fun K => He5.wf K (He.ga K "Stall") "staticmethod" "end", "end", "Stall.end", defArgs sSlEnd, defBody sSlEnd, defScope sSlEnd, [], []⟩,
  ⟨fun K => He.ga K "_law_pen", "_law_pen", "_law_pen", defArgs sPen, defBody sPen, defScope sPen, [], []⟩,
  ⟨fun K => He.ga K "_law_draw", "_law_draw", "_law_draw", defArgs sDraw, defBody sDraw, defScope sDraw, [], []⟩,
  ⟨fun K => He.ga K "_law_pick", "_law_pick", "_law_pick", defArgs sPick, defBody sPick, defScope sPick, [], []⟩,
  ⟨fun K => He.ga K "_law_tree", "_law_tree", "_law_tree", defArgs sLTree, defBody sLTree, defScope sLTree, [], []⟩,
  ⟨fun K => He.ga K "_law_planned", "_law_planned", "_law_planned", defArgs sPlanned, defBody sPlanned, defScope sPlanned, [], []⟩,
  ⟨fun K => He.ga K "_law_sizes", "_law_sizes", "_law_sizes", defArgs sSizes, defBody sSizes, defScope sSizes, [], []⟩,
  ⟨fun K => He.ga K "_law_wording", "_law_wording", "_law_wording", defArgs sWording, defBody sWording, defScope sWording, [], []⟩,
  ⟨fun K => He.ga K "_law_parts_right", "_law_parts_right", "_law_parts_right", defArgs sPartsR, defBody sPartsR, defScope sPartsR, [], []⟩,
  ⟨fun K => He.ga K "_law_played", "_law_played", "_law_played", defArgs sPlayed, defBody sPlayed, defScope sPlayed, [], []⟩,
  ⟨fun K => He.ga K "_law_answer", "_law_answer", "_law_answer", defArgs sAnswer, defBody sAnswer, defScope sAnswer, [], []⟩,
  ⟨fun K => He.ga K "_law_heard", "_law_heard", "_law_heard", defArgs sHeardE, defBody sHeardE, defScope sHeardE, [], []⟩,
  ⟨fun K => He.ga K "_law_play_right", "_law_play_right", "_law_play_right", defArgs sPlayR, defBody sPlayR, defScope sPlayR, [], []⟩,
  ⟨fun K => He.ga K "_law_refused_right", "_law_refused_right", "_law_refused_right", defArgs sRefR, defBody sRefR, defScope sRefR, [], []⟩]
def faL : List He.Fa := [.free "int", .free "len", .free "abs", .free "list", .free "range", .free "repr", .free "str", .free "isinstance", .free "all", .free "any", .free "bool", .free "tuple", .free "sorted", .free "set", .free "dict", .free "enumerate", .free "zip", .free "min", .free "max", .free "ValueError", .glo "law", .glo "is_integer", .glo "is_moment", .glo "is_name", .glo "RESERVED", .str "LETTERS" zLetters, .str "FIGURES" zFigures, .int "MOST_SIGNS" 8, .int "MOST_MOMENT" 1000000000000000000000000000000, .meth "BadEntry" "__init__", .glo "BadEntry", .glo "Entry", .cls "Entry", .mkr "Entry", .noat "Entry" "tool", .noat "Entry" "moment", .noat "Entry" "by", .noat "Entry" "face", .glo "Plan", .cls "Plan", .mkr "Plan", .noat "Plan" "entry", .noat "Plan" "own_passed", .noat "Plan" "own_failed", .noat "Plan" "below", .noat "Plan" "each", .glo "Stall", .cls "Stall", .mkr "Stall", .noat "Stall" "at", .noat "Stall" "answers", .meth "Entry" "__init__", .meth "Entry" "__eq__", .meth "Entry" "__str__", .meth "Plan" "__init__", .meth "Plan" "__len__", .meth "Plan" "__eq__", .meth "Plan" "__str__", .meth "Plan" "__call__", .meth "Stall" "__init__", .glo "_law_pen", .glo "_law_draw", .glo "_law_pick", .glo "_law_tree", .glo "_law_planned", .glo "_law_sizes", .glo "_law_wording", .glo "_law_parts_right", .glo "_law_played", .glo "_law_answer", .glo "_law_heard", .glo "TillError", .glo "_law_play_right", .glo "_law_refused_right"]
def exL (K : PySem.W.Frag) : Bool := He.tupB K "RESERVED" [.str "begun", .str "setby", .str "found", .str "trusted", .str "passed", .str "failed", .str "agreed", .str "differed", .str "served", .str "backed", .str "sound", .str "unsound", .str "sure", .str "never", .str "open", .str "none", .str "record", .str "lot", .str "menu", .str "wanted"] &&
  (oexB K (He.ga K "BadEntry") &&
  (hdB K (He.ga K "BadEntry") "at" &&
  (He.eqO (PySem.W.findIn K (.ref (He.ga K "Entry")) "__class__") (some (some (.builtin "object.__class__"))) &&
  (He.eqO (PySem.W.findIn K (.ref (He.ga K "Entry")) "__ne__") (some (some (.builtin "object.__ne__"))) &&
  (eqS K (He.ga K "Entry") &&
  (He.eqO (PySem.W.findIn K (.ref (He.ga K "Plan")) "__class__") (some (some (.builtin "object.__class__"))) &&
  (He.eqO (PySem.W.findIn K (.ref (He.ga K "Plan")) "__ne__") (some (some (.builtin "object.__ne__"))) &&
  (eqS K (He.ga K "Plan") &&
  (He.eqO (PySem.W.findIn K (.ref (He.ga K "Stall")) "__class__") (some (some (.builtin "object.__class__"))) &&
  (He.eqO (PySem.W.findIn K (.ref (He.ga K "Stall")) "__ne__") (some (some (.builtin "object.__ne__"))) &&
  (eqS K (He.ga K "Stall") &&
  (decide (PySem.W.kitOne K (.ref (He.ga K "Plan")) (.type "int") = some false ∧ PySem.W.kitOne K (.ref (He.ga K "Plan")) (.type "bool") = some false ∧ PySem.W.kitOne K (.ref (He.ga K "Plan")) (.type "str") = some false) &&
  (decide (PySem.W.kitOne K (.ref (He.ga K "Plan")) (.ref (He.ga K "Entry")) = some false ∧ PySem.W.kitOne K (.ref (He.ga K "Entry")) (.ref (He.ga K "Plan")) = some false ∧ PySem.W.kitOne K (.ref (He.ga K "Stall")) (.ref (He.ga K "Plan")) = some false ∧ PySem.W.kitOne K (.ref (He.ga K "Stall")) (.ref (He.ga K "Entry")) = some false ∧ PySem.W.notFirst K (He.ga K "Plan") (.ref (He.ga K "Stall")) = true ∧ PySem.W.notFirst K (He.ga K "Plan") (.ref (He.ga K "Entry")) = true) &&
  (decide (PySem.W.mroIn K (He.ga K "Entry") (.type "NoneType") = some false ∧ PySem.W.mroIn K (He.ga K "Plan") (.type "NoneType") = some false) &&
  (readB K (He.ga K "Plan") &&
  (statB K (He.ga K "Plan") "done" &&
  (statB K (He.ga K "Plan") "ask" &&
  (propB K (He.ga K "Plan") "passed" &&
  (propB K (He.ga K "Plan") "failed" &&
  (propB K (He.ga K "Plan") "depth" &&
  (PySem.W.fnIn K (He.ma K (He.ga K "Plan") "__call__") &&
  (readB K (He.ga K "Stall") &&
  (statB K (He.ga K "Stall") "end" &&
  (decide (PySem.W.exmOne K (.ref (He.ga K "BadEntry")) (.ref (He.ga K "TillError")) = some true ∧ PySem.W.kitOne K (.ref (He.ga K "BadEntry")) (.ref (He.ga K "BadEntry")) = some true) &&
  (decide ((cTA K (He.ga K "law")).2 ≠ (cTA K (He.ga K "_law_play_right")).2 ∧ (cTA K (He.ga K "law")).2 ≠ (cTA K (He.ga K "_law_refused_right")).2 ∧ (cTA K (He.ga K "_law_play_right")).2 ≠ (cTA K (He.ga K "_law_refused_right")).2))))))))))))))))))))))))))
abbrev tfL : List (PySem.W.Frag → Addr) := [fun K => He.ga K "law", fun K => He.ga K "_law_play_right", fun K => He.ga K "_law_refused_right"]
abbrev RL : PySem.W.OpenRow := PySem.W.OpenLaw.row PySem.Challenge.rw_soundtill_k80_plans_made_and_played
abbrev nsL : List Str := ["BadEntry", "Entry", "Plan", "RESERVED", "Stall", "TillError", "_law_answer", "_law_draw", "_law_heard", "_law_parts_right", "_law_pen", "_law_pick", "_law_planned", "_law_play_right", "_law_played", "_law_refused_right", "_law_sizes", "_law_tree", "_law_wording", "is_integer", "is_moment", "is_name", "law"]
abbrev tsL : List He.Tab := []
abbrev hkL : PySem.W.Hook := hookV nsL 6 faL fnL tfL exL tsL
def obL (s : PySem.W.SharedT) : AlD2 := obsV nsL 6 faL fnL tfL exL tsL (HandSHeadRun.getT s)
theorem obL_eq (s : PySem.W.SharedT) : obL s = hkL.obs s.abs := obsV_eq (HandSHeadRun.getT_eq s)
theorem runA (w : World) : HandSHeadRun.RunEq RL (PySem.W.view RL.prog [80]) hkL obL 12000 (("_wall" : PySem.Str) :: ("__name__" : PySem.Str) :: ("TillError" : PySem.Str) :: ("BadName" : PySem.Str) :: ("BadMoment" : PySem.Str) :: ("BadSaying" : PySem.Str) :: ("NoTool" : PySem.Str) :: ("BadEntry" : PySem.Str) :: ("BadText" : PySem.Str) :: ("RESERVED" : PySem.Str) :: ("LETTERS" : PySem.Str) :: ("FIGURES" : PySem.Str) :: ("MOST_SIGNS" : PySem.Str) :: ("MOST_FIGURES" : PySem.Str) :: ("MOST_MOMENT" : PySem.Str) :: ("is_integer" : PySem.Str) :: ("is_moment" : PySem.Str) :: ("is_name" : PySem.Str) :: ("moment_in" : PySem.Str) :: ("TRUTHS" : PySem.Str) :: ("MANY_WORDS" : PySem.Str) :: ("Saying" : PySem.Str) :: ("ENTRY_FORMS" : PySem.Str) :: ("MOST_CHECKS" : PySem.Str) :: ("can_stand" : PySem.Str) :: ("need_forms" : PySem.Str) :: ("need_end" : PySem.Str) :: ("lines_of" : PySem.Str) :: ("need_one_line" : PySem.Str) :: ("entry_at" : PySem.Str) :: ("entry_parts" : PySem.Str) :: ("plan_at" : PySem.Str) :: ("branch_at" : PySem.Str) :: ("plan_tree" : PySem.Str) :: ("FORMS" : PySem.Str) :: ("BEGINNINGS" : PySem.Str) :: ("need_name" : PySem.Str) :: ("need_moment" : PySem.Str) :: ("Row" : PySem.Str) :: ("Beginning" : PySem.Str) :: ("Check" : PySem.Str) :: ("Meeting" : PySem.Str) :: ("Begun" : PySem.Str) :: ("SetBy" : PySem.Str) :: ("Found" : PySem.Str) :: ("Trusted" : PySem.Str) :: ("Passed" : PySem.Str) :: ("Failed" : PySem.Str) :: ("Agreed" : PySem.Str) :: ("Differed" : PySem.Str) :: ("Served" : PySem.Str) :: ("Backed" : PySem.Str) :: ("made_meeting" : PySem.Str) :: ("made_row" : PySem.Str) :: ("fits" : PySem.Str) :: ("row_in" : PySem.Str) :: ("Entry" : PySem.Str) :: ("Plan" : PySem.Str) :: ("plan_of" : PySem.Str) :: ("Stall" : PySem.Str) :: ("_law_pen" : PySem.Str) :: ("_law_draw" : PySem.Str) :: ("_law_pick" : PySem.Str) :: ("_law_tree" : PySem.Str) :: ("_law_planned" : PySem.Str) :: ("_law_heard" : PySem.Str) :: ("_law_wording" : PySem.Str) :: ("_law_sizes" : PySem.Str) :: ("_law_played" : PySem.Str) :: ("_law_answer" : PySem.Str) :: ("_law_play_right" : PySem.Str) :: ("_law_refused_right" : PySem.Str) :: ("_law_parts_right" : PySem.Str) :: []) (w.withFollow "special-get-raises" false) := by
  intro os
  kernel_rfl
theorem runB (w : World) : HandSHeadRun.RunEq RL (PySem.W.view RL.prog [80]) hkL obL 12000 (("_wall" : PySem.Str) :: ("__name__" : PySem.Str) :: ("TillError" : PySem.Str) :: ("BadName" : PySem.Str) :: ("BadMoment" : PySem.Str) :: ("BadSaying" : PySem.Str) :: ("NoTool" : PySem.Str) :: ("BadEntry" : PySem.Str) :: ("BadText" : PySem.Str) :: ("RESERVED" : PySem.Str) :: ("LETTERS" : PySem.Str) :: ("FIGURES" : PySem.Str) :: ("MOST_SIGNS" : PySem.Str) :: ("MOST_FIGURES" : PySem.Str) :: ("MOST_MOMENT" : PySem.Str) :: ("is_integer" : PySem.Str) :: ("is_moment" : PySem.Str) :: ("is_name" : PySem.Str) :: ("moment_in" : PySem.Str) :: ("TRUTHS" : PySem.Str) :: ("MANY_WORDS" : PySem.Str) :: ("Saying" : PySem.Str) :: ("ENTRY_FORMS" : PySem.Str) :: ("MOST_CHECKS" : PySem.Str) :: ("can_stand" : PySem.Str) :: ("need_forms" : PySem.Str) :: ("need_end" : PySem.Str) :: ("lines_of" : PySem.Str) :: ("need_one_line" : PySem.Str) :: ("entry_at" : PySem.Str) :: ("entry_parts" : PySem.Str) :: ("plan_at" : PySem.Str) :: ("branch_at" : PySem.Str) :: ("plan_tree" : PySem.Str) :: ("FORMS" : PySem.Str) :: ("BEGINNINGS" : PySem.Str) :: ("need_name" : PySem.Str) :: ("need_moment" : PySem.Str) :: ("Row" : PySem.Str) :: ("Beginning" : PySem.Str) :: ("Check" : PySem.Str) :: ("Meeting" : PySem.Str) :: ("Begun" : PySem.Str) :: ("SetBy" : PySem.Str) :: ("Found" : PySem.Str) :: ("Trusted" : PySem.Str) :: ("Passed" : PySem.Str) :: ("Failed" : PySem.Str) :: ("Agreed" : PySem.Str) :: ("Differed" : PySem.Str) :: ("Served" : PySem.Str) :: ("Backed" : PySem.Str) :: ("made_meeting" : PySem.Str) :: ("made_row" : PySem.Str) :: ("fits" : PySem.Str) :: ("row_in" : PySem.Str) :: ("Entry" : PySem.Str) :: ("Plan" : PySem.Str) :: ("plan_of" : PySem.Str) :: ("Stall" : PySem.Str) :: ("_law_pen" : PySem.Str) :: ("_law_draw" : PySem.Str) :: ("_law_pick" : PySem.Str) :: ("_law_tree" : PySem.Str) :: ("_law_planned" : PySem.Str) :: ("_law_heard" : PySem.Str) :: ("_law_wording" : PySem.Str) :: ("_law_sizes" : PySem.Str) :: ("_law_played" : PySem.Str) :: ("_law_answer" : PySem.Str) :: ("_law_play_right" : PySem.Str) :: ("_law_refused_right" : PySem.Str) :: ("_law_parts_right" : PySem.Str) :: []) (w.withFollow "special-get-raises" true) := by
  intro os
  kernel_rfl
theorem runL (w : World) : HandSHeadRun.RunEq RL (PySem.W.view RL.prog [80]) hkL obL 12000 (("_wall" : PySem.Str) :: ("__name__" : PySem.Str) :: ("TillError" : PySem.Str) :: ("BadName" : PySem.Str) :: ("BadMoment" : PySem.Str) :: ("BadSaying" : PySem.Str) :: ("NoTool" : PySem.Str) :: ("BadEntry" : PySem.Str) :: ("BadText" : PySem.Str) :: ("RESERVED" : PySem.Str) :: ("LETTERS" : PySem.Str) :: ("FIGURES" : PySem.Str) :: ("MOST_SIGNS" : PySem.Str) :: ("MOST_FIGURES" : PySem.Str) :: ("MOST_MOMENT" : PySem.Str) :: ("is_integer" : PySem.Str) :: ("is_moment" : PySem.Str) :: ("is_name" : PySem.Str) :: ("moment_in" : PySem.Str) :: ("TRUTHS" : PySem.Str) :: ("MANY_WORDS" : PySem.Str) :: ("Saying" : PySem.Str) :: ("ENTRY_FORMS" : PySem.Str) :: ("MOST_CHECKS" : PySem.Str) :: ("can_stand" : PySem.Str) :: ("need_forms" : PySem.Str) :: ("need_end" : PySem.Str) :: ("lines_of" : PySem.Str) :: ("need_one_line" : PySem.Str) :: ("entry_at" : PySem.Str) :: ("entry_parts" : PySem.Str) :: ("plan_at" : PySem.Str) :: ("branch_at" : PySem.Str) :: ("plan_tree" : PySem.Str) :: ("FORMS" : PySem.Str) :: ("BEGINNINGS" : PySem.Str) :: ("need_name" : PySem.Str) :: ("need_moment" : PySem.Str) :: ("Row" : PySem.Str) :: ("Beginning" : PySem.Str) :: ("Check" : PySem.Str) :: ("Meeting" : PySem.Str) :: ("Begun" : PySem.Str) :: ("SetBy" : PySem.Str) :: ("Found" : PySem.Str) :: ("Trusted" : PySem.Str) :: ("Passed" : PySem.Str) :: ("Failed" : PySem.Str) :: ("Agreed" : PySem.Str) :: ("Differed" : PySem.Str) :: ("Served" : PySem.Str) :: ("Backed" : PySem.Str) :: ("made_meeting" : PySem.Str) :: ("made_row" : PySem.Str) :: ("fits" : PySem.Str) :: ("row_in" : PySem.Str) :: ("Entry" : PySem.Str) :: ("Plan" : PySem.Str) :: ("plan_of" : PySem.Str) :: ("Stall" : PySem.Str) :: ("_law_pen" : PySem.Str) :: ("_law_draw" : PySem.Str) :: ("_law_pick" : PySem.Str) :: ("_law_tree" : PySem.Str) :: ("_law_planned" : PySem.Str) :: ("_law_heard" : PySem.Str) :: ("_law_wording" : PySem.Str) :: ("_law_sizes" : PySem.Str) :: ("_law_played" : PySem.Str) :: ("_law_answer" : PySem.Str) :: ("_law_play_right" : PySem.Str) :: ("_law_refused_right" : PySem.Str) :: ("_law_parts_right" : PySem.Str) :: []) w :=
  PySem.W.byRow2 "special-get-raises" (P := fun w => HandSHeadRun.RunEq RL (PySem.W.view RL.prog [80]) hkL obL 12000 (("_wall" : PySem.Str) :: ("__name__" : PySem.Str) :: ("TillError" : PySem.Str) :: ("BadName" : PySem.Str) :: ("BadMoment" : PySem.Str) :: ("BadSaying" : PySem.Str) :: ("NoTool" : PySem.Str) :: ("BadEntry" : PySem.Str) :: ("BadText" : PySem.Str) :: ("RESERVED" : PySem.Str) :: ("LETTERS" : PySem.Str) :: ("FIGURES" : PySem.Str) :: ("MOST_SIGNS" : PySem.Str) :: ("MOST_FIGURES" : PySem.Str) :: ("MOST_MOMENT" : PySem.Str) :: ("is_integer" : PySem.Str) :: ("is_moment" : PySem.Str) :: ("is_name" : PySem.Str) :: ("moment_in" : PySem.Str) :: ("TRUTHS" : PySem.Str) :: ("MANY_WORDS" : PySem.Str) :: ("Saying" : PySem.Str) :: ("ENTRY_FORMS" : PySem.Str) :: ("MOST_CHECKS" : PySem.Str) :: ("can_stand" : PySem.Str) :: ("need_forms" : PySem.Str) :: ("need_end" : PySem.Str) :: ("lines_of" : PySem.Str) :: ("need_one_line" : PySem.Str) :: ("entry_at" : PySem.Str) :: ("entry_parts" : PySem.Str) :: ("plan_at" : PySem.Str) :: ("branch_at" : PySem.Str) :: ("plan_tree" : PySem.Str) :: ("FORMS" : PySem.Str) :: ("BEGINNINGS" : PySem.Str) :: ("need_name" : PySem.Str) :: ("need_moment" : PySem.Str) :: ("Row" : PySem.Str) :: ("Beginning" : PySem.Str) :: ("Check" : PySem.Str) :: ("Meeting" : PySem.Str) :: ("Begun" : PySem.Str) :: ("SetBy" : PySem.Str) :: ("Found" : PySem.Str) :: ("Trusted" : PySem.Str) :: ("Passed" : PySem.Str) :: ("Failed" : PySem.Str) :: ("Agreed" : PySem.Str) :: ("Differed" : PySem.Str) :: ("Served" : PySem.Str) :: ("Backed" : PySem.Str) :: ("made_meeting" : PySem.Str) :: ("made_row" : PySem.Str) :: ("fits" : PySem.Str) :: ("row_in" : PySem.Str) :: ("Entry" : PySem.Str) :: ("Plan" : PySem.Str) :: ("plan_of" : PySem.Str) :: ("Stall" : PySem.Str) :: ("_law_pen" : PySem.Str) :: ("_law_draw" : PySem.Str) :: ("_law_pick" : PySem.Str) :: ("_law_tree" : PySem.Str) :: ("_law_planned" : PySem.Str) :: ("_law_heard" : PySem.Str) :: ("_law_wording" : PySem.Str) :: ("_law_sizes" : PySem.Str) :: ("_law_played" : PySem.Str) :: ("_law_answer" : PySem.Str) :: ("_law_play_right" : PySem.Str) :: ("_law_refused_right" : PySem.Str) :: ("_law_parts_right" : PySem.Str) :: []) w) runA runB w
end Q
open PySem PySem.Spec PyProof.Rows L2 Q
local macro_rules | `(tactic| walk_at "ne") => `(tactic| first
  | assumption
  | (refine' Ne.symm ?h; (case h => assumption))
  | (refine' (by assumption : ∀ m ∈ _, _ ≠ m) _ ?h; (case h => simp))
  | (refine' Ne.symm ((by assumption : ∀ m ∈ _, _ ≠ m) _ ?h); (case h => simp)))
local macro_rules | `(tactic| walk_at "atg") => `(tactic| first
  | assumption
  | (refine' same_at ?s ?h; (case s => assumption); (case h => walk_at "atg")))
local macro_rules | `(tactic| walk_at "at") => `(tactic| first
  | assumption
  | exact upd_same
  | (refine' wd_at ?w ?h; (case w => assumption); (case h => walk_at "atg"))
  | (refine' same_at ?s ?h; (case s => assumption); (case h => walk_at "at"))
  | (refine' but_at ?b ?n ?h; (case b => assumption); (case h => walk_at "at"); (case n => walk_at "ne")))
local macro_rules | `(tactic| walk_at "sqg") => `(tactic| first
  | assumption
  | (refine' SqL.of ?h; (case h => walk_at "atg"))
  | (refine' SqT.of ?h; (case h => walk_at "atg"))
  | (refine' same_sqL ?s ?h; (case s => assumption); (case h => walk_at "sqg"))
  | (refine' same_sqT ?s ?h; (case s => assumption); (case h => walk_at "sqg")))
local macro_rules | `(tactic| walk_at "sq") => `(tactic| first
  | assumption
  | (refine' SqL.of ?h; (case h => walk_at "at"))
  | (refine' SqT.of ?h; (case h => walk_at "at"))
  | (refine' wd_sqL ?w ?h; (case w => assumption); (case h => walk_at "sqg"))
  | (refine' wd_sqT ?w ?h; (case w => assumption); (case h => walk_at "sqg")))
local macro_rules | `(tactic| walk_at "dpaG") => `(tactic| first
  | exact DpAll.nil
  | (refine' DpAll.cons ?a ?b; (case a => walk_at "dpG"); (case b => walk_at "dpaG"))
  | exact dpa_ints _
  | assumption
  | (refine' same_dpa ?s ?h; (case s => assumption); (case h => assumption)))
local macro_rules | `(tactic| walk_at "dpG") => `(tactic| first
  | exact Dp.bl _ | exact Dp.int _ | exact Dp.str _ | exact Dp.non
  | assumption
  | (refine' Dp.lst ?h ?a; (case h => walk_at "sqg"); (case a => walk_at "dpaG"))
  | (refine' Dp.tup ?h ?a; (case h => walk_at "sqg"); (case a => walk_at "dpaG"))
  | (refine' same_dp ?s ?h; (case s => assumption); (case h => walk_at "dpG")))
local macro_rules | `(tactic| walk_at "dpa") => `(tactic| first
  | exact DpAll.nil
  | (refine' DpAll.cons ?a ?b; (case a => walk_at "dp"); (case b => walk_at "dpa"))
  | exact dpa_ints _
  | assumption)
local macro_rules | `(tactic| walk_at "dp") => `(tactic| first
  | exact Dp.bl _ | exact Dp.int _ | exact Dp.str _ | exact Dp.non
  | assumption
  | (refine' wd_dp ?w ?h; (case w => assumption); (case h => walk_at "dpG"))
  | (refine' Dp.lst ?h ?a; (case h => walk_at "sq"); (case a => walk_at "dpa"))
  | (refine' Dp.tup ?h ?a; (case h => walk_at "sq"); (case a => walk_at "dpa")))
local macro_rules | `(tactic| walk_at "pen") => `(tactic| first
  | assumption
  | (refine' PenAt.same ?P ?s; (case s => assumption); (case P => walk_at "pen"))
  | (refine' PenAt.but ?P ?b ?n; (case b => assumption); (case P => walk_at "pen"); (case n => walk_at "ne")))
local macro_rules | `(tactic| walk_at "cells") => `(tactic| first
  | assumption
  | (refine' Cells.same ?P ?s; (case s => assumption); (case P => walk_at "cells")))
local macro_rules | `(tactic| walk_at "cond") => `(tactic| first | omega | decide | with_reducible assumption | (simp; done))
local macro_rules | `(tactic| walk_at "size") => `(tactic| first | decide | (refine' sz_m ?h; (case h => first | omega | exact Nat.le_of_ble_eq_true rfl | (simp; done) | (simp; omega))))
local macro_rules | `(tactic| walk_at "js") => `(tactic| (refine' sz_m ?h; (case h => (simp only [Str.length_append]; first | omega | (simp; omega) | (simp [Str.length, Str.empty]; omega)))))
local macro_rules | `(tactic| walk_at "lsz") => `(tactic| first | assumption | (refine' Nat.lt_of_lt_of_le (m := 1000000) ?h ?g; (case g => decide); (case h => first | exact Nat.le_of_ble_eq_true rfl | omega | (simp; done) | (simp; omega))))
local macro_rules | `(tactic| walk_at "say") => `(tactic| first
  | assumption
  | (refine' SayAt.same ?h ?s; (case s => assumption); (case h => walk_at "say")))
local macro_rules | `(tactic| walk_at "qu") => `(tactic| fail "no user step")
local macro_rules | `(tactic| walk_at "q") => `(tactic| first
  | with_reducible refine' r_seq ?_ | with_reducible refine' r_asg ?_ | with_reducible refine' r_name ?_ | with_reducible refine' r_op ?_
  | ((with_reducible refine' r_var ?h ?_); (case h => exact rfl))
  | with_reducible refine' r_c ?_ | with_reducible refine' r_cb ?_ | with_reducible refine' r_cons ?_ | with_reducible refine' r_nil ?_
  | with_reducible refine' r_call0 ?_ | with_reducible refine' r_call ?_ | with_reducible refine' r_ret ?_ | with_reducible refine' r_next ?_ | with_reducible refine' r_drop ?_ | with_reducible refine' r_ifS ?_
  | with_reducible refine' r_test ?_ | with_reducible refine' r_tB ?_ | with_reducible refine' r_exb ?_ | with_reducible refine' r_and ?_ | with_reducible refine' r_or ?_ | with_reducible refine' r_not ?_
  | with_reducible refine' r_andV ?_ | with_reducible refine' r_orV ?_ | with_reducible refine' r_notV ?_ | with_reducible refine' r_ifE ?_ | with_reducible refine' r_chain ?_ | with_reducible refine' r_un ?_
  | with_reducible refine' r_tup ?_ | with_reducible refine' r_lst ?_ | with_reducible refine' r_lstM ?_ | with_reducible refine' r_gSub ?_ | with_reducible refine' r_sl ?_ | with_reducible refine' r_noPart ?_ | with_reducible refine' r_part ?_ | with_reducible refine' r_exi ?_
  | with_reducible refine' iteT ?_ | with_reducible refine' iteF ?_ | with_reducible refine' ite_nt ?_ | with_reducible refine' ite_nf ?_
  | with_reducible refine' r_addI ?_ | with_reducible refine' r_sub ?_ | with_reducible refine' r_lt ?_ | with_reducible refine' r_le ?_ | with_reducible refine' r_gt ?_ | with_reducible refine' r_ge ?_ | with_reducible refine' r_ltS ?_
  | with_reducible refine' r_isN ?_ | with_reducible refine' r_notN ?_
  | with_reducible refine' r_int ?_ | with_reducible refine' r_intB ?_ | with_reducible refine' r_abs ?_
  | ((with_reducible refine' r_addS ?h ?_); (case h => first | walk_at "size" | walk_at "cond"))
  | ((with_reducible refine' r_mul ?h ?_); (case h => first | (exact Or.inl ⟨by walk_at "cond", by walk_at "cond"⟩) | (exact Or.inr ⟨by walk_at "cond", by walk_at "cond"⟩)))
  | ((with_reducible refine' r_mod ?h ?_); (case h => walk_at "cond"))
  | ((with_reducible refine' r_fdiv ?h ?_); (case h => first | with_reducible assumption | exact cdiv_lit (by decide) (by decide) | (refine ‹∀ x : Int, CDivW x _› _)))
  | ((with_reducible refine' r_pow ?h ?_); (case h => exact ⟨by walk_at "cond", by walk_at "cond", by walk_at "cond"⟩))
  | ((with_reducible refine' r_ixL ?h ?e ?_); (case h => walk_at "sq"); (case e => first | exact rfl | assumption))
  | ((with_reducible refine' r_ixT ?h ?e ?_); (case h => walk_at "sq"); (case e => first | exact rfl | assumption))
  | ((with_reducible refine' r_setM ?w ?m ?h ?e ?_); (case w => assumption); (case m => simp; done); (case h => walk_at "at"); (case e => exact rfl); intro H' w' h' b')
  | ((with_reducible refine' r_lenL ?h ?_); (case h => walk_at "sq"))
  | ((with_reducible refine' r_lenT ?h ?_); (case h => walk_at "sq"))
  | ((with_reducible refine' r_lenS ?h ?_); (case h => walk_at "size"))
  | ((with_reducible refine' r_ixS ?h ?e ?_); (case h => walk_at "size"); (case e => first | assumption | exact rfl))
  | ((with_reducible refine' r_ixA ?h ?e ?_); (case h => assumption); (case e => first | assumption | exact rfl))
  | ((with_reducible refine' r_listL ?h ?_); (case h => walk_at "sq"))
  | ((with_reducible refine' r_listT ?h ?_); (case h => walk_at "sq"))
  | ((with_reducible refine' r_slS ?h ?_); (case h => walk_at "size"))
  | ((with_reducible refine' r_addL ?h1 ?h2 ?_); (case h1 => walk_at "at"); (case h2 => walk_at "at"))
  | ((with_reducible refine' r_slL ?h ?_); (case h => walk_at "sq"))
  | ((with_reducible refine' r_eq ?h ?_); (case h => exact rfl))
  | with_reducible refine' r_tFldX ?_ | ((with_reducible refine' r_tyL ?h ?_); (case h => walk_at "sq"))
  | ((with_reducible refine' r_eqS ?h ?_); (case h => exact rfl))
  | ((with_reducible refine' r_neS ?h ?_); (case h => exact rfl))
  | ((with_reducible refine' r_eqD ?h1 ?h2 ?s1 ?s2 ?_); (case h1 => walk_at "dp"); (case h2 => walk_at "dp"); (case s1 => walk_at "shp"); (case s2 => walk_at "shp"))
  | ((with_reducible refine' r_neD ?h1 ?h2 ?s1 ?s2 ?_); (case h1 => walk_at "dp"); (case h2 => walk_at "dp"); (case s1 => walk_at "shp"); (case s2 => walk_at "shp"))
  | ((with_reducible refine' r_repr ?h ?s ?d ?z ?_); (case h => walk_at "dp"); (case s => walk_at "shw"); (case d => walk_at "shw"); (case z => walk_at "shw"))
  | ((with_reducible refine' r_layM ?w ?l ?n ?_); (case w => assumption); (case l => walk_at "size"); (case n => rfl); intro p' H' n' w' h' s' d')
  | ((with_reducible refine' r_lay ?w ?l ?n ?_); (case w => assumption); (case l => walk_at "size"); (case n => (intro ps z; cases z)); intro p' G' H' n' w' s' h' t')
  | with_reducible refine' r_for ?_ | with_reducible refine' r_lc ?_ | with_reducible refine' r_iList ?_ | with_reducible refine' r_iTup ?_ | with_reducible refine' r_iStr ?_ | with_reducible refine' r_exs ?_
  | with_reducible refine' r_rng1 ?_ | with_reducible refine' r_rng2 ?_ | with_reducible refine' r_iEnum ?_ | with_reducible refine' r_yes ?_ | with_reducible refine' r_inSign ?_
  | ((with_reducible refine' r_rng1R ?a ?b ?_); (case a => walk_at "cond"); (case b => walk_at "cond"))
  | ((with_reducible refine' r_rng2R ?a ?_); (case a => exact ⟨by walk_at "cond", by walk_at "cond", by walk_at "cond", by walk_at "cond"⟩))
  | ((with_reducible refine' r_iListR ?h ?_); (case h => walk_at "sq"))
  | ((with_reducible refine' r_iTupR ?h ?_); (case h => walk_at "sq"))
  | ((with_reducible refine' r_iEnumR ?h ?_); (case h => walk_at "sq"))
  | ((with_reducible refine' r_lcT ?h ?_); (case h => exact rfl))
  | ((with_reducible refine' r_all ?h ?_); (case h => walk_at "sq"))
  | with_reducible refine' r_isi_int_int ?_ | with_reducible refine' r_isi_int_bool ?_ | with_reducible refine' r_isi_int_str ?_ | with_reducible refine' r_isi_int_list ?_ | with_reducible refine' r_isi_int_tuple ?_ | with_reducible refine' r_isi_int_dict ?_ | with_reducible refine' r_isi_bl_int ?_ | with_reducible refine' r_isi_bl_bool ?_ | with_reducible refine' r_isi_bl_str ?_ | with_reducible refine' r_isi_bl_list ?_ | with_reducible refine' r_isi_bl_tuple ?_ | with_reducible refine' r_isi_bl_dict ?_ | with_reducible refine' r_isi_str_int ?_ | with_reducible refine' r_isi_str_bool ?_ | with_reducible refine' r_isi_str_str ?_ | with_reducible refine' r_isi_str_list ?_ | with_reducible refine' r_isi_str_tuple ?_ | with_reducible refine' r_isi_str_dict ?_ | with_reducible refine' r_isi_non_int ?_ | with_reducible refine' r_isi_non_bool ?_ | with_reducible refine' r_isi_non_str ?_ | with_reducible refine' r_isi_non_list ?_ | with_reducible refine' r_isi_non_tuple ?_ | with_reducible refine' r_isi_non_dict ?_
  | ((with_reducible refine' r_isi ?h ?e ?_); (case h => walk_at "ty"); (case e => first | assumption | exact kt_list_int | exact kt_list_bool | exact kt_list_str | exact kt_list_list | exact kt_list_tuple | exact kt_list_dict | exact kt_tuple_int | exact kt_tuple_bool | exact kt_tuple_str | exact kt_tuple_list | exact kt_tuple_tuple | exact kt_tuple_dict | exact kt_dict_int | exact kt_dict_bool | exact kt_dict_str | exact kt_dict_list | exact kt_dict_tuple | exact kt_dict_dict))
  | ((with_reducible refine' r_isiC ?h ?e ?_); (case h => walk_at "ty"); (case e => assumption))
  | ((with_reducible refine' r_inL ?h ?f ?g ?_); (case h => walk_at "sq"); (case f => exact rfl); (case g => first | exact rfl | assumption))
  | ((with_reducible refine' r_inT ?h ?f ?g ?_); (case h => walk_at "sq"); (case f => exact rfl); (case g => first | exact rfl | assumption))
  | ((with_reducible refine' r_ninL ?h ?f ?g ?_); (case h => walk_at "sq"); (case f => exact rfl); (case g => first | exact rfl | assumption))
  | ((with_reducible refine' r_ninT ?h ?f ?g ?_); (case h => walk_at "sq"); (case f => exact rfl); (case g => first | exact rfl | assumption))
  | ((with_reducible refine' r_lcAdd ?w ?s ?h ?l ?i ?_); (case w => assumption); (case s => walk_at "sg"); (case h => walk_at "at"); (case l => assumption); (case i => omega); intro H' w' b')
  | with_reducible refine' r_tFld ?_ | with_reducible refine' r_sFld ?_ | with_reducible refine' r_tProp ?_ | with_reducible refine' r_tMeth ?_ | with_reducible refine' r_tMethK ?_ | with_reducible refine' r_tMake ?_
  | with_reducible refine' r_tBM ?_ | ((with_reducible refine' r_tyL ?h ?_); (case h => walk_at "sq"))
  | ((with_reducible refine' r_appM ?w ?m ?h ?l ?_); (case w => assumption); (case m => simp; done); (case h => walk_at "at"); (case l => walk_at "lsz"); intro H' w' h' b')
  | with_reducible refine' r_tRaise ?_
  | with_reducible refine' r_dnewK ?_ | with_reducible refine' r_un ?_ | with_reducible refine' r_neg ?_ | with_reducible refine' r_tStat ?_ | with_reducible refine' r_tStatK ?_ | with_reducible refine' r_stat ?_ | with_reducible refine' r_tMakeK ?_
  | ((with_reducible refine' r_rep ?h ?a ?b ?z ?_); (case h => walk_at "at"); (case a => decide); (case b => decide); (case z => first | decide | exact Nat.le_trans (Nat.le_of_ble_eq_true rfl : _ ≤ 1000000) (by decide)))
  | with_reducible refine' r_tFmt ?_ | with_reducible refine' r_jnil ?_ | with_reducible refine' r_jcons ?_
  | ((with_reducible refine' r_fld ?h ?c ?n ?l ?_); (case h => walk_at "at"); (case c => assumption); (case n => assumption); (case l => exact rfl))
  | ((with_reducible refine' r_setF ?w ?m ?h ?c ?n ?l ?_); (case w => assumption); (case m => simp; done); (case h => walk_at "at"); (case c => assumption); (case n => assumption); (case l => first | decide | exact Nat.le_of_ble_eq_true rfl); intro H' w' h' b')
  | ((with_reducible refine' r_prop ?h ?_); (case h => walk_at "at"))
  | ((with_reducible refine' r_meth ?h ?l ?_); (case h => walk_at "at"); (case l => exact rfl))
  | ((with_reducible refine' r_methK ?h ?l ?_); (case h => walk_at "at"); (case l => exact rfl))
  | ((with_reducible refine' r_fmtS ?h ?_); (case h => walk_at "size"))
  | ((with_reducible refine' r_fmtI ?h ?_); (case h => assumption))
  | ((with_reducible refine' r_jk ?h ?_); (case h => walk_at "js"))
  | ((with_reducible refine' u_isInt ?w ?h ?_); (case w => assumption); (case h => walk_at "kd"); intro G' H' w' s' t')
  | ((with_reducible refine' u_moment ?w ?h ?_); (case w => assumption); (case h => walk_at "kd"); intro G' H' w' s' t')
  | ((with_reducible refine' u_moment0 ?w ?h ?_); (case w => assumption); (case h => walk_at "kd"); intro G' H' w' s' t')
  | ((with_reducible refine' u_isName ?w ?h ?z ?_); (case w => assumption); (case h => walk_at "kd"); (case z => assumption); intro G' H' w' s' t')
  | with_reducible refine' r_par ?_ | with_reducible refine' r_parK ?_ | with_reducible refine' r_dnewM ?_ | with_reducible refine' r_sDPut ?_ | with_reducible refine' r_tDGet ?_ | with_reducible refine' r_strS ?_ | with_reducible refine' r_iKeys ?_ | with_reducible refine' r_tDGet2 ?_
  | with_reducible refine' r_notInSign ?_ | with_reducible refine' r_tFrzV ?_ | with_reducible refine' r_iSeq ?_ | with_reducible refine' r_dc ?_ | ((with_reducible refine' r_dcT ?h ?_); (case h => exact rfl)) | with_reducible refine' r_tStar ?_
  | ((with_reducible refine' r_dcAdd ?w ?s ?h ?l ?i ?_); (case w => assumption); (case s => walk_at "sg"); (case h => walk_at "at"); (case l => assumption); (case i => omega); intro H' w' b')
  | ((with_reducible refine' r_starL ?h ?_); (case h => walk_at "sq"))
  | with_reducible refine' r_dt ?_ | ((with_reducible refine' r_dtT ?h ?_); (case h => exact rfl)) | with_reducible refine' r_lc2 ?_ | ((with_reducible refine' r_l2T ?h ?_); (case h => exact rfl))
  | ((with_reducible refine' r_dtAdd ?w ?s ?h ?l ?i ?b ?_); (case w => assumption); (case s => walk_at "sg"); (case h => walk_at "at"); (case l => assumption); (case i => omega); (case b => walk_at "at"); intro H' w' b')
  | ((with_reducible refine' r_l2Add ?w ?s ?h ?l ?_); (case w => assumption); (case s => walk_at "sg"); (case h => walk_at "at"); (case l => first | assumption | omega); intro H' w' b')
  | with_reducible refine' r_gNil ?_ | with_reducible refine' r_gCons ?_ | ((with_reducible refine' r_gTupR ?h ?l ?_); (case h => walk_at "sq"); (case l => exact rfl))
  | ((with_reducible refine' r_strN ?h ?_); (case h => assumption))
  | with_reducible refine' r_tRev ?_ | ((with_reducible refine' r_revL ?h ?_); (case h => walk_at "sq")) | with_reducible refine' r_par3 ?_ | with_reducible refine' r_par3K ?_
  | with_reducible refine' r_tM1 ?_ | with_reducible refine' r_strAnd ?_ | with_reducible refine' r_tOrT ?_
  | ((with_reducible refine' r_lenF ?h ?_); (case h => walk_at "at")) | ((with_reducible refine' r_isiF ?h ?_); (case h => walk_at "at"))
  | with_reducible refine' r_iEnumT ?_ | ((with_reducible refine' r_iEnumTR ?h ?_); (case h => walk_at "sq"))
  | walk_at "qu")
local macro_rules | `(tactic| walk_at "sg") => `(tactic| first
  | assumption | exact Same.refl _
  | (refine' Same.trans ?a ?b; (case b => assumption); walk_at "sg"))
local macro_rules | `(tactic| walk_at "kd") => `(tactic| first
  | exact kd_int _ | exact kd_bl _ | exact kd_str _ | exact kd_non | assumption
  | (refine' kd_tup ?h; (case h => walk_at "atg"))
  | (refine' kd_lst ?h; (case h => walk_at "atg"))
  | (refine' Kd.same ?h ?s; (case s => assumption); (case h => walk_at "kd")))
local macro_rules | `(tactic| walk_at "ty") => `(tactic| first
  | assumption | exact .base (.int _) | exact .base (.bl _) | exact .base (.str _) | exact .base .non
  | (refine' same_ty ?s ?h; (case s => assumption); (case h => walk_at "ty"))
  | (refine' same_ty ?s ?h; (case s => exact Wd.le (by assumption)); (case h => walk_at "ty")))
local macro_rules | `(tactic| walk_at "shp") => `(tactic| first | assumption | exact shaped_ints _ | exact shaped_nil | decide | (simp [SeqAt.shaped, PyData.canLay0, PyData.canLayAll0, PyData.depth, PyData.depthAll]; done))
local macro_rules | `(tactic| walk_at "shw") => `(tactic| first | assumption | decide | (simp; done))
local macro_rules | `(tactic| walk_at "qq") => `(tactic| repeat walk_at "q")
namespace Q
theorem cut63_len (xs : List V) : (cutV xs none (some 63)).length ≤ 63 := by
  unfold cutV
  rw [List.length_take]
  have : HT.sIx xs.length xs.length (some 63) ≤ 63 := by
    simp only [HT.sIx]
    first | omega | (split <;> omega) | (simp; omega)
  omega
abbrev nDraw : List Str := ["_law_pen_here", "_law_many", "_law_digit", "_law_at", "_law_cell", "_law_great", "_law_mixed"]
theorem scDraw : FnScope nDraw ["_law_pen_here", "_law_many"] (defScope sDraw) := ⟨rfl, rfl, rfl, by decide +kernel, rfl, by decide +kernel, by decide +kernel⟩
section
variable {P : Program} {w : World} {K : PySem.W.Frag} {mg : Str → Option Value} {base : Heap}
theorem ok_draw {f : Addr} {fd : FuncData} (F : FnP K "_law_draw" "_law_draw" sDraw [] f fd) (T : Bi mg) : FnOk P w K mg base CX0 2 f fd ["_law_pen_here", "_law_many"] spDraw := by
  refine fnP_ok F scDraw (fun vs H Q E h => ?_) (fun cdv A outer s H vs Q E hr h => ?_)
  · obtain ⟨G, p, c, n, many, rfl, _⟩ := h
    rfl
  · obtain ⟨G, p, c, n, many, rfl, sG, gp, hc, hp, hn, h0, hb, k⟩ := h
    have hu64 := hr.units
    refine ⟨_, (pss_cons (ps_if (pt_cmpR q_gt (pe_ix q_ix (pv 0) pe_int (fun _ _ => rfl)) pe_int (nomark _)) (pss_cons (ps_set (i := 2) scDraw.nd rfl (Or.inl rfl) (pe_op q_mod (pe_callTy q_int (by rfl) T.int (by decide +kernel) (pa_cons (pe_ix q_ix (pv 0) pe_int (fun _ _ => rfl)) pa_nil)) (pv 1)))
        (pss_cons (ps_asg (pe_op q_fdiv (pe_callTy q_int (by rfl) T.int (by decide +kernel) (pa_cons (pe_ix q_ix (pv 0) pe_int (fun _ _ => rfl)) pa_nil)) (pv 1)) (pg_sub (pv 0) pe_int set_list))
        (pss_one (ps_ret (pv 2))))) pss_nil)
        (pss_cons (ps_set (i := 3) scDraw.nd rfl (Or.inl rfl) (pe_ix q_ix (pv 0) pe_int (fun _ _ => rfl)))
        (pss_cons (ps_asg (pe_op q_add (pv 3) pe_int) (pg_sub (pv 0) pe_int set_list))
        (pss_cons (ps_set (i := 4) scDraw.nd rfl (Or.inl rfl) (pe_op q_add (pe_op q_mul pe_int (pv 3)) pe_int))
        (Evl.pss_cut (ps_if (pt_cmpR (q_ne hu64) (pe_ix q_ix (pv 0) pe_int (fun _ _ => rfl)) (pe_lst pa_nil) (nomark _)) (pss_one (ps_set (i := 4) scDraw.nd rfl (Or.inl rfl) (pe_ix q_ix (pe_ix q_ix (pv 0) pe_int (fun _ _ => rfl)) (pe_op q_mod (pe_callTy q_int (by rfl) T.int (by decide +kernel) (pa_cons (pv 3) pa_nil)) (pe_callB q_len (by rfl) T.len (by decide +kernel) (pa_cons (pe_ix q_ix (pv 0) pe_int (fun _ _ => rfl)) pa_nil))) (fun _ _ => rfl)))) pss_nil)
        (Evl.pss_cut (ps_if (PW.pt (pw_and (pt_cmpR q_lt (pv 3) (pe_callB q_len (by rfl) T.len (by decide +kernel) (pa_cons (pe_ix q_ix (pv 0) pe_int (fun _ _ => rfl)) pa_nil)) (nomark _)) (pw_and1 (pt_cmpR q_ge (pe_callB q_abs (by rfl) T.abs (by decide +kernel) (pa_cons (pv 4) pa_nil)) (pe_op q_pow pe_int pe_int) (nomark _))))) (pss_cons (ps_set (i := 5) scDraw.nd rfl (Or.inl rfl) (pe_op q_add (pe_op q_mul pe_int (pe_op q_sub (pe_callB q_abs (by rfl) T.abs (by decide +kernel) (pa_cons (pv 4) pa_nil)) (pe_op q_pow pe_int pe_int))) (pe_callTy q_int (by rfl) T.int (by decide +kernel) (pa_cons (pe_cmpR q_lt (pv 4) pe_int (nomark _)) pa_nil))))
        (pss_cons (ps_asg (pe_op q_fdiv (pe_callTy q_int (by rfl) T.int (by decide +kernel) (pa_cons (pv 5) pa_nil)) (pv 1)) (pg_sub (pv 0) pe_int set_list))
        (pss_one (ps_ret (pe_op q_mod (pe_callTy q_int (by rfl) T.int (by decide +kernel) (pa_cons (pv 5) pa_nil)) (pv 1)))))) pss_nil)
        (pss_cons (ps_set (i := 6) scDraw.nd rfl (Or.inl rfl) (pe_op q_mod (pe_callTy q_int (by rfl) T.int (by decide +kernel) (pa_cons (pe_op q_pow (pe_op q_add (pe_op q_add (pe_op q_mod (pe_callTy q_int (by rfl) T.int (by decide +kernel) (pa_cons (pv 4) pa_nil)) pe_int) (pe_op q_mul pe_int (pv 3))) pe_int) pe_int) pa_nil)) pe_int))
        (pss_cons (ps_set (i := 6) scDraw.nd rfl (Or.inl rfl) (pe_op q_mod (pe_callTy q_int (by rfl) T.int (by decide +kernel) (pa_cons (pe_op q_pow (pe_op q_add (pe_op q_add (pe_op q_mul (pv 6) (pe_op q_add (pe_op q_mul pe_int (pv 3)) pe_int)) (pe_op q_mul (pe_op q_mul pe_int (pv 3)) (pv 3))) pe_int) pe_int) pa_nil)) pe_int))
        (pss_one (ps_ret (pe_op q_mod (pe_callTy q_int (by rfl) T.int (by decide +kernel) (pa_cons (pe_op q_fdiv (pv 6) pe_int) pa_nil)) (pv 1)))))))))))), ?_⟩
    have hdw : ∀ x : Int, CDivW x many := fun x => wide_div (b := 300) h0 (by omega) (by decide) (by decide)
    have hm2 : ∀ x : Int, 0 ≤ x % many ∧ x % many < many := fun x => ⟨Int.emod_nonneg _ (by omega), Int.emod_lt_of_pos _ h0⟩
    obtain ⟨at_, g, h1, ha, hg⟩ := hp
    obtain ⟨ns, h2, hl⟩ := hc
    have w0 : Wd ⟨H, G, [p], []⟩ G H [p] := wd_start sG (fun a h => by rw [List.mem_singleton.mp h]; exact ⟨gp, _, h1, rfl⟩) (by simp)
    have fin : ∀ (x g' : Int) (m : Nat) (G' H' : Hp) (M : List Addr), Wd ⟨H, G, [p], []⟩ G' H' M → H' p = some (.lst [.ref c, .int m, .int g']) → m ≤ n + 1 → 0 ≤ g' → Q (.int (x % many)) H' := fun x g' m G' H' M w' e1 e2 e3 =>
      retP_of k w' ⟨m, g', e1, e2, e3⟩ ⟨_, rfl, hm2 x⟩
    have hat : (at_ : Int) ≤ 1048576 := by omega
    walk_at "qq"
    refine ite2 (fun hg0 => ?_) (fun hg0 => ?_)
    · walk_at "qq"
      exact fin _ _ at_ G _ [p] (by assumption) (by walk_at "at") (by omega) (Int.ediv_nonneg hg (by omega))
    walk_at "qq"
    refine ⟨fun σ' H' => ∃ (cell : Int) (G' : Hp), σ' = [some (.ref p), some (.int many), none, some (.int at_), some (.int cell), none, none] ∧
      Wd ⟨H, G, [p], []⟩ G' H' [p] ∧ Same G G' ∧ H' p = some (.lst [.ref c, .int (at_ + 1), .int g]), ?_, ?_⟩
    · walk_at "qq"
      rw [eqv_nil]
      cases ns with
      | nil =>
        refine iteF ?_
        walk_at "qq"
        exact ⟨_, _, rfl, by assumption, by assumption, by walk_at "at"⟩
      | cons n0 nr =>
        obtain ⟨z, hz⟩ := at_mod_ints (ns := n0 :: nr) at_ (by simp)
        have hpos : (0 : Int) < ((List.map V.int (n0 :: nr)).length : Int) := by simp
        refine iteT ?_
        walk_at "qq"
        exact ⟨_, _, rfl, by assumption, by assumption, by walk_at "at"⟩
    · rintro σ' H' ⟨cell, G1, rfl, w1, s1, h1⟩
      walk_at "qq"
      refine ⟨fun σ' H2 => σ' = [some (.ref p), some (.int many), none, some (.int at_), some (.int cell), none, none] ∧ H2 = H', ?_, ?_⟩
      · walk_at "qq"
        refine ite2 (fun h3 => ?_) (fun _ => ?_)
        · walk_at "qq"
          refine ite2 (fun h4 => ?_) (fun _ => ?_)
          · walk_at "qq"
            have h5 := of_decide_eq_true h4
            refine fin _ _ (at_ + 1) G1 _ [p] (by assumption) (by walk_at "at") (by omega) (Int.ediv_nonneg ?_ (by omega))
            have e : (10 : Int) ^ Int.toNat 18 = 1000000000000000000 := by decide
            rw [e] at h5 ⊢
            have e2 : (0 : Int) ≤ if decide (cell < 0) = true then 1 else 0 := by split <;> decide
            omega
          · walk_at "qq"
            exact ⟨rfl, rfl⟩
        · walk_at "qq"
          exact ⟨rfl, rfl⟩
      · rintro σ' H2 ⟨rfl, rfl⟩
        walk_at "qq"
        refine r_pow ⟨by decide, by decide, pow_small (by omega) (by omega) (by omega) (by omega) (by decide) (by decide) (by omega) (by omega) (by decide) (by decide)⟩ ?_
        walk_at "qq"
        exact fin _ _ (at_ + 1) G1 _ [p] w1 h1 (by omega) hg
end
section
variable {P : Program} {w : World} {K : PySem.W.Frag} {mg : Str → Option Value} {base : Heap}
abbrev nPen : List Str := ["_law_script"]
theorem scPen : FnScope nPen ["_law_script"] (defScope sPen) := ⟨rfl, rfl, rfl, by decide +kernel, rfl, by decide +kernel, by decide +kernel⟩
theorem ok_pen {f : Addr} {fd : FuncData} (F : FnP K "_law_pen" "_law_pen" sPen [] f fd) (T : Bi mg) : FnOk P w K mg base CX0 1 f fd ["_law_script"] (spPen K) := by
  refine fnP_ok F scPen (fun vs H Q E h => ?_) (fun cdv A outer s H vs Q E hr h => ?_)
  · obtain ⟨G, a, ns, rfl, _⟩ := h
    rfl
  · obtain ⟨G, a, ns, rfl, sG, ha, hl, k⟩ := h
    have hu64 := hr.units
    refine ⟨_, (pss_one (ps_ret (pe_lstM (pa_cons (pe_callTy q_list (by rfl) T.list (by decide +kernel) (pa_cons (pe_slice sl_list (pv 0) po_none (po_some pe_int)) pa_nil)) (pa_cons pe_int (pa_cons pe_int pa_nil)))))), ?_⟩
    have w0 := wd_pure sG
    obtain ⟨ms, hms⟩ := cutV_ints ns none (some 63)
    have hml : ms.length ≤ 63 := by
      have e := congrArg List.length hms
      rw [List.length_map] at e
      rw [← e]
      exact cut63_len _
    walk_at "qq"
    rename_i p3 H3 n3 w3 h3 s3 d3
    have mu := w3.mu p3 List.mem_cons_self
    refine k p3 _ _ H3 (fun a o h => w3.kp a o (by simp) h) w3.gh w3.gr w3.fr mu.1 ?_ ⟨ms, ?_, hml⟩ ⟨0, 0, h3, Nat.le_refl _, Int.le_refl _⟩
    · rcases mu.2.2 with h | h
      · exact h
      · simp at h
    · rw [← hms]
      walk_at "at"
abbrev nPick : List Str := ["_law_pen_here", "_law_some"]
theorem scPick : FnScope nPick ["_law_pen_here", "_law_some"] (defScope sPick) := ⟨rfl, rfl, rfl, by decide +kernel, rfl, by decide +kernel, by decide +kernel⟩
theorem ok_pick {f : Addr} {fd : FuncData} (F : FnP K "_law_pick" "_law_pick" sPick [] f fd) (T : Bi mg) (Dd : Df P w K mg base CX0 2 "_law_draw" [] spDraw) : FnOk P w K mg base CX0 3 f fd ["_law_pen_here", "_law_some"] (spPick K) := by
  refine fnP_ok F scPick (fun vs H Q E h => ?_) (fun cdv A outer s H vs Q E hr h => ?_)
  · obtain ⟨G, p, c, n, z, xs, rfl, _⟩ := h
    rfl
  · obtain ⟨G, p, c, n, z, xs, rfl, sG, gp, hc, hp, hn, hs, h0, hb, k⟩ := h
    have hu64 := hr.units
    refine ⟨_, (pss_one (ps_ret (pe_ix q_ix (pv 1) (pe_callD Dd hr pass0 (pa_cons (pv 0) (pa_cons (pe_callB q_len (by rfl) T.len (by decide +kernel) (pa_cons (pv 1) pa_nil)) pa_nil))) (fun _ _ => rfl)))), ?_⟩
    have w0 : Wd ⟨H, G, [p], []⟩ G H [p] := by
      obtain ⟨a, g, h1, _⟩ := hp
      exact wd_start sG (fun a h => by rw [List.mem_singleton.mp h]; exact ⟨gp, _, h1, rfl⟩) (by simp)
    have hlen : 0 < xs.length := by cases xs with
      | nil => exact absurd rfl h0
      | cons _ _ => simp
    rcases hs with ⟨l, rfl, hl⟩ | ⟨z, rfl, hz, rfl⟩
    · rcases hl with hl | hl
      · walk_at "qq"
        refine u_draw w0 (by simp) hc hp hn (by omega) (by omega) fun d G' H' w' s' b' P' d0 d1 => ?_
        obtain ⟨j, rfl⟩ := Int.eq_ofNat_of_zero_le d0
        have hj : j < xs.length := by omega
        have hx := List.getElem?_eq_getElem hj
        have hat := atI_nat hx
        walk_at "qq"
        exact retP_of k w' P' (List.getElem_mem hj)
      · walk_at "qq"
        refine u_draw w0 (by simp) hc hp hn (by omega) (by omega) fun d G' H' w' s' b' P' d0 d1 => ?_
        obtain ⟨j, rfl⟩ := Int.eq_ofNat_of_zero_le d0
        have hj : j < xs.length := by omega
        have hx := List.getElem?_eq_getElem hj
        have hat := atI_nat hx
        walk_at "qq"
        exact retP_of k w' P' (List.getElem_mem hj)
    · have hzl : z.cps.toList.length = z.length := by simp [Str.length]
      rw [List.length_map, hzl] at hlen
      walk_at "qq"
      refine u_draw w0 (by simp) hc hp hn (by omega) (by omega) fun d G' H' w' s' b' P' d0 d1 => ?_
      obtain ⟨j, rfl⟩ := Int.eq_ofNat_of_zero_le d0
      have hj : j < z.cps.toList.length := by omega
      have hx := List.getElem?_eq_getElem hj
      have hat := atI_nat hx
      walk_at "qq"
      exact retP_of k w' P' (List.mem_map.mpr ⟨_, List.getElem_mem hj, rfl⟩)
end
section
variable {P : Program} {w : World} {K : PySem.W.Frag} {mg : Str → Option Value} {base : Heap}
abbrev nIsInt : List Str := ["thing"]
theorem scIsInt : FnScope nIsInt ["thing"] (defScope sIsInt) := ⟨rfl, rfl, rfl, by decide +kernel, rfl, by decide +kernel, by decide +kernel⟩
theorem ok_isInt {f : Addr} {fd : FuncData} (F : FnP K "is_integer" "is_integer" sIsInt [] f fd) (T : Bi mg) : FnOk P w K mg base CX0 1 f fd ["thing"] (spIsInt K) := by
  refine fnP_ok F scIsInt (fun vs H Q E h => ?_) (fun cdv A outer s H vs Q E hr h => ?_)
  · obtain ⟨G, x, t, rfl, _⟩ := h
    rfl
  · obtain ⟨G, x, t, rfl, sG, hx, k⟩ := h
    have hu64 := hr.units
    refine ⟨_, (pss_one (ps_ret (pe_and (pe_callB call_isi (by rfl) T.isinstance (by decide +kernel) (pa_cons (pv 0) (pa_cons (pe_bltn (v := .ty "int") (by rfl) T.int (by decide +kernel) rfl) pa_nil))) (pe_one (pe_not (pe_callB call_isi (by rfl) T.isinstance (by decide +kernel) (pa_cons (pv 0) (pa_cons (pe_bltn (v := .ty "bool") (by rfl) T.bool (by decide +kernel) rfl) pa_nil)))))))), ?_⟩
    have w0 := wd_pure sG
    have h1 := same_ty sG.1 hx.ty
    have h2 := hx.int
    have h3 := hx.bool
    walk_at "qq"
    cases x <;> first
      | (refine iteF ?_; exact ret_of k w0 rfl)
      | (refine iteT ?_; walk_at "qq"; exact ret_of k (by assumption) rfl)
abbrev nMoment : List Str := ["thing", "least"]
theorem scMoment : FnScope nMoment ["thing", "least"] (defScope sMoment) := ⟨rfl, rfl, rfl, by decide +kernel, rfl, by decide +kernel, by decide +kernel⟩
theorem ok_moment {f : Addr} {fd : FuncData} (F : FnP K "is_moment" "is_moment" sMoment [.int 0] f fd) (T : Bi mg) (C : Nm K mg) (D1 : Df P w K mg base CX0 1 "is_integer" [] (spIsInt K)) : FnOk P w K mg base CX0 2 f fd ["thing", "least"] (spMoment K) := by
  refine fnP_ok F scMoment (fun vs H Q E h => ?_) (fun cdv A outer s H vs Q E hr h => ?_)
  · obtain ⟨G, x, t, l, rfl, _⟩ := h
    rfl
  · obtain ⟨G, x, t, l, rfl, sG, hx, k⟩ := h
    have hu64 := hr.units
    refine ⟨_, (pss_one (ps_ret (pe_and (pe_callD D1 hr pass0 (pa_cons (pv 0) pa_nil)) (pe_one (pe_chain q_le q_le (pv 1) (pv 0) (pe_gc C.MOST_MOMENT)))))), ?_⟩
    have w0 := wd_pure sG
    walk_at "qq"
    cases x <;> first
      | (refine iteF ?_; exact ret_of k (by assumption) rfl)
      | skip
    refine iteT ?_
    walk_at "qq"
    refine ite2 (fun c1 => ?_) (fun c1 => ?_)
    · walk_at "qq"
      refine ret_of k (by assumption) ?_
      show V.bl _ = V.bl (_ && _)
      rw [c1] <;> rfl
    · refine ret_of k (by assumption) ?_
      show V.bl _ = V.bl (_ && _)
      rw [Bool.eq_false_iff.mpr c1] <;> rfl
abbrev nIsName : List Str := ["thing", "sign"]
theorem scIsName : FnScope nIsName ["thing"] (defScope sIsName) := ⟨rfl, rfl, rfl, by decide +kernel, rfl, by decide +kernel, by decide +kernel⟩
theorem ok_isName {f : Addr} {fd : FuncData} (F : FnP K "is_name" "is_name" sIsName [] f fd) (T : Bi mg) (C : Nm K mg) : FnOk P w K mg base CX0 1 f fd ["thing"] (spIsName K) := by
  refine fnP_ok F scIsName (fun vs H Q E h => ?_) (fun cdv A outer s H vs Q E hr h => ?_)
  · obtain ⟨G, x, t, rfl, _⟩ := h
    rfl
  · obtain ⟨G, x, t, rfl, sG, hx, hz, k⟩ := h
    have hu64 := hr.units
    obtain ⟨ar, hres, hresT⟩ := C.RESERVED
    refine ⟨_, (Evl.pss_cut (ps_if (PW.pt (pw_or (pt_not (pt_val (pe_callB call_isi (by rfl) T.isinstance (by decide +kernel) (pa_cons (pv 0) (pa_cons (pe_bltn (v := .ty "str") (by rfl) T.str (by decide +kernel) rfl) pa_nil))))) (pw_or (pt_not (pt_chain q_le q_le pe_int (pe_callB q_len (by rfl) T.len (by decide +kernel) (pa_cons (pv 0) pa_nil)) (pe_gc C.MOST_SIGNS))) (pw_or1 (pt_cmpR op_in_seq (pv 0) (pe_gc hres) (by rfl)))))) (pss_one (ps_ret pe_bl)) pss_nil)
        (pss_one (ps_ret (pe_and (pe_cmpR q_inSign (pe_ix q_ix (pv 0) pe_int (fun _ _ => rfl)) (pe_gc C.LETTERS) (by rfl)) (pe_one (pe_callB (cr_all rfl) (by rfl) T.all (by decide +kernel) (pa_cons (pe_lc (own := [("sign", 1)]) (g := gName 1) (tt := tYes) rfl scIsName.nd (pi_str (pv 0)) (blkOk_by (own := [("sign", 1)]) (N := nIsName) (sc := defScope sIsName) (by decide +kernel)) (fun _ _ _ _ _ => (pg_name (i := 1) scIsName.nd rfl (by first | exact Or.inl rfl | exact Or.inr rfl))) (fun _ _ _ _ _ => pts_nil) (fun _ _ _ _ _ => (pe_or (pe_cmpR q_inSign (pv 1) (pe_gc C.LETTERS) (by rfl)) (pe_one (pe_cmpR q_inSign (pv 1) (pe_gc C.FIGURES) (by rfl)))))) pa_nil))))))), ?_⟩
    have w0 := wd_pure sG
    have h1 := same_ty sG.1 hx.ty
    have h2 := hx.str
    walk_at "qq"
    have no : nameV x = false → ∀ (G' H' : Hp), Wd ⟨H, G, [], []⟩ G' H' [] → Q (.bl false) H' := fun e G' H' w' => ret_of k w' (by rw [e])
    refine ⟨fun σ' H' => ∃ (z : Str) (c : Nat) (r : List Nat), x = .str z ∧ σ' = [some x, none] ∧ H' = H ∧ z.length ≤ 8 ∧ z.cps.toList = c :: r ∧ nameV x = (letB c && z.cps.toList.all fun c => letB c || figB c), ?_, ?_⟩
    · walk_at "qq"
      cases x with
      | str z =>
        refine iteF ?_
        have hz1 : z.length ≤ 1000000 := hz z rfl
        walk_at "qq"
        have hv : nameV (.str z) = nmOk z := rfl
        have hr1 := hresT H
        refine ite_d (fun c1 => ?_) (fun c1 => ?_)
        · walk_at "qq"
          refine ite_nd (fun c2 => ?_) (fun c2 => ?_)
          · walk_at "qq"
            exact no (by rw [hv]; unfold nmOk; rw [decide_eq_false (by omega : ¬ z.length ≤ 8)]; simp) _ _ w0
          · walk_at "qq"
            refine ite_b (fun c3 => ?_) (fun c3 => ?_)
            · walk_at "qq"
              exact no (by rw [hv]; unfold nmOk; rw [c3]; simp) _ _ w0
            · walk_at "qq"
              cases hc : z.cps.toList with
              | nil =>
                have e : z.length = 0 := by
                  have := congrArg List.length hc
                  simpa [Str.length] using this
                omega
              | cons a r =>
                refine ⟨z, a, r, rfl, rfl, rfl, by omega, hc, ?_⟩
                rw [hv]
                unfold nmOk
                rw [c3, decide_eq_true (by omega : 1 ≤ z.length), decide_eq_true (by omega : z.length ≤ 8), hc]
                rfl
        · walk_at "qq"
          exact no (by rw [hv]; unfold nmOk; rw [decide_eq_false (by omega : ¬ 1 ≤ z.length)]; simp) _ _ w0
      | _ =>
        refine iteT ?_
        walk_at "qq"
        exact no rfl _ _ w0
    · rintro σ' H' ⟨z, c, r, rfl, rfl, rfl, hz8, hc, hv⟩
      have hz1 : z.length ≤ 1000000 := by omega
      have h0 : atI z.cps.toList 0 = some c := by rw [hc]; exact atI_0 c r
      have hv : nameV (.str z) = (letB c && z.cps.toList.all fun c => letB c || figB c) := hv
      walk_at "qq"
      refine ite_d (fun c1 => ?_) (fun c1 => ?_)
      · have e1 : letB c = true := decide_eq_true c1
        walk_at "qq"
        refine lc_go w0 walk_str (fun i acc _ _ => acc = ((z.cps.toList.take i).map fun c => letB c || figB c).map V.bl) (fun _ _ _ _ _ => rfl) (fun _ _ _ _ _ _ _ => trivial) ?_ ?_
        · rintro Dd i acc Gi H2 x H3 hi hl w2 s2 hD nm rfl ⟨rfl, c', hc', rfl⟩
          have hi' : i ≤ 1000000 := by have e : z.cps.size = z.length := rfl; omega
          have hc2 : z.cps.toList[i]? = some c' := by simpa using hc'
          have fin : ∀ b : Bool, b = (letB c' || figB c') → ((z.cps.toList.take i).map fun c => letB c || figB c).map V.bl ++ [V.bl b] = ((z.cps.toList.take (i + 1)).map fun c => letB c || figB c).map V.bl := fun b e => by
            rw [take_map_snoc _ hc2, List.map_append, e]
            rfl
          walk_at "qq"
          refine ite_d (fun c2 => ?_) (fun c2 => ?_)
          · walk_at "qq"
            exact fin true (by have e2 : letB c' = true := decide_eq_true c2; rw [e2] <;> rfl)
          · walk_at "qq"
            exact fin _ (by have e2 : letB c' = false := decide_eq_false c2; rw [e2] <;> rfl)
        · rintro p acc Gi Gp H2 hl w2 s2 s3 hp rfl
          walk_at "qq"
          refine ret_of k w2 ?_
          rw [hv, e1, List.take_of_length_le (by simp)]
          simp [List.all_map, Function.comp_def]
      · exact ret_of k w0 (by rw [hv]; have e1 : letB c = false := decide_eq_false c1; rw [e1] <;> rfl)
end
theorem ok_errB {P : Program} {w : World} {K : PySem.W.Frag} {mg : Str → Option Value} {base : Heap} {Cb : Addr} {f : Addr} {fd : FuncData} (F : FnP K "__init__" "BadEntry.__init__" sErrB [] f fd) (T : OexC K Cb) (no : PySem.W.findIn K (.ref Cb) "at" = some none) : FnOk P w K mg base CX0 1 f fd ["self", "at"] (spErr1 Cb "at") :=
  ok_err1 F ⟨rfl, rfl, rfl, by decide +kernel, rfl, by decide +kernel, by decide +kernel⟩ T no fun X hN hs => pss_one (ps_ost (pe_var (i := 0) (by rw [hN] <;> rfl) (by rw [hs]; exact .inl rfl)) (pe_var (i := 1) (by rw [hN] <;> rfl) (by rw [hs]; exact .inl rfl)))
section
variable {P : Program} {w : World} {K : PySem.W.Frag} {mg : Str → Option Value} {base : Heap} {C Ct : Addr}
abbrev nEnInit : List Str := ["self", "tool", "moment", "by"]
theorem scEnInit : FnScope nEnInit ["self", "tool", "moment", "by"] (defScope sEnInit) := ⟨rfl, rfl, rfl, by decide +kernel, rfl, by decide +kernel, by decide +kernel⟩
theorem ok_enInit {f : Addr} {fd : FuncData} (F : FnP K "__init__" "Entry.__init__" sEnInit [] f fd) (T : Bi mg) (S : EnC K C) (Dn : Df P w K mg base CX0 1 "is_name" [] (spIsName K)) (Dm : Df P w K mg base CX0 2 "is_moment" [.int 0] (spMoment K)) :
    FnOk P w K mg base CX0 3 f fd ["self", "tool", "moment", "by"] (spEntInit C) := by
  refine fnP_ok F scEnInit (fun vs H Q E h => ?_) (fun cdv A outer s H vs Q E hr h => ?_)
  · obtain ⟨G, x, dx, t, i, b, rfl, _⟩ := h
    rfl
  · obtain ⟨G, x, dx, t, i, b, rfl, sG, gx, hx, hright, k⟩ := h
    have hu64 := hr.units
    have cc := S.c
    have n1 := S.n1
    have n2 := S.n2
    have n3 := S.n3
    have n4 := S.n4
    refine ⟨_, (pss_cons (ps_if (pt_not (pt_val (pe_callD Dn hr pass0 (pa_cons (pv 1) pa_nil)))) (pss_one ps_never) pss_nil)
        (pss_cons (ps_if (pt_not (pt_val (pe_callD Dm hr pass0 (pa_cons (pv 2) pa_nil)))) (pss_one ps_never) pss_nil)
        (pss_cons (ps_if (pt_not (pt_val (pe_callD Dn hr pass0 (pa_cons (pv 3) pa_nil)))) (pss_one ps_never) pss_nil)
        (pss_cons (ps_fld (pv 0) (pv 1) rfl)
        (pss_cons (ps_fld (pv 0) (pv 2) rfl)
        (pss_cons (ps_fld (pv 0) (pv 3) rfl)
        (pss_one (ps_fld (pv 0) (pe_tup (pa_cons (pv 1) (pa_cons (pv 2) (pa_cons (pv 3) pa_nil)))) rfl)))))))), ?_⟩
    have w0 : Wd ⟨H, G, [x], []⟩ G H [x] := wd_start sG (fun a h => by rw [List.mem_singleton.mp h]; exact ⟨gx, _, hx, rfl⟩) (by simp)
    have hz1 : ∀ y, V.str t = .str y → y.length ≤ 1000000 := fun y e => by cases e; have := nmOk_len hright.1; omega
    have hz2 : ∀ y, V.str b = .str y → y.length ≤ 1000000 := fun y e => by cases e; have := nmOk_len hright.2.1; omega
    have e1 : nameV (.str t) = true := hright.1
    have e2 : nameV (.str b) = true := hright.2.1
    walk_at "qq"
    rw [e1]
    walk_at "qq"
    rw [hright.mom]
    walk_at "qq"
    rw [e2]
    walk_at "qq"
    rename_i H5 w5 h5 b5
    refine k _ H5 _ (fun a o hn h => w5.kp a o (by simpa using hn) h) w5.gh w5.gr w5.fr ?_ h5
    walk_at "atg"
abbrev nEnEq : List Str := ["self", "other"]
theorem scEnEq : FnScope nEnEq ["self", "other"] (defScope sEnEq) := ⟨rfl, rfl, rfl, by decide +kernel, rfl, by decide +kernel, by decide +kernel⟩
theorem ok_enEq {f : Addr} {fd : FuncData} (F : FnP K "__eq__" "Entry.__eq__" sEnEq [] f fd) (T : Bi mg) (S : EnC K C) (hEnt : Gc mg "Entry" (.ref C)) : FnOk P w K mg base CX0 1 f fd ["self", "other"] (spEntEq C) := by
  refine fnP_ok F scEnEq (fun vs H Q E h => ?_) (fun cdv A outer s H vs Q E hr h => ?_)
  · obtain ⟨G, a, c, t, i, b, rfl, _⟩ := h
    rfl
  · obtain ⟨G, a, c, t, i, b, rfl, sG, h1, h2, k⟩ := h
    have hu64 := hr.units
    have cc := S.c
    have n4 := S.n4
    have ht1 := same_ty sG.1 (S.ty h2)
    have hk := S.me
    obtain ⟨hr1, dx, fc, ha, hf⟩ := h1
    obtain ⟨hr2, dx', fc', hc, hf'⟩ := h2
    refine ⟨_, (pss_one (ps_ret (pe_and (pe_callB call_isi (by rfl) T.isinstance (by decide +kernel) (pa_cons (pv 1) (pa_cons (pe_gc hEnt) pa_nil))) (pe_one (pe_cmpR (q_eq hu64) (pe_fld (pv 0) rfl) (pe_fld (pv 1) rfl) (nomark _)))))), ?_⟩
    have w0 := wd_pure sG
    have d1 : Dp K H (.ref fc) (faceE t i b) := by unfold faceE; walk_at "dp"
    have d2 : Dp K H (.ref fc') (faceE t i b) := by unfold faceE; walk_at "dp"
    walk_at "qq"
    exact r_eqD d1 d2 (shaped_faceE hr1) (shaped_faceE hr2) (ret_of k w0 (by rw [eq_faceE]))
abbrev nEnStr : List Str := ["self"]
theorem scEnStr : FnScope nEnStr ["self"] (defScope sEnStr) := ⟨rfl, rfl, rfl, by decide +kernel, rfl, by decide +kernel, by decide +kernel⟩
theorem ok_enStr {f : Addr} {fd : FuncData} (F : FnP K "__str__" "Entry.__str__" sEnStr [] f fd) (S : EnC K C) : FnOk P w K mg base CX0 1 f fd ["self"] (spEntStr C) := by
  refine fnP_ok F scEnStr (fun vs H Q E h => ?_) (fun cdv A outer s H vs Q E hr h => ?_)
  · obtain ⟨G, a, t, i, b, rfl, _⟩ := h
    rfl
  · obtain ⟨G, a, t, i, b, rfl, sG, ⟨hr1, dx, fc, ha, hf⟩, k⟩ := h
    have hu64 := hr.units
    have cc := S.c
    have n1 := S.n1
    have n2 := S.n2
    have n3 := S.n3
    refine ⟨_, (pss_one (ps_ret (pe_joined (PJ.cons pe_str (PJ.cons (pe_fmt (pe_fld (pv 0) rfl)) (PJ.cons pe_str (PJ.cons (pe_fmt (pe_fld (pv 0) rfl)) (PJ.cons pe_str (PJ.cons (pe_fmt (pe_fld (pv 0) rfl)) PJ.nil))))))))), ?_⟩
    have w0 := wd_pure sG
    have l0 := nmOk_len hr1.1
    have l1 := nmOk_len hr1.2.1
    have l2 := lenZ hr1.2.2.1 hr1.2.2.2
    have l3 := logZ hr1.2.2.1 hr1.2.2.2
    have e0 : Str.empty.length = 0 := rfl
    have e1 : (Str.ofString " ").length = 1 := rfl
    have e2 : (Str.ofString "check ").length = 6 := rfl
    have e3 : (Str.ofString " by ").length = 4 := rfl
    walk_at "qq"
    exact ret_of k w0 rfl
end
open PySem PySem.Spec PyProof.Rows L2 Q
section
variable {P : Program} {w : World} {K : PySem.W.Frag} {mg : Str → Option Value} {base : Heap} {C Ce Cb : Addr}
abbrev nPlInit : List Str := ["self", "entry", "passed", "failed", "branch", "one"]
theorem scPlInit : FnScope nPlInit ["self", "entry", "passed", "failed"] (defScope sPlInit) := ⟨rfl, rfl, rfl, by decide +kernel, rfl, by decide +kernel, by decide +kernel⟩
abbrev fs3 (v1 v2 v3 : V) : List (Str × V) := [("entry", v1), ("own_passed", v2), ("own_failed", v3)]
abbrev fs4 (v1 v2 v3 : V) (b : Addr) : List (Str × V) := [("entry", v1), ("own_passed", v2), ("own_failed", v3), ("below", .ref b)]
theorem ok_plInitX {f : Addr} {fd : FuncData} (F : FnP K "__init__" "Plan.__init__" sPlInit [] f fd) (S : PlC K C) : FnOk P w K mg base CX0 1 f fd ["self", "entry", "passed", "failed"] (spPlInitX C Ce) := by
  refine fnP_ok F scPlInit (fun vs H Q E h => ?_) (fun cdv A outer s H vs Q E hr h => ?_)
  · obtain ⟨G, x, dx, v1, v2, v3, p, f, rfl, _⟩ := h
    rfl
  · obtain ⟨G, x, dx, v1, v2, v3, p, ff, rfl, sG, gx, hx, h1, h2, h3, z1, z2, k⟩ := h
    have hu64 := hr.units
    have cc := S.c
    have n1 := S.n1
    have n2 := S.n2
    have n3 := S.n3
    have n4 := S.n4
    have n5 := S.n5
    refine ⟨_, (pss_cons (ps_fld (pv 0) (pv 1) rfl)
        (pss_cons (ps_fld (pv 0) (pv 2) rfl)
        (pss_cons (ps_fld (pv 0) (pv 3) rfl)
        (pss_cons (ps_fld (pv 0) (pe_lc (own := [("branch", 4)]) (g := gName 4) rfl scPlInit.nd (pi_tup (pe_tup (pa_cons (pv 2) (pa_cons (pv 3) pa_nil)))) (blkOk_by (own := [("branch", 4)]) (N := nPlInit) (sc := defScope sPlInit) (by decide +kernel)) (fun _ _ _ _ _ => (pg_name (i := 4) scPlInit.nd rfl (by first | exact Or.inl rfl | exact Or.inr rfl))) (fun _ _ _ _ _ => (pts_one (pt_cmpR q_notN (pv 4) pe_non (nomark _)))) (fun _ _ _ _ _ => (pv 4))) rfl)
        (pss_one (ps_fld (pv 0) (pe_op q_add (pe_lc (own := [("one", 5)]) (g := gName 5) rfl scPlInit.nd (pi_list (pe_lst (pa_cons (pv 1) pa_nil))) (blkOk_by (own := [("one", 5)]) (N := nPlInit) (sc := defScope sPlInit) (by decide +kernel)) (fun _ _ _ _ _ => (pg_name (i := 5) scPlInit.nd rfl (by first | exact Or.inl rfl | exact Or.inr rfl))) (fun _ _ _ _ _ => (pts_one (pt_cmpR q_notN (pv 5) pe_non (nomark _)))) (fun _ _ _ _ _ => (pv 5))) (pe_lc2 (own := [("branch", 4), ("one", 5)]) (vs1 := [5]) (g := gName 4) (g1 := gName 5) (tt := tYes) (tt1 := tYes) (wi1 := iList K (tFld K (tVar 4) "each")) rfl scPlInit.nd (pi_list (pe_fld (pv 0) rfl)) (blkOk_by (own := [("branch", 4), ("one", 5)]) (N := nPlInit) (sc := defScope sPlInit) (by decide +kernel)) (by decide) (fun _ _ _ _ _ => (pg_name (i := 4) scPlInit.nd rfl (by first | exact Or.inl rfl | exact Or.inr rfl))) (fun _ _ _ _ _ => pts_nil) (fun _ _ _ _ _ => (pi_listK (K := K) rfl (pe_fldK (K := K) rfl (pv 4) rfl))) (fun _ _ _ _ _ => (pg_name (i := 5) scPlInit.nd rfl (by first | exact Or.inl rfl | exact Or.inr rfl))) (fun _ _ _ _ _ => pts_nil) (fun _ _ _ _ _ => (pv 5)))) rfl)))))), ?_⟩
    have w0 : Wd ⟨H, G, [x], []⟩ G H [x] := wd_start sG (fun a h => by rw [List.mem_singleton.mp h]; exact ⟨gx, _, hx, rfl⟩) (by simp)
    walk_at "qq"
    rename_i H1 w1 hx1 b1 H2 w2 hx2 b2 H3 w3 hx3 b3 pt G4 H4 n4 w4 s4 h4 t4
    have hx4 := t4 _ _ hx3
    have ef : (putF (Str.ofString "own_failed") v3 (putF (Str.ofString "own_passed") v2 (putF (Str.ofString "entry") v1 []))) = fs3 v1 v2 v3 := rfl
    rw [ef] at hx4
    refine lc_go w4 (walk_tup (xs := [v2, v3])) (fun j acc _ Hy => acc = (([v2, v3].take j).filter fun v => !decide (v = .non)) ∧ Hy x = some (.ins C dx (fs3 v1 v2 v3))) (fun _ _ _ s' _ => ⟨rfl, s' _ _ hx4⟩) (fun _ _ Gi Hi wi si _ => wd_sqT wi (SqT.of (si _ _ h4))) ?_ ?_
    · rintro Dd j acc Gi H5 x5 H6 hj hl5 w5 s5 hD nm ⟨rfl, hx5⟩ ⟨rfl, hx⟩
      have nx : Dd ≠ x := nm x (by simp)
      have hj2 : j < 2 := hj
      by_cases c : x5 = .non
      · subst c
        walk_at "qq"
        refine ite_nd (fun q => absurd rfl q) (fun _ => ?_)
        refine ⟨_, Gi, w5, s5, hD, Nat.le_succ_of_le hl5, ?_, hx5⟩
        show _ = _
        rw [filt_no hx (by decide)]
      · walk_at "qq"
        refine ite_nd (fun _ => ?_) (fun q => absurd q c)
        walk_at "qq"
        rename_i H7 w7 b7
        refine ⟨?_, b7 _ _ nx.symm hx5⟩
        rw [filt_yes hx (by rw [decide_eq_false c]; rfl)]
    · rintro l5 acc Gi G5 H5 hl5 w5 s5 s5' h5 ⟨rfl, hx5⟩
      have pb := kids_at (h2.same (s4.trans s5)) (h3.same (s4.trans s5))
      have h5 : G5 l5 = some (.lst (kids v2 v3)) := h5
      generalize hbs : kids v2 v3 = bs at pb h5
      have szb := brs_sum p ff
      have nob := brs_no p ff
      have lenb : bs.length ≤ 2 := by
        rw [← hbs]
        exact Nat.le_trans (List.length_filter_le _ _) (by simp)
      generalize brs p ff = ts at pb szb nob
      clear hl5
      walk_at "qq"
      rename_i H6 w6 hx6 b6 l7 G7 H7 n7 w7 s7 h7 t7
      have e6 : (putF (Str.ofString "below") (.ref l5) (fs3 v1 v2 v3)) = fs4 v1 v2 v3 l5 := rfl
      rw [e6] at hx6
      have hx7 := t7 _ _ hx6
      have h57 := s7 _ _ h5
      refine lc_go w7 (walk_list (xs := [v1])) (fun j acc _ Hy => acc = (([v1].take j).filter fun v => !decide (v = .non)) ∧ Hy x = some (.ins C dx (fs4 v1 v2 v3 l5))) (fun _ _ _ s' _ => ⟨rfl, s' _ _ hx7⟩) (fun _ _ Gi Hi wi si _ => wd_sqL wi (SqL.of (si _ _ h7))) ?_ ?_
      · rintro Dd j acc Gi Ha xa Hb hj hla wa sa hD nm ⟨rfl, hxa⟩ ⟨rfl, hx⟩
        have nx : Dd ≠ x := nm x (by simp)
        have hj2 : j < 1 := hj
        by_cases c : xa = .non
        · subst c
          walk_at "qq"
          refine ite_nd (fun q => absurd rfl q) (fun _ => ?_)
          refine ⟨_, Gi, wa, sa, hD, Nat.le_succ_of_le hla, ?_, hxa⟩
          show _ = _
          rw [filt_no hx (by decide)]
        · walk_at "qq"
          refine ite_nd (fun _ => ?_) (fun q => absurd q c)
          walk_at "qq"
          rename_i Hc wc bc
          refine ⟨?_, bc _ _ nx.symm hxa⟩
          rw [filt_yes hx (by rw [decide_eq_false c]; rfl)]
      · rintro l8 acc Gi G8 H8 hl8 w8 s8 s8' h8 ⟨rfl, hx8⟩
        have l1 : (([v1].take ([v1] : List V).length).filter fun v => !decide (v = .non)).length ≤ 1 := hl8
        have hem1 : (([v1].take ([v1] : List V).length).filter fun v => !decide (v = .non)).length = (if v1 = .non then 0 else 1) := by
          show ([v1].filter _).length = _
          rw [List.filter_cons, List.filter_nil]
          by_cases c : v1 = .non
          · rw [if_pos c, decide_eq_true c] <;> rfl
          · rw [if_neg c, decide_eq_false c] <;> rfl
        generalize (([v1].take ([v1] : List V).length).filter fun v => !decide (v = .non)) = es1 at *
        have h58 := s8 _ _ h57
        have pb8 : Paired (fun v t => BrX C Ce G8 t v) bs ts := Paired.mapP pb fun _ _ b => b.same (s7.trans s8)
        walk_at "qq"
        have lts := Paired.length pb8
        have lsz : ∀ i, ((ts.map Tr.size).take i).sum ≤ 2000 := fun i => Nat.le_trans (sum_le _ i) (by omega)
        refine lc2_go w8 (walk_list (xs := bs)) (fun i acc _ Hy => acc.length = ((ts.map Tr.size).take i).sum ∧ Hy x = some (.ins C dx (fs4 v1 v2 v3 l5))) (fun _ _ _ s' _ => ⟨rfl, s' _ _ hx8⟩) (fun _ _ Gi Hi wi si _ => wd_sqL wi (SqL.of (si _ _ h58))) ?_ ?_
        · rintro Dd i acc Gi Ha xa Hb hi wa sa hDd nm ⟨la, hxa⟩ ⟨rfl, hx⟩
          have nx : Dd ≠ x := nm x (by simp)
          obtain ⟨t, ht⟩ : ∃ t, ts[i]? = some t := ⟨_, List.getElem?_eq_getElem (lts ▸ hi)⟩
          have bt := paired_get pb8 hx ht
          obtain ⟨ai, dxi, u1, u2, u3, bli, eli, esi, rfl, hai, heli, lesi⟩ := bt.ins (nob t (List.mem_of_getElem? ht))
          have hai1 := wa.le _ _ (sa _ _ hai)
          have heli1 := wa.le _ _ (sa _ _ heli)
          have est := sum_take (ts.map Tr.size) (i := i) (n := t.size) (by rw [List.getElem?_map, ht] <;> rfl)
          have lall := lsz (i + 1)
          show gName 4 (V.ref ai) _ _ _
          walk_at "qq"
          refine in_go (walk_list (xs := esi)) (fun j acc' _ Hy => acc'.length = ((ts.map Tr.size).take i).sum + j ∧ Hy x = some (.ins C dx (fs4 v1 v2 v3 l5))) ⟨_, _, wa, sa, hDd, la, hxa⟩ (fun j acc' Gy Hy wy sy _ => wd_sqL wy (SqL.of (sy _ _ heli))) ?_ ?_
          · rintro j acc' G3 H3 x'' H4 hj w3 s3 hD3 ⟨l3, hx3⟩ ⟨rfl, hx'⟩
            have lj : j < esi.length := hj
            have len3 : acc'.length < 1000000 := by omega
            walk_at "qq"
            rename_i H5 w5' b5'
            exact ⟨by rw [List.length_append]; show acc'.length + 1 = _; omega, b5' _ _ nx.symm hx3⟩
          · rintro H3 ⟨acc', G3, w3, s3, hD3, l3, hx3⟩
            exact ⟨_, G3, w3, s3, hD3, by rw [est]; omega, hx3⟩
        · rintro l9 acc Gi G9 H9 w9 s9 s9' h9 ⟨la, hx9⟩
          have lacc : acc.length = p.size + ff.size := by rw [la, ← szb, List.take_of_length_le (by rw [List.length_map, ← lts] <;> exact Nat.le_refl _)]
          have h89 := s9 _ _ h8
          walk_at "qq"
          rename_i lA GA HA nA wA sA hA tA HB wB hB bB
          have eB : (putF (Str.ofString "each") (.ref lA) (fs4 v1 v2 v3 l5)) = planF v1 v2 v3 l5 lA := rfl
          rw [eB] at hB
          refine k GA HB l5 lA (es1 ++ acc) (fun b o hn h => wB.kp b o (by simpa using hn) h) wB.gh wB.gr wB.fr ?_ hA ?_ hB
          · rw [hbs]
            exact sA _ _ (s9 _ _ h58)
          · rw [List.length_append, hem1, lacc]
abbrev nPlDone : List Str := []
theorem scPlDone : FnScope nPlDone [] (defScope sPlDone) := ⟨rfl, rfl, rfl, by decide +kernel, rfl, by decide +kernel, by decide +kernel⟩
theorem ok_plDoneX {f : Addr} {fd : FuncData} (F : FnP K "done" "Plan.done" sPlDone [] f fd) (DPl : MkD P w K mg base CX0 1 "Plan" C [] (spPlInitX C Ce)) : FnOk P w K mg base CX0 3 f fd [] (spDoneX C Ce) := by
  refine fnP_ok F scPlDone (fun vs H Q E h => ?_) (fun cdv A outer s H vs Q E hr h => ?_)
  · obtain ⟨G, rfl, _⟩ := h
    rfl
  · obtain ⟨G, rfl, sG, k⟩ := h
    refine ⟨_, (pss_one (ps_ret (pe_makeD DPl hr pass0 (pa_cons pe_non (pa_cons pe_non (pa_cons pe_non pa_nil)))))), ?_⟩
    have w0 := wd_pure sG
    walk_at "qq"
    refine u_plMakeX (p := .no) (f := .no) w0 (.inl rfl) rfl rfl (by decide) (by decide) fun a dx bl el es G1 H1 w1 s1 t1 ha hbl hel hle => ?_
    obtain rfl : es = [] := List.eq_nil_of_length_eq_zero hle
    exact ret_of k w1 ⟨a, dx, bl, el, rfl, ha, hbl, hel⟩
end
section
variable {P : Program} {w : World} {K : PySem.W.Frag} {mg : Str → Option Value} {base : Heap} {C Ce Cb : Addr}
abbrev nPlAsk : List Str := ["entry", "passed", "failed"]
theorem scPlAsk : FnScope nPlAsk ["entry", "passed", "failed"] (defScope sPlAsk) := ⟨rfl, rfl, rfl, by decide +kernel, rfl, by decide +kernel, by decide +kernel⟩
theorem ok_plAskX {f : Addr} {fd : FuncData} (F : FnP K "ask" "Plan.ask" sPlAsk [] f fd) (T : Bi mg) (S : PlC K C) (Se : EnC K Ce) (hPl : Gc mg "Plan" (.ref C)) (hEnt : Gc mg "Entry" (.ref Ce)) (DPl : MkD P w K mg base CX0 1 "Plan" C [] (spPlInitX C Ce)) (EB : ErD P w K mg base "BadEntry" Cb (spErr1 Cb "at")) :
    FnOk P w K mg base (L2.CX P w) 4 f fd ["entry", "passed", "failed"] (spAskX K C Ce Cb) := by
  refine fnP_okX F scPlAsk (fun vs H Q E h => ?_) (fun cdv A outer s H vs Q E hr h => ?_)
  · obtain ⟨G, v1, v2, v3, o1, o2, o3, rfl, _⟩ := h
    rfl
  · obtain ⟨G, v1, v2, v3, o1, o2, o3, rfl, sG, h1, h2, h3, bad, good⟩ := h
    have hu64 := hr.units
    refine ⟨_, (pss_cons (ps_if (pt_not (pt_val (pe_callB call_isi (by rfl) T.isinstance (by decide +kernel) (pa_cons (pv 0) (pa_cons (pe_gc hEnt) pa_nil))))) (pss_one (ps_raiseD rfl takesD EB hr (pa_cons pe_int pa_nil))) pss_nil)
        (pss_cons (ps_if (PW.pt (pw_and (pt_cmpR q_notN (pv 1) pe_non (nomark _)) (pw_and1 (pt_not (pt_val (pe_callB call_isi (by rfl) T.isinstance (by decide +kernel) (pa_cons (pv 1) (pa_cons (pe_gc hPl) pa_nil)))))))) (pss_one (ps_raiseD rfl takesD EB hr (pa_cons pe_int pa_nil))) pss_nil)
        (pss_cons (ps_if (PW.pt (pw_or (PW.pt (pw_and (pt_cmpR q_notN (pv 2) pe_non (nomark _)) (pw_and1 (pt_not (pt_val (pe_callB call_isi (by rfl) T.isinstance (by decide +kernel) (pa_cons (pv 2) (pa_cons (pe_gc hPl) pa_nil)))))))) (pw_or1 (PW.pt (pw_and (pt_cmpR q_isN (pv 1) pe_non (nomark _)) (pw_and1 (pt_cmpR q_isN (pv 2) pe_non (nomark _)))))))) (pss_one (ps_raiseD rfl takesD EB hr (pa_cons pe_int pa_nil))) pss_nil)
        (pss_one (ps_ret (pe_makeD DPl hr pass0 (pa_cons (pv 0) (pa_cons (pv 1) (pa_cons (pv 2) pa_nil))))))))), ?_⟩
    have w0 := wd_pure sG
    have kme := Se.me
    have kmp := S.me
    have tv : ∀ {t : Tr Ck} {v : V}, BrX C Ce G t v → t.isNo = false → TyX K H v (.ref C) := fun {t v} h n => by
      obtain ⟨a, dx, _, _, _, _, _, _, rfl, h, _⟩ := h.ins n
      exact same_ty sG.1 (S.ty h)
    cases o1 with
    | none =>
      obtain ⟨t1, ty1, k1⟩ := h1
      have ty1 := same_ty sG.1 ty1
      walk_at "qq"
      exact u_raise1 w0 fun d G' H' w' s' t' hd => retX_of (bad 0 rfl) w' hd
    | some c =>
      obtain ⟨a, rfl, he⟩ := h1
      have tye := same_ty sG.1 (Se.ty he)
      cases o2 with
      | none =>
        obtain ⟨ne2, t2, ty2, k2⟩ := h2
        have ty2 := same_ty sG.1 ty2
        walk_at "qq"
        refine ite_nd (fun _ => ?_) (fun h => absurd h ne2)
        walk_at "qq"
        exact u_raise1 w0 fun d G' H' w' s' t' hd => retX_of (bad 1 rfl) w' hd
      | some p =>
        obtain ⟨hp, zp⟩ := h2
        have e2 := hp.non
        have fin2 : ∀ (R : Prop), (∀ (n : p.isNo = true), v2 = .non → R) → (p.isNo = false → TyX K H v2 (.ref C) → v2 ≠ .non → R) → R := fun R h1 h2 => by
          cases hn : p.isNo with
          | true =>
            rw [hn] at e2
            exact h1 hn (of_decide_eq_true e2)
          | false =>
            rw [hn] at e2
            exact h2 hn (tv hp hn) (of_decide_eq_false e2)
        cases o3 with
        | none =>
          obtain ⟨ne3, t3, ty3, k3⟩ := h3
          have ty3 := same_ty sG.1 ty3
          refine fin2 _ (fun n ev => ?_) (fun n ty2 ne2 => ?_)
          · subst ev
            walk_at "qq"
            refine ite_nd (fun h => absurd rfl h) (fun _ => ?_)
            walk_at "qq"
            refine ite_nd (fun _ => ?_) (fun h => absurd h ne3)
            walk_at "qq"
            exact u_raise1 w0 fun d G' H' w' s' t' hd => retX_of (bad 2 rfl) w' hd
          · walk_at "qq"
            refine ite_nd (fun _ => ?_) (fun h => absurd h ne2)
            walk_at "qq"
            refine ite_nd (fun _ => ?_) (fun h => absurd h ne3)
            walk_at "qq"
            exact u_raise1 w0 fun d G' H' w' s' t' hd => retX_of (bad 2 rfl) w' hd
        | some ff =>
          obtain ⟨hf, zf⟩ := h3
          have e3 := hf.non
          have fin : (p.isNo && ff.isNo) = false → MakeGo C (spPlInitX C Ce) [.ref a, v2, v3] E0 H Q := fun hn =>
            u_plMakeX w0 (.inr ⟨a, _, _, _, rfl, he⟩) hp hf zp zf fun a1 dx bl el es G1 H1 w1 s1 t1 ha hbl hel hle => ret_of (good c p ff rfl rfl rfl hn) w1 ⟨⟨a1, dx, bl, el, a, v2, v3, es, rfl, ha, hbl, hel, by rw [hle, if_neg (by simp)]; simp [Tr.size]; omega, he.same s1, hp.same s1, hf.same s1⟩, a1, dx, bl, el, rfl, ha⟩
          have bad2 : p.isNo = true → ff.isNo = true → RetX G H Cb "at" (.int ((2 : Nat) : Int)) E := fun n1 n2 => bad 2 (by show (if (p.isNo && ff.isNo) = true then some 2 else none) = some 2; rw [n1, n2] <;> rfl)
          have fin3 : ∀ (R : Prop), (∀ (n : ff.isNo = true), v3 = .non → R) → (ff.isNo = false → TyX K H v3 (.ref C) → v3 ≠ .non → R) → R := fun R h1 h2 => by
            cases hn : ff.isNo with
            | true =>
              rw [hn] at e3
              exact h1 hn (of_decide_eq_true e3)
            | false =>
              rw [hn] at e3
              exact h2 hn (tv hf hn) (of_decide_eq_false e3)
          refine fin2 _ (fun n ev => ?_) (fun n ty2 ne2 => ?_)
          · refine fin3 _ (fun m ew => ?_) (fun m ty3 ne3 => ?_)
            · subst ev ew
              walk_at "qq"
              refine ite_nd (fun h => absurd rfl h) (fun _ => ?_)
              walk_at "qq"
              refine ite_nd (fun h => absurd rfl h) (fun _ => ?_)
              walk_at "qq"
              refine ite_d (fun _ => ?_) (fun h => absurd rfl h)
              walk_at "qq"
              refine ite_d (fun _ => ?_) (fun h => absurd rfl h)
              walk_at "qq"
              exact u_raise1 w0 fun d G' H' w' s' t' hd => retX_of (bad2 n m) w' hd
            · subst ev
              walk_at "qq"
              refine ite_nd (fun h => absurd rfl h) (fun _ => ?_)
              walk_at "qq"
              refine ite_nd (fun _ => ?_) (fun h => absurd h ne3)
              walk_at "qq"
              refine ite_d (fun _ => ?_) (fun h => absurd rfl h)
              walk_at "qq"
              refine ite_d (fun h => absurd h ne3) (fun _ => ?_)
              walk_at "qq"
              exact fin (by rw [n, m] <;> rfl)
          · refine fin3 _ (fun m ew => ?_) (fun m ty3 ne3 => ?_)
            · subst ew
              walk_at "qq"
              refine ite_nd (fun _ => ?_) (fun h => absurd h ne2)
              walk_at "qq"
              refine ite_nd (fun h => absurd rfl h) (fun _ => ?_)
              walk_at "qq"
              refine ite_d (fun h => absurd h ne2) (fun _ => ?_)
              walk_at "qq"
              exact fin (by rw [n, m] <;> rfl)
            · walk_at "qq"
              refine ite_nd (fun _ => ?_) (fun h => absurd h ne2)
              walk_at "qq"
              refine ite_nd (fun _ => ?_) (fun h => absurd h ne3)
              walk_at "qq"
              refine ite_d (fun h => absurd h ne2) (fun _ => ?_)
              walk_at "qq"
              exact fin (by rw [n, m] <;> rfl)
end
section
variable {P : Program} {w : World} {K : PySem.W.Frag} {mg : Str → Option Value} {base : Heap} {C Ce Cb : Addr}
abbrev nPlP : List Str := ["self"]
theorem scPlP : FnScope nPlP ["self"] (defScope sPlP) := ⟨rfl, rfl, rfl, by decide +kernel, rfl, by decide +kernel, by decide +kernel⟩
theorem ok_plPX {f : Addr} {fd : FuncData} (F : FnP K "passed" "Plan.passed" sPlP [] f fd) (S : PlC K C) : FnOk P w K mg base CX0 1 f fd ["self"] (spPlFld C true) := by
  refine fnP_ok F scPlP (fun vs H Q E h => ?_) (fun cdv A outer s H vs Q E hr h => ?_)
  · obtain ⟨G, v, v1, v2, v3, rfl, _⟩ := h
    rfl
  · obtain ⟨G, v, v1, v2, v3, rfl, sG, ⟨a, dx, bl, el, rfl, ha⟩, k⟩ := h
    have cc := S.c
    have n2 := S.n2
    refine ⟨_, (pss_one (ps_ret (pe_fld (pv 0) rfl))), ?_⟩
    have w0 := wd_pure sG
    unfold planF at ha
    walk_at "qq"
    exact ret_of k w0 rfl
abbrev nPlF : List Str := ["self"]
theorem scPlF : FnScope nPlF ["self"] (defScope sPlF) := ⟨rfl, rfl, rfl, by decide +kernel, rfl, by decide +kernel, by decide +kernel⟩
theorem ok_plFX {f : Addr} {fd : FuncData} (F : FnP K "failed" "Plan.failed" sPlF [] f fd) (S : PlC K C) : FnOk P w K mg base CX0 1 f fd ["self"] (spPlFld C false) := by
  refine fnP_ok F scPlF (fun vs H Q E h => ?_) (fun cdv A outer s H vs Q E hr h => ?_)
  · obtain ⟨G, v, v1, v2, v3, rfl, _⟩ := h
    rfl
  · obtain ⟨G, v, v1, v2, v3, rfl, sG, ⟨a, dx, bl, el, rfl, ha⟩, k⟩ := h
    have cc := S.c
    have n3 := S.n3
    refine ⟨_, (pss_one (ps_ret (pe_fld (pv 0) rfl))), ?_⟩
    have w0 := wd_pure sG
    unfold planF at ha
    walk_at "qq"
    exact ret_of k w0 rfl
abbrev nPlLen : List Str := ["self"]
theorem scPlLen : FnScope nPlLen ["self"] (defScope sPlLen) := ⟨rfl, rfl, rfl, by decide +kernel, rfl, by decide +kernel, by decide +kernel⟩
theorem ok_plLen {f : Addr} {fd : FuncData} (F : FnP K "__len__" "Plan.__len__" sPlLen [] f fd) (T : Bi mg) (S : PlC K C) : FnOk P w K mg base CX0 1 f fd ["self"] (spPlLen C Ce) := by
  refine fnP_ok F scPlLen (fun vs H Q E h => ?_) (fun cdv A outer s H vs Q E hr h => ?_)
  · obtain ⟨G, v, t, rfl, _⟩ := h
    rfl
  · obtain ⟨G, v, t, rfl, sG, hb, hn, z, k⟩ := h
    have hu64 := hr.units
    have cc := S.c
    have n5 := S.n5
    refine ⟨_, (pss_one (ps_ret (pe_callB q_len (by rfl) T.len (by decide +kernel) (pa_cons (pe_fld (pv 0) rfl) pa_nil)))), ?_⟩
    have w0 := wd_pure sG
    obtain ⟨a, dx, v1, v2, v3, bl, el, es, rfl, ha, hel, hle⟩ := hb.ins hn
    unfold planF at ha
    walk_at "qq"
    exact ret_of k w0 (by rw [hle])
abbrev nPlDeep : List Str := ["self", "branch"]
theorem scPlDeep : FnScope nPlDeep ["self"] (defScope sPlDeep) := ⟨rfl, rfl, rfl, by decide +kernel, rfl, by decide +kernel, by decide +kernel⟩
theorem plDeep_len (i : Nat) : ∀ vs H Q E, spPlDeep C Ce i vs H Q E → vs.length = ["self"].length := fun vs H Q E h => by
  cases i with
  | zero => exact h.elim
  | succ d =>
    obtain ⟨G, v1, t, rfl, _⟩ := h
    rfl
theorem ok_plDeep0 {f : Addr} {fd : FuncData} (F : FnP K "depth" "Plan.depth" sPlDeep [] f fd) : FnOk P w K mg base CX0 1 f fd ["self"] (spPlDeep C Ce 0) :=
  fnP_ok F scPlDeep (plDeep_len 0) (fun cdv A outer s H vs Q E hr h => h.elim)
theorem kids_deep {p f : Tr Ck} (n : (p.isNo && f.isNo) = false) : ∀ m : Int, m ∈ ((brs p f).map fun t => (t.deep : Int)) → (∀ y ∈ ((brs p f).map fun t => (t.deep : Int)), y ≤ m) → 1 + m = ((Tr.ask (default : Ck) p f).deep : Int) := fun m h1 h2 => by
  unfold brs at h1 h2
  cases p <;> cases f <;> simp [Tr.isNo, Tr.deep] at n h1 h2 ⊢ <;> omega
theorem ok_plDeep {ki i : Nat} {f : Addr} {fd : FuncData} (F : FnP K "depth" "Plan.depth" sPlDeep [] f fd) (T : Bi mg) (S : PlC K C) (Di : PrD P w K mg base CX0 ki C "depth" (spPlDeep C Ce i)) : FnOk P w K mg base CX0 (ki + 2) f fd ["self"] (spPlDeep C Ce (i + 1)) := by
  refine fnP_ok F scPlDeep (plDeep_len (i + 1)) (fun cdv A outer s H vs Q E hr h => ?_)
  obtain ⟨G, v, t, rfl, hd, sG, hb, ho, k⟩ := h
  have hu64 := hr.units
  have cc := S.c
  have n1 := S.n1
  have n4 := S.n4
  refine ⟨_, (pss_cons (ps_if (pt_cmpR q_isN (pe_fld (pv 0) rfl) pe_non (nomark _)) (pss_one (ps_ret pe_int)) pss_nil)
        (pss_one (ps_ret (pe_op q_add pe_int (pe_callB (show CallR _ (.builtin "max") (rMax K) from cr_max rfl) (by rfl) T.max (by decide +kernel) (pa_cons (pe_lc (own := [("branch", 1)]) (g := gName 1) (tt := tYes) rfl scPlDeep.nd (pi_list (pe_fld (pv 0) rfl)) (blkOk_by (own := [("branch", 1)]) (N := nPlDeep) (sc := defScope sPlDeep) (by decide +kernel)) (fun _ _ _ _ _ => (pg_name (i := 1) scPlDeep.nd rfl (by first | exact Or.inl rfl | exact Or.inr rfl))) (fun _ _ _ _ _ => pts_nil) (fun _ _ _ _ _ => (pe_callTy q_int (by rfl) T.int (by decide +kernel) (pa_cons (pe_propD (pv 1) Di hr pass0 (Nat.le_refl _)) pa_nil)))) pa_nil)))))), ?_⟩
  have w0 := wd_pure sG
  cases t with
  | no => cases i <;> cases ho
  | done =>
    obtain ⟨a, dx, bl, el, rfl, ha, _⟩ := hb
    unfold planF at ha
    walk_at "qq"
    refine ite_d (fun _ => ?_) (fun h => absurd rfl h)
    walk_at "qq"
    exact ret_of k w0 rfl
  | ask c p ff =>
    obtain ⟨a, dx, bl, el, en, vp, vf, es, rfl, ha, hbl, _, _, _, hp, hf⟩ := hb
    unfold planF at ha
    cases i with
    | zero => cases ho
    | succ d =>
      have ho : ((p.isNo || p.ok d) && ((ff.isNo || ff.ok d) && !(p.isNo && ff.isNo))) = true := ho
      rw [Bool.and_eq_true, Bool.and_eq_true] at ho
      obtain ⟨o1, o2, o3⟩ := ho
      have hno : (p.isNo && ff.isNo) = false := by rw [Bool.not_eq_true'] at o3; exact o3
      have pk := kids_at hp hf
      have each : ∀ t ∈ brs p ff, t.ok d = true := fun t ht => by
        obtain ⟨m, n⟩ := List.mem_filter.mp ht
        have n : t.isNo = false := by simpa using n
        simp only [List.mem_cons, List.not_mem_nil, or_false] at m
        rcases m with rfl | rfl
        · rw [n] at o1
          exact o1
        · rw [n] at o2
          exact o2
      have two : (kids vp vf).length ≤ 2 := Nat.le_trans (List.length_filter_le _ _) (by simp)
      have lk := Paired.length pk
      have deepen := kids_deep hno
      have pos : 0 < (brs p ff).length := by
        unfold brs
        cases p <;> cases ff <;> simp [Tr.isNo] at hno ⊢
      generalize kids vp vf = ks at *
      generalize brs p ff = ts at *
      walk_at "qq"
      refine ite_d (fun h => by cases h) (fun _ => ?_)
      walk_at "qq"
      refine lc_go w0 (walk_list (xs := ks)) (fun j acc _ _ => acc = ((ts.map fun t => (t.deep : Int)).take j).map V.int) (fun _ _ _ _ _ => rfl) (fun _ _ Gi Hi wi si _ => wd_sqL wi (SqL.of (si _ _ hbl))) ?_ ?_
      · rintro Dd j acc Gi H5 x5 H6 hj hl5 w5 s5 hD nm rfl ⟨rfl, hx⟩
        have hj : j < ks.length := hj
        obtain ⟨t, ht⟩ : ∃ t, ts[j]? = some t := ⟨_, List.getElem?_eq_getElem (lk ▸ hj)⟩
        have bt := (paired_get pk hx ht).same s5
        have okt := each t (List.mem_of_getElem? ht)
        have nt : t.isNo = false := by cases t <;> first | rfl | (cases d <;> cases okt)
        obtain ⟨ai, dxi, u1, u2, u3, bli, eli, esi, rfl, hai, _⟩ := bt.ins nt
        have hai5 := w5.le _ _ hai
        walk_at "qq"
        refine u_plDeep w5 (by omega) bt okt fun G6 H7 w6 s6 t6 => ?_
        have hD6 := t6 _ _ hD
        walk_at "qq"
        rw [take_snoc (show (ts.map fun t => (t.deep : Int))[j]? = some (t.deep : Int) by rw [List.getElem?_map, ht] <;> rfl), List.map_append]
        rfl
      · rintro l5 acc Gi G5 H5 hl5 w5 s5 s5' h5 rfl
        rw [List.take_of_length_le (by rw [List.length_map, ← lk]; exact Nat.le_refl _)] at h5
        walk_at "qq"
        refine ⟨l5, ts.map fun t => (t.deep : Int), rfl, SqL.of (w5.le _ _ h5), by rw [List.length_map]; exact pos, fun m h1 h2 => ?_⟩
        walk_at "qq"
        exact ret_of k w5 (congrArg V.int (deepen m h1 h2))
end
section
variable {P : Program} {w : World} {K : PySem.W.Frag} {mg : Str → Option Value} {base : Heap} {C Ce Cb : Addr}
abbrev nPlCall : List Str := ["self", "answer", "here", "found", "word", "branch"]
theorem scPlCall : FnScope nPlCall ([("self" : Str), "answer"]) (defScope sPlCall) := ⟨rfl, rfl, rfl, by decide +kernel, rfl, by decide +kernel, by decide +kernel⟩
theorem ok_plCall {g : Addr} {fd : FuncData} (F : FnP K "__call__" "Plan.__call__" sPlCall [] g fd) (cc : StX.CallO K C g) (T : Bi mg) (S : PlC K C) (Dp1 : PrD P w K mg base CX0 1 C "passed" (spPlFld C true)) (Dp2 : PrD P w K mg base CX0 1 C "failed" (spPlFld C false)) (EB : ErD P w K mg base "BadEntry" Cb (spErr1 Cb "at")) :
    PlayG P w K mg base 6 5 C (spPlay K C Cb) := by
  refine play_of (k := 5) F cc scPlCall (fun _ _ _ _ _ _ us hl => match us, hl with | [_, _], _ => rfl) (fun cdv A outer s H f c' q P' o Q E t hr c hc h => ?_)
  obtain ⟨G, tr, l, xs0, W, sG, he, hd, gl, hl, l0, hW, cb, good, bad⟩ := h
  have hu64 := hr.units
  have kcls := S.c
  have n1 := S.n1
  have hr6 := hr
  have passQ : Passes (L2.CX P w) (cxOf (L2.CX P w) P w K mg base nPlCall "Plan.__call__" (defScope sPlCall) g cdv A outer s H E) E := passD
  refine ⟨_, (pss_cons (ps_set (i := 2) scPlCall.nd rfl (Or.inl rfl) (pv 0))
        (pss_cons (ps_set (i := 3) scPlCall.nd rfl (Or.inl rfl) (pe_lstM pa_nil))
        (pss_cons (ps_while (passes_of rfl) (pt_cmpR q_notN (pe_fld (pv 2) rfl) pe_non (nomark _)) (pss_cons (ps_set (i := 4) scPlCall.nd rfl (Or.inl rfl) (pe_callw (i := 1) c rfl hr6 passQ rfl (Or.inl rfl) (pe_fld (pv 2) rfl)))
        (pss_cons (ps_set (i := 5) scPlCall.nd rfl (Or.inl rfl) pe_non)
        (Evl.pss_cut (ps_if (PW.pt (pw_and (pt_val (pe_callB call_isi (by rfl) T.isinstance (by decide +kernel) (pa_cons (pv 4) (pa_cons (pe_bltn (v := .ty "str") (by rfl) T.str (by decide +kernel) rfl) pa_nil)))) (pw_and1 (pt_cmpR op_in_seq (pv 4) (pe_tup (pa_cons pe_str (pa_cons pe_str pa_nil))) (by rfl))))) (pss_one (ps_set (i := 5) scPlCall.nd rfl (Or.inl rfl) (pe_ifExp (pt_cmpR (q_eq hu64) (pv 4) pe_str (nomark _)) (pe_propD (pv 2) Dp1 hr pass0) (pe_propD (pv 2) Dp2 hr pass0)))) pss_nil)
        (pss_cons (ps_if (pt_cmpR q_isN (pv 5) pe_non (nomark _)) (pss_one (ps_raiseD rfl takesD EB hr (pa_cons (pe_callB q_len (by rfl) T.len (by decide +kernel) (pa_cons (pv 3) pa_nil)) pa_nil))) pss_nil)
        (pss_cons (ps_expr (pe_bm PySem.F.plainAttrs_list PySem.F.slot_list_append PySem.F.type_list_append mt_append (pv 3) (pa_cons (pe_tup (pa_cons (pe_fld (pv 2) rfl) (pa_cons (pv 4) pa_nil))) pa_nil)))
        (pss_one (ps_set (i := 2) scPlCall.nd rfl (Or.inl rfl) (pv 5)))))))))
        (pss_one (ps_ret (pe_callTy q_tupOf (by rfl) T.tuple (by decide +kernel) (pa_cons (pv 3) pa_nil))))))), ?_⟩
  have w0 : Wd ⟨H, G, [l], []⟩ G H [l] := wd_start sG (fun b h => by rw [List.mem_singleton.mp h]; exact ⟨gl, _, hl, rfl⟩) (by simp)
  walk_at "qq"
  rename_i fl H1 n1' w1 h1 s1 d1
  have hfl0 : H fl = none := n1'
  have trn : tr.isNo = false := by
    cases tr with
    | no => cases (show V.ref o = V.non from he)
    | done => rfl
    | ask _ _ _ => rfl
  refine while_go (fun m σ Hx => ∃ (Gi : Hp) (hv : V) (y4 y5 : Option V) (t' : Tr Addr) (r0 : List (Addr × V)) (xs : List V), σ = [some (.ref o), some (.ref f), some hv, some (.ref fl), y4, y5] ∧ Wd ⟨H, G, [l], []⟩ Gi Hx [fl, l] ∧ Same G Gi ∧ EnsAt C Gi t' hv ∧ t'.isNo = false ∧ t'.deep = m ∧
      Hx fl = some (.lst xs) ∧ EwAt Gi xs r0 ∧ Hx l = some (.lst (xs0 ++ asked r0)) ∧ plE W tr 0 = (r0 ++ (plE W t' r0.length).1, (plE W t' r0.length).2) ∧ r0.length + m ≤ 5) tr.deep
    ⟨G, _, _, _, tr, [], [], rfl, w1, Same.refl _, he, trn, rfl, h1, .nil, by rw [show asked [] = [] from rfl, List.append_nil]; exact s1 _ _ hl, rfl, by simpa using hd⟩ ?_ ?_
  · rintro m σ Hx ⟨Gi, hv, y4, y5, t', r0, xs, rfl, wi, si, hi, hn, hdm, hfl, hxs, hli, hpl, hm⟩
    have lx := Paired.length hxs
    cases t' with
    | no => cases hn
    | done =>
      obtain ⟨a1, dx1, bl1, el1, rfl, ha1⟩ := hi
      unfold planF at ha1
      have ha1' := wi.le _ _ ha1
      walk_at "qq"
      refine ite_nd (fun h => absurd rfl h) (fun _ => ?_)
      walk_at "qq"
      refine r_tupOf (SqL.of hfl) ?_
      refine r_lay wi (Nat.zero_le _) (by intro ps z; cases z) fun l2 G2 H2 n2 w2 s2 h2 t2 => ?_
      walk_at "qq"
      exact retM_of (good r0 (by rw [hpl]; simp [plE])) w2 (t2 _ _ hli) ⟨rfl, l2, xs, rfl, h2, hxs.same s2⟩
    | ask en p ff =>
      obtain ⟨vp, vf, ⟨a1, dx1, bl1, el1, rfl, ha1⟩, hp, hf⟩ := hi
      have hpv : PlanV C Gi (.ref a1) (.ref en) vp vf := ⟨a1, dx1, bl1, el1, rfl, ha1⟩
      unfold planF at ha1
      have ha1' := wi.le _ _ ha1
      have cl : c' ≠ l := fun z => by
        rw [z, hl] at hc
        unfold CodeT at hc
        cases hc
      have hci : Hx c' = some (CodeT c' q P') := wi.kp c' _ (by simpa using cl) hc
      walk_at "qq"
      refine ite_nd (fun _ => ?_) (fun h => by cases h)
      walk_at "qq"
      refine ⟨rfl, ?_⟩
      walk_at "qq"
      have m1 : 1 ≤ m := by
        rw [← hdm]
        simp only [Tr.deep]
        omega
      refine ⟨hci, cb _ Gi Hx _ en (asked r0) E _ wi (by simp) si hli (by unfold asked; rw [List.length_map]; omega) fun G2 H2 w2 s2 b2 h2 => ?_⟩
      have la : (asked r0).length = r0.length := by unfold asked; rw [List.length_map]
      rw [la]
      have hfl2 : H2 fl = some (.lst xs) := b2 _ _ (d1 l (by simp)) hfl
      have hpv2 := hpv.same s2
      obtain ⟨uw, kw0⟩ := hW r0.length
      have kw := kw0.same (si.trans s2)
      have ha12 := w2.le _ _ (s2 _ _ ha1)
      generalize hWk : W r0.length = wd at *
      walk_at "qq"
      refine ⟨fun σ' H' => ∃ (Gc : Hp) (bv : V), σ' = [some (.ref o), some (.ref f), some (.ref a1), some (.ref fl), some wd, some bv] ∧ Wd ⟨H, G, [l], []⟩ Gc H' [fl, l] ∧ Same G2 Gc ∧ H' fl = some (.lst xs) ∧ H' l = some (.lst (xs0 ++ asked r0 ++ [.ref en])) ∧ bv = (if wd = .str zPass then vp else if wd = .str zFail then vf else .non), ?_, ?_⟩
      · have h1 := same_ty w2.le kw.ty
        have h2 := kw.str
        walk_at "qq"
        cases wd with
        | str z =>
          refine iteT ?_
          walk_at "qq"
          rename_i lT GT HT nT wT sT hT tT
          by_cases c1 : z = zPass
          · subst c1
            refine iteY (by decide +kernel) ?_
            walk_at "qq"
            refine ite_d (fun _ => ?_) (fun h => absurd rfl h)
            walk_at "qq"
            refine u_plFld wT (hpv2.same sT) fun G5 H5 w5 s5 t5 => ?_
            walk_at "qq"
            exact ⟨G5, vp, rfl, w5, sT.trans s5, t5 _ _ (tT _ _ hfl2), t5 _ _ (tT _ _ (by assumption)), by rw [if_pos rfl]⟩
          · by_cases c2 : z = zFail
            · subst c2
              refine iteY (by decide +kernel) ?_
              walk_at "qq"
              refine ite_d (fun h => absurd h (by decide +kernel)) (fun _ => ?_)
              walk_at "qq"
              refine u_plFld wT (hpv2.same sT) fun G5 H5 w5 s5 t5 => ?_
              walk_at "qq"
              exact ⟨G5, vf, rfl, w5, sT.trans s5, t5 _ _ (tT _ _ hfl2), t5 _ _ (tT _ _ (by assumption)), by rw [if_neg (by decide +kernel), if_pos rfl]⟩
            · refine iteN (by simp [inV, eqV]; exact ⟨fun e => c1 e.symm, fun e => c2 e.symm⟩) ?_
              walk_at "qq"
              exact ⟨GT, .non, rfl, wT, sT, tT _ _ hfl2, tT _ _ (by assumption), by rw [if_neg (fun h => c1 (V.str.inj h)), if_neg (fun h => c2 (V.str.inj h))]⟩
        | _ =>
          refine iteF ?_
          walk_at "qq"
          exact ⟨G2, .non, rfl, w2, Same.refl _, hfl2, by assumption, by simp⟩
      · rintro σ' H' ⟨Gc, bv, rfl, wc, sc, hflc, hlc, hbv⟩
        have hnt : EnsAt C Gc (nextT wd p ff) bv := by
          unfold nextT
          rw [hbv]
          split
          · exact hp.same (s2.trans sc)
          · split
            · exact hf.same (s2.trans sc)
            · rfl
        have hpc := hpv2.same sc
        obtain ⟨a3, dx3, bl3, el3, e3, ha3⟩ := hpc
        cases e3
        unfold planF at ha3
        have ha3' := wc.le _ _ ha3
        have hdp := nextT_deep wd en p ff
        have hask := plE_ask W en p ff r0.length
        rw [hWk] at hask
        have ebv := hnt.non
        walk_at "qq"
        rw [ebv]
        cases hno : (nextT wd p ff).isNo with
        | true =>
          rw [hno, if_pos rfl] at hask
          refine iteY (by first | rfl | decide) ?_
          walk_at "qq"
          refine u_raise1 wc fun d G' H2' w' s' t' hd' => ?_
          refine retM_of (v := .non) (bad r0 r0.length en (by rw [hpl, hask, List.append_nil]) d) w' (t' _ _ hlc) ⟨rfl, by rw [← lx]; exact hd'⟩
        | false =>
          rw [hno, if_neg (by decide)] at hask
          refine iteN (by first | rfl | decide) ?_
          walk_at "qq"
          rename_i lT GT HT nT wT sT hT tT HU wU hU bU
          refine ⟨(nextT wd p ff).deep, by omega, GT, _, _, _, nextT wd p ff, r0 ++ [(en, wd)], xs ++ [.ref lT], rfl, wU, si.trans (s2.trans (sc.trans sT)), hnt.same sT, hno, rfl, hU, ?_, ?_, ?_, ?_⟩
          · exact paired_snoc (hxs.same (s2.trans (sc.trans sT))) ⟨lT, rfl, hT⟩
          · have e : xs0 ++ asked (r0 ++ [(en, wd)]) = xs0 ++ asked r0 ++ [V.ref en] := by unfold asked; rw [List.map_append, List.append_assoc]; rfl
            rw [e]
            exact bU _ _ (fun z => (d1 l (by simp)) z.symm) (tT _ _ hlc)
          · rw [hpl, hask, List.length_append, List.append_assoc]
            rfl
          · rw [List.length_append, List.length_singleton]
            omega
  · rintro σ H Q Q' hq ⟨x, h1, a2, dx2, fs2, v2, b1, b2, b3, b4⟩
    obtain ⟨k1, k2, k3, k4⟩ := b4
    refine ⟨x, h1, a2, dx2, fs2, v2, b1, b2, b3, k1, k2, k3, ?_⟩
    obtain ⟨e1, k, ek, hk⟩ := k4
    exact ⟨e1, k, ek, hq _ _ hk⟩
end
section
variable {P : Program} {w : World} {K : PySem.W.Frag} {mg : Str → Option Value} {base : Heap} {C Ce Cb : Addr}
abbrev nAnswer : List Str := ["_law_check", "_law_said", "_law_seen"]
theorem scAnswer : FnScope nAnswer ["_law_check", "_law_said", "_law_seen"] (defScope sAnswer) := ⟨rfl, rfl, rfl, by decide +kernel, rfl, by decide +kernel, by decide +kernel⟩
theorem ok_answer {f : Addr} {fd : FuncData} (F : FnP K "_law_answer" "_law_answer" sAnswer [] f fd) (T : Bi mg) : FnOk P w K mg base CX0 1 f fd ["_law_check", "_law_said", "_law_seen"] spAnswer := by
  refine fnP_ok F scAnswer (fun vs H Q E h => ?_) (fun cdv A outer s H vs Q E hr h => ?_)
  · obtain ⟨G, l, ls, en, v, ys, ws, rfl, _⟩ := h
    rfl
  · obtain ⟨G, l, ls, en, v, ys, ws, rfl, sG, gl, hl, z, hs, hv, k⟩ := h
    have hu64 := hr.units
    refine ⟨_, (pss_cons (ps_expr (pe_bm PySem.F.plainAttrs_list PySem.F.slot_list_append PySem.F.type_list_append mt_append (pv 2) (pa_cons (pv 0) pa_nil)))
        (pss_one (ps_ret (pe_ix q_ix (pv 1) (pe_op q_sub (pe_callB q_len (by rfl) T.len (by decide +kernel) (pa_cons (pv 2) pa_nil)) pe_int) (fun _ _ => rfl))))), ?_⟩
    have w0 : Wd ⟨H, G, [l], []⟩ G H [l] := wd_start sG (fun b h => by rw [List.mem_singleton.mp h]; exact ⟨gl, _, hl, rfl⟩) (by simp)
    walk_at "qq"
    rename_i H1 w1 h1 b1
    have ix : ((((ys ++ [en]).length : Nat) : Int) - 1) = ((ys.length : Nat) : Int) := by rw [List.length_append, List.length_singleton]; omega
    rw [ix]
    refine r_ixL (SqL.of (w1.le _ _ hs)) (atI_nat hv) ?_
    exact retM_of k w1 h1 ⟨rfl, rfl⟩
end
section
variable {P : Program} {w : World} {K : PySem.W.Frag} {mg : Str → Option Value} {base : Heap} {C Ce Cb Ct : Addr}
abbrev nHeardE : List Str := ["_law_ask", "error"]
theorem scHeardE : FnScope nHeardE [("_law_ask" : Str)] (defScope sHeardE) := ⟨rfl, rfl, rfl, by decide +kernel, rfl, by decide +kernel, by decide +kernel⟩
theorem ok_heardE {g : Addr} {fd : FuncData} {k k0 : Nat} (F : FnP K "_law_heard" "_law_heard" sHeardE [] g fd) (T : Bi mg) (hm : mg "_law_heard" = some (.ref g)) (hmT : mg "TillError" = some (.ref Ct)) (hBad : Gc mg "BadEntry" (.ref Cb)) (N1 : HdC K Cb "at")
    (ex : PySem.W.exmOne K (.ref Cb) (.ref Ct) = some true) (kb : PySem.W.kitOne K (.ref Cb) (.ref Cb) = some true) (hk0 : k0 ≤ k) : HearM P w K mg base (k + 1) k0 "_law_heard" (THe Cb) := by
  refine hearM_of F hm scHeardE rfl (Or.inl rfl) hk0 (fun _ _ _ _ _ _ us hl => match us, hl with | [_], _ => rfl) (fun cdv A outer s H f c' ho Q t g0 hr act hc h => ?_)
  have hu64 := hr.units
  have hTill : Names (cxOf C8.CX0 P w K mg base nHeardE "_law_heard" (defScope sHeardE) g cdv A outer s H C8.E0).nox "TillError" (.ref Ct) := ⟨rfl, by decide, .inl hmT⟩
  refine ⟨_, (pss_cons (ps_tryRet (X := (cxOf C8.CX0 P w K mg base nHeardE "_law_heard" (defScope sHeardE) g cdv A outer s H C8.E0).nox) (i := 1) (tl := fun E σZ HZ Qz => σZ[0]? = some (some (.ref f)) ∧ HZ c' = some ho ∧ t E HZ fun v H1 => Lay 1 (.lst [v]) Qz H1) (ts := fun _ _ _ => tIfS (tAnd (tB (tCB (rIsU K) (tCons (tVar 1) (tCons (tC (.ref Cb)) tNil)))) (tB (tCB (rIsU K) (tCons (tVar 1) (tCons (tC (.ty "ValueError")) tNil))))) (tRet (tTup (tCons (tC (.str "entry")) (tCons (tFldX K "at" (tVar 1)) tNil)))) tNext) rfl rfl scHeardE.nd rfl rfl hTill (fun W pn xe E tk hW => pe_lst (pa_cons (act W pn xe E _ _ tk hW) pa_nil)) (fun b oe cls d pn _ _ => (pss_one (ps_if (PW.pt (pw_and (pt_val (pe_callB q_isi (by rfl) T.isinstance (by decide +kernel) (pa_cons (pv 1) (pa_cons (pe_gc hBad) pa_nil)))) (pw_and1 (pt_val (pe_callB q_isi (by rfl) T.isinstance (by decide +kernel) (pa_cons (pv 1) (pa_cons (pe_bltn (v := .ty "ValueError") (by rfl) T.ValueError (by decide +kernel) rfl) pa_nil))))))) (pss_one (ps_ret (pe_tup (pa_cons pe_str (pa_cons (pe_xv (pv 1)) pa_nil))))) pss_nil))))
        (pss_one (ps_ret pe_str))), ?_⟩
  walk_at "qq"
  refine ⟨HrE Cb Q, fun cls d σ' H' told => ?_, rfl, hc, h _ _ (fun _ _ _ z => z) fun v H1 hv => ?_⟩
  · obtain ⟨e, G, M, v, dd, wq, rfl, rfl, hdd, kk⟩ := told
    refine ⟨ex, fun a ha hlen => ?_⟩
    match σ', hlen with
    | [x0, x1], _ =>
      have w1 := wd_lay (o := ExK (.ref Cb) (some dd) a) wq ha exK_nt
      have s1 : Same G (upd G a (ExK (.ref Cb) (some dd) a)) := same_upd (wq.g ha)
      have t1 : Same H' (upd H' a (ExK (.ref Cb) (some dd) a)) := same_upd ha
      have g1 : upd G a (ExK (.ref Cb) (some dd) a) a = some (ExK (.ref Cb) (some dd) a) := upd_same
      have gd := s1 _ _ hdd
      generalize upd G a (ExK (.ref Cb) (some dd) a) = G1 at *
      generalize upd H' a (ExK (.ref Cb) (some dd) a) = H1 at *
      walk_at "qq"
      refine r_isuK (w1.le _ _ g1) (w1.le _ _ gd) N1.e kb ?_
      walk_at "qq"
      refine r_isuT (w1.le _ _ g1) (w1.le _ _ gd) N1.e N1.v ?_
      walk_at "qq"
      refine r_fldX (w1.le _ _ g1) (w1.le _ _ gd) N1.x N1.n rfl ?_
      walk_at "qq"
      rename_i p9 G9 H9 n9 w9 s9 h9 t9
      exact kk p9 G9 H9 w9 (s1.trans s9) (t1.trans t9) h9
  · obtain ⟨e, G, M, wv, kk⟩ := hv
    refine r_lay wv (by decide) (by intro ps z; cases z) fun l2 G2 H2 n2 w2 s2 h2 t2 => ?_
    exact kk l2 G2 H2 w2 s2 t2 h2
end
section
variable {P : Program} {w : World} {K : PySem.W.Frag} {mg : Str → Option Value} {base : Heap} {C Ce Cb : Addr}
abbrev nPlanned : List Str := ["_law_tree_here", "_law_checks"]
theorem scPlanned : FnScope nPlanned ["_law_tree_here", "_law_checks"] (defScope sPlanned) := ⟨rfl, rfl, rfl, by decide +kernel, rfl, by decide +kernel, by decide +kernel⟩
theorem planned_len (i : Nat) : ∀ vs H Q E, spPlannedX C Ce i vs H Q E → vs.length = ["_law_tree_here", "_law_checks"].length := fun vs H Q E h => by
  cases i with
  | zero => exact h.elim
  | succ d =>
    obtain ⟨G, v, l, g, ad, t, rfl, _⟩ := h
    rfl
theorem ok_plannedX0 {f : Addr} {fd : FuncData} (F : FnP K "_law_planned" "_law_planned" sPlanned [] f fd) : FnOk P w K mg base CX0 5 f fd ["_law_tree_here", "_law_checks"] (spPlannedX C Ce 0) :=
  fnP_ok F scPlanned (planned_len 0) fun cdv A outer s H vs Q E hr h => h.elim
theorem ok_plannedX {kb i : Nat} {f : Addr} {fd : FuncData} (F : FnP K "_law_planned" "_law_planned" sPlanned [] f fd) (hkb : 5 ≤ kb) (hPl : Gc mg "Plan" (.ref C)) (Ddo : StD P w K mg base CX0 3 C "done" (spDoneX C Ce)) (Das : StD P w K mg base (L2.CX P w) 4 C "ask" (spAskX K C Ce Cb))
    (Di : Df P w K mg base CX0 kb "_law_planned" [] (spPlannedX C Ce i)) : FnOk P w K mg base CX0 (kb + 1) f fd ["_law_tree_here", "_law_checks"] (spPlannedX C Ce (i + 1)) := by
  refine fnP_ok F scPlanned (planned_len (i + 1)) (fun cdv A outer s H vs Q E hr h => ?_)
  obtain ⟨G, v, l, g, ad, t, rfl, hd, sG, h1, ho, hck, k⟩ := h
  have hu64 := hr.units
  have hr4 := hr.mono hkb
  refine ⟨_, (pss_cons (ps_if (pt_cmpR q_isN (pv 0) pe_non (nomark _)) (pss_one (ps_ret pe_non)) pss_nil)
        (pss_cons (ps_if (pt_cmpR (q_eq hu64) (pv 0) pe_str (nomark _)) (pss_one (ps_ret (pe_statD0 (pe_gc hPl) Ddo hr4 pass0))) pss_nil)
        (pss_one (ps_ret (pe_statD (E := E0) (pe_gc hPl) Das hr4 passX0 (pa_cons (pe_ix q_ix (pv 1) (pe_ix q_ix (pv 0) pe_int (fun _ _ => rfl)) (fun _ _ => rfl)) (pa_cons (pe_callD Di hr pass0 (pa_cons (pe_ix q_ix (pv 0) pe_int (fun _ _ => rfl)) (pa_cons (pv 1) pa_nil)) (hj := Nat.le_refl _)) (pa_cons (pe_callD Di hr pass0 (pa_cons (pe_ix q_ix (pv 0) pe_int (fun _ _ => rfl)) (pa_cons (pv 1) pa_nil)) (hj := Nat.le_refl _)) pa_nil)))))))), ?_⟩
  have w0 := wd_pure sG
  walk_at "qq"
  rw [h1.non]
  cases t with
  | no =>
    refine iteT ?_
    walk_at "qq"
    exact ret_of k w0 ⟨rfl, rfl⟩
  | done =>
    obtain rfl : v = .str zDone := h1
    refine iteF ?_
    walk_at "qq"
    refine ite_d (fun _ => ?_) (fun q => absurd rfl q)
    walk_at "qq"
    exact u_doneX w0 fun v G1 H1 w1 s1 t1 hb => ret_of k w1 ⟨hb, by obtain ⟨a, dx, bl, el, e, h, _⟩ := hb; exact ⟨a, dx, bl, el, e, h⟩⟩
  | ask kx p ff =>
    obtain ⟨a, vp, vf, rfl, ha, hk3, hp, hf⟩ := id h1
    have ho : (Tr.ask kx p ff).ok i = true := ho
    obtain ⟨d, rfl⟩ : ∃ d, i = d + 1 := by
      cases i with
      | zero => cases ho
      | succ d => exact ⟨d, rfl⟩
    have hcond : ((p.isNo || p.ok d) && ((ff.isNo || ff.ok d) && !(p.isNo && ff.isNo))) = true := ho
    have hcond2 := hcond
    rw [Bool.and_eq_true, Bool.and_eq_true] at hcond2
    have nof : ((p.map g).isNo && (ff.map g).isNo) = false := by
      rw [Tr.isNo_map, Tr.isNo_map]
      cases q : (p.isNo && ff.isNo) with
      | false => rfl
      | true => rw [q] at hcond2; exact absurd hcond2.2.2 (by decide)
    have two : 2 ^ d ≤ 16 := Nat.le_trans (Nat.pow_le_pow_right (by decide) (show d ≤ 4 by omega)) (by decide)
    have zp := size_ok d (p.map g) (by unfold Tr.okB; rw [Tr.isNo_map, Tr.ok_map]; exact hcond2.1)
    have zf := size_ok d (ff.map g) (by unfold Tr.okB; rw [Tr.isNo_map, Tr.ok_map]; exact hcond2.2.1)
    have d1 : Dp K H (.ref a) (treeD (.ask kx p ff)) := same_dp sG.1 h1.dp
    obtain ⟨xs, hl, hat, hen⟩ := hck.get hk3
    refine iteF ?_
    walk_at "qq"
    refine r_eqD d1 (.str zDone) (treeD_shaped (d := d + 1) hd ho) shaped_done ⟨_, rfl, ?_⟩
    rw [treeD_done rfl]
    refine iteF ?_
    have a1 : atI [V.int (kx : Int), vp, vf] 1 = some vp := rfl
    have a2 : atI [V.int (kx : Int), vp, vf] 2 = some vf := rfl
    walk_at "qq"
    refine u_plannedX w0 hp (by omega) hcond2.1 hck fun r1 G2 H2 w2 s2 t2 b2 n2 => ?_
    have ha2 := s2 _ _ ha
    walk_at "qq"
    refine u_plannedX w2 (hf.same s2) (by omega) hcond2.2.1 (hck.same s2) fun r2 G3 H3 w3 s3 t3 b3 n3 => ?_
    walk_at "qq"
    refine u_askX (o1 := some (g kx)) (o2 := some (p.map g)) (o3 := some (ff.map g)) w3 ⟨_, rfl, hen.same (s2.trans s3)⟩ ⟨b2.same s3, by omega⟩ ⟨b3, by omega⟩ (fun k hk => ?_) fun c p' f' e1 e2 e3 hn v G4 H4 w4 s4 t4 hb4 hv4 => ?_
    · have hk : (if ((p.map g).isNo && (ff.map g).isNo) = true then some 2 else none) = some k := hk
      rw [nof] at hk
      cases hk
    · cases e1
      cases e2
      cases e3
      exact ret_of k w4 ⟨hb4, _, _, hv4, n2.same (s3.trans s4), n3.same s4⟩
end
section
variable {P : Program} {w : World} {K : PySem.W.Frag} {mg : Str → Option Value} {base : Heap} {C Ce Cb : Addr}
abbrev nSizes : List Str := ["_law_tree_here", "_law_below", "_law_branch"]
theorem scSizes : FnScope nSizes ["_law_tree_here"] (defScope sSizes) := ⟨rfl, rfl, rfl, by decide +kernel, rfl, by decide +kernel, by decide +kernel⟩
theorem sizes_len (i : Nat) : ∀ vs H Q E, spSizes i vs H Q E → vs.length = ["_law_tree_here"].length := fun vs H Q E h => by
  cases i with
  | zero => exact h.elim
  | succ d =>
    obtain ⟨G, v, t, rfl, _⟩ := h
    rfl
theorem ok_sizes0 {f : Addr} {fd : FuncData} (F : FnP K "_law_sizes" "_law_sizes" sSizes [] f fd) : FnOk P w K mg base CX0 1 f fd ["_law_tree_here"] (spSizes 0) :=
  fnP_ok F scSizes (sizes_len 0) fun cdv A outer s H vs Q E hr h => h.elim
theorem ok_sizes {kb i : Nat} {f : Addr} {fd : FuncData} (F : FnP K "_law_sizes" "_law_sizes" sSizes [] f fd) (T : Bi mg) (Di : Df P w K mg base CX0 kb "_law_sizes" [] (spSizes i)) : FnOk P w K mg base CX0 (kb + 1) f fd ["_law_tree_here"] (spSizes (i + 1)) := by
  refine fnP_ok F scSizes (sizes_len (i + 1)) (fun cdv A outer s H vs Q E hr h => ?_)
  obtain ⟨G, v, t, rfl, hd, sG, h1, ho, k⟩ := h
  have hu64 := hr.units
  refine ⟨_, (pss_cons (ps_if (PW.pt (pw_or (pt_cmpR q_isN (pv 0) pe_non (nomark _)) (pw_or1 (pt_cmpR (q_eq hu64) (pv 0) pe_str (nomark _))))) (pss_one (ps_ret (pe_tup (pa_cons pe_int (pa_cons pe_int pa_nil))))) pss_nil)
        (pss_cons (ps_setLc (i := 1) (own := [("_law_branch", 2)]) (g := gName 2) (tt := tYes) rfl scSizes.nd rfl rfl (sw_true rfl rfl rfl (by decide +kernel)) (pi_tup (pe_slice sl_tup (pv 0) (po_some pe_int) po_none)) (blkOk_by (own := [("_law_branch", 2)]) (N := nSizes) (sc := defScope sSizes) (by decide +kernel)) (fun _ _ _ _ _ => (pg_name (i := 2) scSizes.nd rfl (by first | exact Or.inl rfl | exact Or.inr rfl))) (fun _ _ _ _ _ => pts_nil) (fun _ _ _ _ _ => (pe_callD Di hr pass0 (pa_cons (pv 2) pa_nil) (hj := Nat.le_refl _))))
        (pss_one (ps_ret (pe_tup (pa_cons (pe_op q_add (pe_op q_add pe_int (pe_ix q_ix (pe_ix q_ix (pv 1) pe_int (fun _ _ => rfl)) pe_int (fun _ _ => rfl))) (pe_ix q_ix (pe_ix q_ix (pv 1) pe_int (fun _ _ => rfl)) pe_int (fun _ _ => rfl))) (pa_cons (pe_op q_add pe_int (pe_callB (cr_max2 rfl) (by rfl) T.max (by decide +kernel) (pa_cons (pe_callTy q_int (by rfl) T.int (by decide +kernel) (pa_cons (pe_ix q_ix (pe_ix q_ix (pv 1) pe_int (fun _ _ => rfl)) pe_int (fun _ _ => rfl)) pa_nil)) (pa_cons (pe_callTy q_int (by rfl) T.int (by decide +kernel) (pa_cons (pe_ix q_ix (pe_ix q_ix (pv 1) pe_int (fun _ _ => rfl)) pe_int (fun _ _ => rfl)) pa_nil)) pa_nil)))) pa_nil))))))), ?_⟩
  have w0 := wd_pure sG
  walk_at "qq"
  rw [h1.non]
  cases t with
  | no =>
    refine iteT ?_
    walk_at "qq"
    rename_i l1 G1 H1 n1 w1 s1 h1' t1
    exact ret_of k w1 ⟨l1, rfl, h1'⟩
  | done =>
    obtain rfl : v = .str zDone := h1
    refine iteF ?_
    walk_at "qq"
    refine ite_d (fun _ => ?_) (fun q => absurd rfl q)
    walk_at "qq"
    rename_i l1 G1 H1 n1 w1 s1 h1' t1
    exact ret_of k w1 ⟨l1, rfl, h1'⟩
  | ask kx p ff =>
    obtain ⟨a, vp, vf, rfl, ha, hk3, hp, hf⟩ := id h1
    have ho : (Tr.ask kx p ff).ok i = true := ho
    obtain ⟨d, rfl⟩ : ∃ d, i = d + 1 := by
      cases i with
      | zero => cases ho
      | succ d => exact ⟨d, rfl⟩
    have hcond : ((p.isNo || p.ok d) && ((ff.isNo || ff.ok d) && !(p.isNo && ff.isNo))) = true := ho
    rw [Bool.and_eq_true, Bool.and_eq_true] at hcond
    have d1 : Dp K H (.ref a) (treeD (.ask kx p ff)) := same_dp sG.1 h1.dp
    refine iteF ?_
    walk_at "qq"
    refine r_eqD d1 (.str zDone) (treeD_shaped (d := d + 1) hd ho) shaped_done ⟨_, rfl, ?_⟩
    rw [treeD_done rfl]
    refine iteF ?_
    walk_at "qq"
    refine r_slT1 (SqT.of (w0.le _ _ ha)) ?_
    refine r_lay w0 (Nat.zero_le _) (by intro ps z; cases z) fun l2 G2 H2 n2 w2 s2 h2 t2 => ?_
    refine ⟨l2, rfl, ⟨_, SqT.of (w2.le _ _ h2)⟩, ?_⟩
    refine lc_go w2 (walk_tup (xs := [vp, vf])) (fun j acc Gy _ => Paired (fun v (t : Tr Nat) => ∃ a, v = .ref a ∧ Gy a = some (.tup [.int (t.size : Int), .int (t.deep : Int)])) acc ([p, ff].take j)) (fun _ _ _ _ _ => .nil) (fun _ _ Gi Hi wi si _ => wd_sqT wi (SqT.of (si _ _ h2))) ?_ ?_
    · rintro Dd j acc Gi H5 x5 H6 hj hl5 w5 s5 hD nm ih ⟨rfl, hx⟩
      have hj2 : j < 2 := hj
      obtain ⟨t, ht, lt, ot⟩ : ∃ t, [p, ff][j]? = some t ∧ LtAt G t x5 ∧ t.okB d = true := by
        rcases (by omega : j = 0 ∨ j = 1) with rfl | rfl
        · cases hx
          exact ⟨p, rfl, hp, hcond.1⟩
        · cases hx
          exact ⟨ff, rfl, hf, hcond.2.1⟩
      walk_at "qq"
      refine u_sizes w5 (lt.same (s2.trans s5)) (by omega) ot fun a6 G6 H7 w6 s6 t6 h6 => ?_
      have hD6 := t6 _ _ hD
      walk_at "qq"
      rw [take_snoc ht]
      exact paired_snoc (Paired.mapP ih fun _ _ ⟨a, e, h⟩ => ⟨a, e, s6 _ _ h⟩) ⟨a6, rfl, h6⟩
    · rintro l5 acc Gi G5 H5 hl5 w5 s5 s5' h5 ih
      have ih : Paired (fun v (t : Tr Nat) => ∃ a, v = .ref a ∧ Gi a = some (.tup [.int (t.size : Int), .int (t.deep : Int)])) acc [p, ff] := ih
      obtain ⟨b1, b2, rfl, g1, g2⟩ : ∃ b1 b2, acc = [V.ref b1, V.ref b2] ∧ Gi b1 = some (.tup [.int (p.size : Int), .int (p.deep : Int)]) ∧ Gi b2 = some (.tup [.int (ff.size : Int), .int (ff.deep : Int)]) := by
        cases ih with
        | cons a r =>
          cases r with
          | cons b r =>
            cases r
            obtain ⟨b1, rfl, g1⟩ := a
            obtain ⟨b2, rfl, g2⟩ := b
            exact ⟨b1, b2, rfl, g1, g2⟩
      have g1 := s5' _ _ g1
      have g2 := s5' _ _ g2
      have e1 : atI [V.ref b1, V.ref b2] 0 = some (.ref b1) := rfl
      have e2 : atI [V.ref b1, V.ref b2] 1 = some (.ref b2) := rfl
      walk_at "qq"
      refine r_max2 ?_
      walk_at "qq"
      rename_i l9 G9 H9 n9 w9 s9 h9 t9
      refine ret_of k w9 ⟨l9, rfl, ?_⟩
      rw [h9]
      have z1 : (1 + (p.size : Int) + (ff.size : Int)) = (((Tr.ask kx p ff).size : Nat) : Int) := by simp only [Tr.size]; push_cast; rfl
      have z2 : (1 + (if (ff.deep : Int) > (p.deep : Int) then (ff.deep : Int) else (p.deep : Int))) = (((Tr.ask kx p ff).deep : Nat) : Int) := by
        simp only [Tr.deep]
        split <;> omega
      rw [z1, z2]
end
section
variable {P : Program} {w : World} {K : PySem.W.Frag} {mg : Str → Option Value} {base : Heap} {C Ce Cb : Addr}
abbrev nWording : List Str := ["_law_tree_here", "_law_checks", "_law_below", "_law_branch"]
theorem scWording : FnScope nWording ["_law_tree_here", "_law_checks"] (defScope sWording) := ⟨rfl, rfl, rfl, by decide +kernel, rfl, by decide +kernel, by decide +kernel⟩
theorem wording_len (i : Nat) : ∀ vs H Q E, spWording Ce i vs H Q E → vs.length = ["_law_tree_here", "_law_checks"].length := fun vs H Q E h => by
  cases i with
  | zero => exact h.elim
  | succ d =>
    obtain ⟨G, v, l, g, ad, t, rfl, _⟩ := h
    rfl
theorem ok_wording0 {f : Addr} {fd : FuncData} (F : FnP K "_law_wording" "_law_wording" sWording [] f fd) : FnOk P w K mg base CX0 3 f fd ["_law_tree_here", "_law_checks"] (spWording Ce 0) :=
  fnP_ok F scWording (wording_len 0) fun cdv A outer s H vs Q E hr h => h.elim
theorem ok_wording {kb i : Nat} {f : Addr} {fd : FuncData} (F : FnP K "_law_wording" "_law_wording" sWording [] f fd) (T : Bi mg) (hkb : 3 ≤ kb) (DStE : SpD P w K mg base CX0 1 Ce "__str__" (spEntStr Ce)) (Di : Df P w K mg base CX0 kb "_law_wording" [] (spWording Ce i)) : FnOk P w K mg base CX0 (kb + 1) f fd ["_law_tree_here", "_law_checks"] (spWording Ce (i + 1)) := by
  refine fnP_ok F scWording (wording_len (i + 1)) (fun cdv A outer s H vs Q E hr h => ?_)
  obtain ⟨G, v, l, g, ad, t, rfl, hd, sG, h1, ho, hck, hg, k⟩ := h
  have hr3 : Room kb (A.deeper (envOfC "_law_wording" (defScope sWording) s.heap.objs.size f cdv)) := hr
  have hu64 := hr.units
  refine ⟨_, (pss_cons (ps_if (PW.pt (pw_or (pt_cmpR q_isN (pv 0) pe_non (nomark _)) (pw_or1 (pt_cmpR (q_eq hu64) (pv 0) pe_str (nomark _))))) (pss_one (ps_ret (pe_ifExp (pt_cmpR q_isN (pv 0) pe_non (nomark _)) pe_str pe_str))) pss_nil)
        (pss_cons (ps_setLc (i := 2) (own := [("_law_branch", 3)]) (g := gName 3) (tt := tYes) rfl scWording.nd rfl rfl (sw_true rfl rfl rfl (by decide +kernel)) (pi_tup (pe_slice sl_tup (pv 0) (po_some pe_int) po_none)) (blkOk_by (own := [("_law_branch", 3)]) (N := nWording) (sc := defScope sWording) (by decide +kernel)) (fun _ _ _ _ _ => (pg_name (i := 3) scWording.nd rfl (by first | exact Or.inl rfl | exact Or.inr rfl))) (fun _ _ _ _ _ => pts_nil) (fun _ _ _ _ _ => (pe_callD Di hr pass0 (pa_cons (pv 3) (pa_cons (pv 1) pa_nil)) (hj := Nat.le_refl _))))
        (pss_one (ps_ret (pe_joinQ pe_str (pe_op q_add (pe_lst (pa_cons (pe_callTy (show CallR _ (.type "str") (rStrI Ce (spEntStr Ce) E0) from q_strD DStE (hr3.mono hkb) pass0) (by rfl) T.str (by decide +kernel) (pa_cons (pe_ix q_ix (pv 1) (pe_ix q_ix (pv 0) pe_int (fun _ _ => rfl)) (fun _ _ => rfl)) pa_nil)) pa_nil)) (pv 2))))))), ?_⟩
  have w0 := wd_pure sG
  walk_at "qq"
  rw [h1.non]
  cases t with
  | no =>
    refine iteT ?_
    walk_at "qq"
    rw [h1.non]
    refine iteT ?_
    walk_at "qq"
    exact ret_of k w0 rfl
  | done =>
    obtain rfl : v = .str zDone := h1
    refine iteF ?_
    walk_at "qq"
    refine ite_d (fun _ => ?_) (fun q => absurd rfl q)
    walk_at "qq"
    refine ite_d (fun q => by cases q) (fun _ => ?_)
    walk_at "qq"
    exact ret_of k w0 rfl
  | ask kx p ff =>
    obtain ⟨a, vp, vf, rfl, ha, hk3, hp, hf⟩ := id h1
    have ho : (Tr.ask kx p ff).ok i = true := ho
    obtain ⟨d, rfl⟩ : ∃ d, i = d + 1 := by
      cases i with
      | zero => cases ho
      | succ d => exact ⟨d, rfl⟩
    have hcond : ((p.isNo || p.ok d) && ((ff.isNo || ff.ok d) && !(p.isNo && ff.isNo))) = true := ho
    rw [Bool.and_eq_true, Bool.and_eq_true] at hcond
    have d1 : Dp K H (.ref a) (treeD (.ask kx p ff)) := same_dp sG.1 h1.dp
    refine iteF ?_
    walk_at "qq"
    refine r_eqD d1 (.str zDone) (treeD_shaped (d := d + 1) hd ho) shaped_done ⟨_, rfl, ?_⟩
    rw [treeD_done rfl]
    refine iteF ?_
    walk_at "qq"
    refine r_slT1 (SqT.of (w0.le _ _ ha)) ?_
    refine r_lay w0 (Nat.zero_le _) (by intro ps z; cases z) fun l2 G2 H2 n2 w2 s2 h2 t2 => ?_
    refine ⟨l2, rfl, ⟨_, SqT.of (w2.le _ _ h2)⟩, ?_⟩
    have hck2 := hck.same s2
    refine lc_go w2 (walk_tup (xs := [vp, vf])) (fun j acc Gy _ => acc = (([(p.map g).text, (ff.map g).text] : List Str).take j).map V.str) (fun _ _ _ _ _ => rfl) (fun _ _ Gi Hi wi si _ => wd_sqT wi (SqT.of (si _ _ h2))) ?_ ?_
    · rintro Dd j acc Gi H5 x5 H6 hj hl5 w5 s5 hD nm rfl ⟨rfl, hx⟩
      have hj2 : j < 2 := hj
      obtain ⟨t, ht, lt, ot⟩ : ∃ t : Tr Nat, ([(p.map g).text, (ff.map g).text] : List Str)[j]? = some (t.map g).text ∧ LtAt G t x5 ∧ t.okB d = true := by
        rcases (by omega : j = 0 ∨ j = 1) with rfl | rfl
        · cases hx
          exact ⟨p, rfl, hp, hcond.1⟩
        · cases hx
          exact ⟨ff, rfl, hf, hcond.2.1⟩
      walk_at "qq"
      refine u_wording w5 (lt.same (s2.trans s5)) (by omega) ot (hck2.same s5) hg fun G6 H7 w6 s6 t6 => ?_
      have hD6 := t6 _ _ hD
      walk_at "qq"
      rw [take_snoc ht, List.map_append]
      rfl
    · rintro l5 acc Gi G5 H5 hl5 w5 s5 s5' h5 rfl
      have h5 : G5 l5 = some (.lst [.str (p.map g).text, .str (ff.map g).text]) := h5
      obtain ⟨xs, hlx, hat, hen⟩ := (hck2.same s5).get hk3
      obtain ⟨re, dxe, fce, hie, _⟩ := id hen
      have ha5 := (s2.trans s5) _ _ ha
      walk_at "qq"
      refine r_strI (w5.le _ _ hie) (u_entStr w5 hen fun G6 H6 w6 s6 t6 => ⟨_, rfl, ?_⟩)
      walk_at "qq"
      rename_i l7 G7 H7 n7 w7 s7 h7 t7 l8 G8 H8 n8 w8 s8 h8 t8
      have rp := map_right hg (LtAt.lt3 hp)
      have rf := map_right hg (LtAt.lt3 hf)
      have subs : ∀ q : Tr Nat, q.okB d = true → (q.map g).isNo = true ∨ ∃ j, d + 1 = j + 1 ∧ (q.map g).ok j = true := fun q hq => by
        rw [Tr.isNo_map]
        rcases Bool.or_eq_true_iff.mp (show (q.isNo || q.ok d) = true from hq) with h | h
        · exact .inl h
        · exact .inr ⟨d, rfl, by rw [Tr.ok_map]; exact h⟩
      have l1 := (Tr.len_le rp (by omega : d + 1 ≤ 4) (subs p hcond.1)).1
      have l2 := (Tr.len_le rf (by omega : d + 1 ≤ 4) (subs ff hcond.2.1)).1
      have l3 := ent_len (hg kx hk3)
      have e1b : (Str.ofString " ").length = 1 := by decide +kernel
      refine r_joinL (ys := [ckText (g kx), (p.map g).text, (ff.map g).text]) (wd_sqL w8 (SqL.of h8)) ?_ (ret_of k w8 rfl)
      simp only [List.map_cons, List.map_nil, List.sum_cons, List.sum_nil, List.length_cons, List.length_nil]
      have : (ckText (g kx)).length ≤ 60 := l3
      omega
end
section
variable {P : Program} {w : World} {K : PySem.W.Frag} {mg : Str → Option Value} {base : Heap} {C Ce Ct : Addr}
abbrev nLTree : List Str := ["_law_pen_here", "_law_many", "_law_deep", "_law_left", "_law_right", "_law_way"]
theorem scLTree : FnScope nLTree ["_law_pen_here", "_law_many", "_law_deep"] (defScope sLTree) := ⟨rfl, rfl, rfl, by decide +kernel, rfl, by decide +kernel, by decide +kernel⟩
theorem lTree_len (i : Nat) : ∀ vs H Q E, spLTree i vs H Q E → vs.length = ["_law_pen_here", "_law_many", "_law_deep"].length := fun vs H Q E h => by
  cases i with
  | zero => exact h.elim
  | succ d =>
    obtain ⟨G, p, c, n, rfl, _⟩ := h
    rfl
theorem ok_lTree0 {f : Addr} {fd : FuncData} (F : FnP K "_law_tree" "_law_tree" sLTree [] f fd) : FnOk P w K mg base CX0 2 f fd ["_law_pen_here", "_law_many", "_law_deep"] (spLTree 0) :=
  fnP_ok F scLTree (lTree_len 0) fun cdv A outer s H vs Q E hr h => h.elim
theorem ok_lTree {kb i : Nat} {f : Addr} {fd : FuncData} (F : FnP K "_law_tree" "_law_tree" sLTree [] f fd) (hkb : 2 ≤ kb) (Dd : Df P w K mg base CX0 2 "_law_draw" [] spDraw) (Di : Df P w K mg base CX0 kb "_law_tree" [] (spLTree i)) :
    FnOk P w K mg base CX0 (kb + 1) f fd ["_law_pen_here", "_law_many", "_law_deep"] (spLTree (i + 1)) := by
  refine fnP_ok F scLTree (lTree_len (i + 1)) (fun cdv A outer s H vs Q E hr h => ?_)
  obtain ⟨G, p, c, n, rfl, hd, sG, gp, hc, hp, hn, k⟩ := h
  have hu64 := hr.units
  have hr2 := hr.mono hkb
  have w0 : Wd ⟨H, G, [p], []⟩ G H [p] := by
    obtain ⟨a, g, h1, _⟩ := id hp
    exact wd_start sG (fun a h => by rw [List.mem_singleton.mp h]; exact ⟨gp, _, h1, rfl⟩) (by simp)
  refine ⟨_, (pss_cons (ps_if (PW.pt (pw_or (pt_cmpR (q_eq hu64) (pv 2) pe_int (nomark _)) (pw_or1 (pt_cmpR (q_eq hu64) (pe_callD Dd hr2 pass0 (pa_cons (pv 0) (pa_cons pe_int pa_nil))) pe_int (nomark _))))) (pss_one (ps_ret pe_str)) pss_nil)
        (pss_cons (ps_par (i := 3) (j := 4) (by rfl) scLTree.nd rfl rfl (by decide) rfl rfl (pa_cons (pe_callD Di hr pass0 (pa_cons (pv 0) (pa_cons (pv 1) (pa_cons (pe_op q_sub (pv 2) pe_int) pa_nil))) (hj := Nat.le_refl _)) (pa_cons (pe_callD Di hr pass0 (pa_cons (pv 0) (pa_cons (pv 1) (pa_cons (pe_op q_sub (pv 2) pe_int) pa_nil))) (hj := Nat.le_refl _)) pa_nil)) (by rfl))
        (pss_cons (ps_set (i := 5) scLTree.nd rfl (Or.inl rfl) (pe_callD Dd hr2 pass0 (pa_cons (pv 0) (pa_cons pe_int pa_nil))))
        (pss_one (ps_ret (pe_tup (pa_cons (pe_callD Dd hr2 pass0 (pa_cons (pv 0) (pa_cons (pv 1) pa_nil))) (pa_cons (pe_ifExp (pt_cmpR (q_eq hu64) (pv 5) pe_int (nomark _)) pe_non (pv 3)) (pa_cons (pe_ifExp (pt_cmpR (q_eq hu64) (pv 5) pe_int (nomark _)) pe_non (pv 4)) pa_nil))))))))), ?_⟩
  walk_at "qq"
  cases i with
  | zero =>
    refine ite_d (fun _ => ?_) (fun q => absurd rfl q)
    walk_at "qq"
    exact retP_of k w0 (hp.more (by simp [costT])) ⟨.done, rfl, rfl⟩
  | succ d =>
    have ec := costT_succ d
    have c4 : 2 ^ d ≤ 16 := Nat.le_trans (Nat.pow_le_pow_right (by decide) (show d ≤ 4 by omega)) (by decide)
    have cd : costT d ≤ 48 := by unfold costT; omega
    refine ite_d (fun q => ?_) (fun _ => ?_)
    · exfalso
      have : ((d + 1 : Nat) : Int) = 0 := by injection q
      omega
    walk_at "qq"
    refine u_draw w0 (by simp) hc hp (by omega) (by decide) (by decide) fun d1 G1 H1 w1 s1 b1 P1 d10 d11 => ?_
    walk_at "qq"
    refine ite_d (fun _ => ?_) (fun _ => ?_)
    · walk_at "qq"
      exact retP_of k w1 (P1.more (by omega)) ⟨.done, rfl, rfl⟩
    walk_at "qq"
    refine u_lTree w1 (by simp) (hc.same s1) P1 (by omega) (by omega) (by omega) fun vl tl G2 H2 w2 s2 b2 P2 h2 o2 => ?_
    walk_at "qq"
    refine u_lTree w2 (by simp) (hc.same (s1.trans s2)) P2 (by omega) (by omega) (by omega) fun vr tr G3 H3 w3 s3 b3 P3 h3 o3 => ?_
    have hc3 := hc.same (s1.trans (s2.trans s3))
    walk_at "qq"
    refine u_draw w3 (by simp) hc3 P3 (by omega) (by decide) (by decide) fun d4 G4 H4 w4 s4 b4 P4 d40 d41 => ?_
    walk_at "qq"
    refine u_draw w4 (by simp) (hc3.same s4) P4 (by omega) (by decide) (by decide) fun d5 G5 H5 w5 s5 b5 P5 d50 d51 => ?_
    obtain ⟨kx, rfl⟩ := Int.eq_ofNat_of_zero_le d50
    have hk3 : kx < 3 := by omega
    have hl5 : LtAt G5 tl vl := h2.same (s3.trans (s4.trans s5))
    have hr5 : LtAt G5 tr vr := h3.same (s4.trans s5)
    have nl : tl.isNo = false := by
      cases tl with
      | no => cases d <;> cases o2
      | done => rfl
      | ask _ _ _ => rfl
    have nr : tr.isNo = false := by
      cases tr with
      | no => cases d <;> cases o3
      | done => rfl
      | ask _ _ _ => rfl
    have Pf := P5.more (m := n + costT (d + 1)) (by omega)
    walk_at "qq"
    refine ite_d (fun q0 => ?_) (fun q0 => ?_)
    · walk_at "qq"
      refine ite_d (fun q1 => ?_) (fun q1 => ?_)
      · exfalso
        have e0 : d4 = 0 := by injection q0
        have e1 : d4 = 1 := by injection q1
        omega
      walk_at "qq"
      rename_i l6 G6 H6 n6 w6 s6 h6 t6
      refine retP_of k w6 (Pf.same t6) ⟨.ask kx .no tr, ⟨l6, _, _, rfl, h6, hk3, rfl, hr5.same s6⟩, ?_⟩
      show (true && ((tr.isNo || tr.ok d) && !(true && tr.isNo))) = true
      rw [nr, o3]
      rfl
    · walk_at "qq"
      refine ite_d (fun q1 => ?_) (fun q1 => ?_)
      · walk_at "qq"
        rename_i l6 G6 H6 n6 w6 s6 h6 t6
        refine retP_of k w6 (Pf.same t6) ⟨.ask kx tl .no, ⟨l6, _, _, rfl, h6, hk3, hl5.same s6, rfl⟩, ?_⟩
        show ((tl.isNo || tl.ok d) && (true && !(tl.isNo && true))) = true
        rw [nl, o2]
        rfl
      · walk_at "qq"
        rename_i l6 G6 H6 n6 w6 s6 h6 t6
        refine retP_of k w6 (Pf.same t6) ⟨.ask kx tl tr, ⟨l6, _, _, rfl, h6, hk3, hl5.same s6, hr5.same s6⟩, ?_⟩
        show ((tl.isNo || tl.ok d) && ((tr.isNo || tr.ok d) && !(tl.isNo && tr.isNo))) = true
        rw [nl, nr, o2, o3]
        rfl
end
section
variable {P : Program} {w : World} {K : PySem.W.Frag} {mg : Str → Option Value} {base : Heap} {C Ce Cb : Addr}
abbrev nPlStr : List Str := ["self", "words", "branch"]
theorem scPlStr : FnScope nPlStr ["self"] (defScope sPlStr) := ⟨rfl, rfl, rfl, by decide +kernel, rfl, by decide +kernel, by decide +kernel⟩
theorem plStr_len (i : Nat) : ∀ vs H Q E, spPlStr C Ce i vs H Q E → vs.length = ["self"].length := fun vs H Q E h => by
  cases i with
  | zero => exact h.elim
  | succ d =>
    obtain ⟨G, v1, t, rfl, _⟩ := h
    rfl
theorem ok_plStr0 {f : Addr} {fd : FuncData} (F : FnP K "__str__" "Plan.__str__" sPlStr [] f fd) : FnOk P w K mg base CX0 1 f fd ["self"] (spPlStr C Ce 0) :=
  fnP_ok F scPlStr (plStr_len 0) fun cdv A outer s H vs Q E hr h => h.elim
theorem ok_plStr {ki i : Nat} {f : Addr} {fd : FuncData} (F : FnP K "__str__" "Plan.__str__" sPlStr [] f fd) (S : PlC K C) (hki : 1 ≤ ki) (T : Bi mg) (DStE : SpD P w K mg base CX0 1 Ce "__str__" (spEntStr Ce))
    (Di : SpD P w K mg base CX0 ki C "__str__" (spPlStr C Ce i)) : FnOk P w K mg base CX0 (ki + 2 + 1) f fd ["self"] (spPlStr C Ce (i + 1)) := by
  refine fnP_ok F scPlStr (plStr_len (i + 1)) (fun cdv A outer s H vs Q E hr h => ?_)
  obtain ⟨G, v1, t, rfl, hd, sG, h1, ho, hright, k⟩ := h
  have hu64 := hr.units
  have hr3 : Room 3 (A.deeper (envOfC "Plan.__str__" (defScope sPlStr) s.heap.objs.size f cdv)) := hr.mono (by omega)
  have cc := S.c
  have n1 := S.n1
  have n2 := S.n2
  have n3 := S.n3
  refine ⟨_, (pss_cons (ps_if (pt_cmpR q_isN (pe_fld (pv 0) rfl) pe_non (nomark _)) (pss_one (ps_ret pe_str)) pss_nil)
        (pss_cons (ps_setLc (i := 1) (own := [("branch", 2)]) (g := gName 2) (tt := tYes) rfl scPlStr.nd rfl rfl (sw_true rfl rfl rfl (by decide +kernel)) (pi_tup (pe_tup (pa_cons (pe_fld (pv 0) rfl) (pa_cons (pe_fld (pv 0) rfl) pa_nil)))) (blkOk_by (own := [("branch", 2)]) (N := nPlStr) (sc := defScope sPlStr) (by decide +kernel)) (fun _ _ _ _ _ => (pg_name (i := 2) scPlStr.nd rfl (by first | exact Or.inl rfl | exact Or.inr rfl))) (fun _ _ _ _ _ => pts_nil) (fun _ _ _ _ _ => (pe_ifExp (pt_cmpR q_isN (pv 2) pe_non (nomark _)) pe_str (pe_callTy (show CallR _ (.type "str") (rStrI C (spPlStr C Ce i) E0) from q_strD Di hr pass0 (Nat.le_refl _)) (by rfl) T.str (by decide +kernel) (pa_cons (pv 2) pa_nil)))))
        (pss_one (ps_ret (pe_joinQ pe_str (pe_lst (pa_cons (pe_callTy (show CallR _ (.type "str") (rStrI Ce (spEntStr Ce) E0) from q_strD DStE hr3 pass0) (by rfl) T.str (by decide +kernel) (pa_cons (pe_fld (pv 0) rfl) pa_nil)) (pa_starK (K := _) rfl (pv 1) pa_nil)))))))), ?_⟩
  have w0 := wd_pure sG
  cases t with
  | no => cases i <;> cases ho
  | done =>
    obtain ⟨a, dx, bl, el, rfl, ha, _⟩ := h1
    unfold planF at ha
    walk_at "qq"
    refine iteY (by first | rfl | decide) ?_
    walk_at "qq"
    exact ret_of k w0 rfl
  | ask c p ff =>
    obtain ⟨a, dx, bl, el, en, vp, vf, bs, es, rfl, ha, hbl, hel, hle, hen, hp, hf⟩ := id h1
    unfold planF at ha
    walk_at "qq"
    refine iteN (by first | rfl | decide) ?_
    walk_at "qq"
    rename_i l1 G1 H1 n1' w1 s1 h1' t1
    obtain ⟨rc, rp, rf⟩ := hright
    have subs := fun fst => (Tr.ask c p ff).sub_ok (i := i) fst ho
    have each : ∀ (j : Nat) (v : V), ([vp, vf] : List V)[j]? = some v → ∃ t : Tr Ck, ([p.text, ff.text] : List Str)[j]? = some t.text ∧ BrAt C Ce G t v ∧ t.right ∧ (t.isNo = true ∨ ∃ d, i = d + 1 ∧ t.ok d = true) := fun j v hv => by
      rcases j with _ | _ | j
      · cases (show some vp = some v from hv)
        exact ⟨p, rfl, hp, rp, subs true⟩
      · cases (show some vf = some v from hv)
        exact ⟨ff, rfl, hf, rf, subs false⟩
      · cases (show none = some v from hv)
    refine lc_go w1 (walk_tup (xs := [vp, vf])) (fun j acc _ _ => acc = (([p.text, ff.text] : List Str).take j).map V.str) (fun _ _ _ _ _ => rfl) (fun _ _ Gi Hi wi si _ => wd_sqT wi (SqT.of (si _ _ h1'))) ?_ ?_
    · rintro Dd j acc Gi H4 x4 H5 hj hl4 w4 s4 hD nm rfl ⟨rfl, hx⟩
      have hj2 : j < 2 := hj
      obtain ⟨t, htx, hbt, hrt, hot⟩ := each j x4 hx
      walk_at "qq"
      rw [hbt.non]
      rcases hot with hno | ⟨d, rfl, hok⟩
      · rw [hno]
        refine iteT ?_
        walk_at "qq"
        have et : t.text = Str.ofString "none" := by
          cases t with
          | no => rfl
          | done => cases hno
          | ask c p f => cases hno
        rw [take_snoc htx, List.map_append, et]
        rfl
      · have nn : t.isNo = false := by
          cases t with
          | no => cases d <;> cases hok
          | done => rfl
          | ask c p f => rfl
        rw [nn]
        refine iteF ?_
        obtain ⟨a4, dx4, u1, u2, u3, bl4, el4, es4, rfl, ha4, _⟩ := id (hbt.ins nn)
        walk_at "qq"
        refine r_strI (w4.le _ _ (s4 _ _ (s1 _ _ ha4))) (u_plStr w4 (hbt.same (s1.trans s4)) (by omega) hok hrt fun G6 H6 w6 s6 t6 => ⟨_, rfl, ?_⟩)
        have hD6 := t6 _ _ hD
        refine r_lcAdd w6 (s4.trans s6) hD6 hl4 (by omega) fun H7 w7 b7 => ?_
        rw [take_snoc htx, List.map_append]
        rfl
    · rintro l5 acc Gi G5 H5 hl5 w5 s5 s5' h5 rfl
      have hen5 := hen.same (s1.trans s5)
      have ha5 := w5.le _ _ (s5 _ _ (s1 _ _ ha))
      have h5 : G5 l5 = some (.lst [.str p.text, .str ff.text]) := h5
      obtain ⟨re, dxe, fce, hie, _⟩ := id hen5
      walk_at "qq"
      refine r_strI (w5.le _ _ hie) (u_entStr w5 hen5 fun G6 H6 w6 s6 t6 => ⟨_, rfl, ?_⟩)
      walk_at "qq"
      rename_i l7 G7 H7 n7 w7 s7 h7 t7
      have l1 := (Tr.len_le rp hd (subs true)).1
      have l2 := (Tr.len_le rf hd (subs false)).1
      have l3 := ent_len rc
      have e1b : (Str.ofString " ").length = 1 := by decide +kernel
      refine r_joinL (ys := [ckText c, p.text, ff.text]) (wd_sqL w7 (SqL.of h7)) ?_ (ret_of k w7 rfl)
      simp only [List.map_cons, List.map_nil, List.sum_cons, List.sum_nil, List.length_cons, List.length_nil]
      have : (ckText c).length ≤ 60 := l3
      omega
end
section
variable {P : Program} {w : World} {K : PySem.W.Frag} {mg : Str → Option Value} {base : Heap} {C Ce Cb : Addr}
abbrev nPartsR : List Str := ["_law_made", "_law_tree_here", "_law_checks", "_law_branch", "_law_below"]
theorem scPartsR : FnScope nPartsR ["_law_made", "_law_tree_here", "_law_checks"] (defScope sPartsR) := ⟨rfl, rfl, rfl, by decide +kernel, rfl, by decide +kernel, by decide +kernel⟩
theorem partsR_len (i : Nat) : ∀ vs H Q E, spPartsR C Ce i vs H Q E → vs.length = ["_law_made", "_law_tree_here", "_law_checks"].length := fun vs H Q E h => by
  cases i with
  | zero => exact h.elim
  | succ d =>
    obtain ⟨G, v, tv, l, g, ad, t, rfl, _⟩ := h
    rfl
theorem ok_partsR0 {f : Addr} {fd : FuncData} (F : FnP K "_law_parts_right" "_law_parts_right" sPartsR [] f fd) : FnOk P w K mg base CX0 3 f fd ["_law_made", "_law_tree_here", "_law_checks"] (spPartsR C Ce 0) :=
  fnP_ok F scPartsR (partsR_len 0) fun cdv A outer s H vs Q E hr h => h.elim
theorem ok_partsR {kb i : Nat} {f : Addr} {fd : FuncData} (F : FnP K "_law_parts_right" "_law_parts_right" sPartsR [] f fd) (T : Bi mg) (hkb : 3 ≤ kb) (S : PlC K C) (Se : EnC K Ce) (hneE : PySem.W.findIn K (.ref Ce) "__ne__" = some (some (.builtin "object.__ne__"))) (DeqE : SpD P w K mg base CX0 1 Ce "__eq__" (spEntEq Ce))
    (Dp1 : PrD P w K mg base CX0 1 C "passed" (spPlFld C true)) (Dp2 : PrD P w K mg base CX0 1 C "failed" (spPlFld C false)) (Di : Df P w K mg base CX0 kb "_law_parts_right" [] (spPartsR C Ce i)) : FnOk P w K mg base CX0 (kb + 1) f fd ["_law_made", "_law_tree_here", "_law_checks"] (spPartsR C Ce (i + 1)) := by
  refine fnP_ok F scPartsR (partsR_len (i + 1)) (fun cdv A outer s H vs Q E hr h => ?_)
  obtain ⟨G, v, tv, l, g, ad, t, rfl, hd, sG, h1, ho, hck, he, k⟩ := h
  have hu64 := hr.units
  have hr3 := hr.mono hkb
  have cmE := Se.cm
  have cc := S.c
  have n1 := S.n1
  refine ⟨_, (pss_cons (ps_if (pt_cmpR (q_eq hu64) (pv 1) pe_str (nomark _)) (pss_one (ps_ret (pe_and (pe_cmpR q_isN (pe_fld (pv 0) rfl) pe_non (nomark _)) (pe_and (pe_cmpR q_isN (pe_propD (pv 0) Dp1 hr3 pass0) pe_non (nomark _)) (pe_one (pe_cmpR q_isN (pe_propD (pv 0) Dp2 hr3 pass0) pe_non (nomark _))))))) pss_nil)
        (pss_cons (ps_if (pt_cmpR (show OpR _ (compareOp .NotEq) (rNeI K Ce (spEntEq Ce) E0) from q_neD hneE cmE DeqE hr3 pass0) (pe_fld (pv 0) rfl) (pe_ix q_ix (pv 2) (pe_ix q_ix (pv 1) pe_int (fun _ _ => rfl)) (fun _ _ => rfl)) (nomark _)) (pss_one (ps_ret pe_bl)) pss_nil)
        (pss_cons (ps_for PassesOwn.never rfl (pi_list (pe_lst (pa_cons (pe_tup (pa_cons (pe_propD (pv 0) Dp1 hr3 pass0) (pa_cons (pe_ix q_ix (pv 1) pe_int (fun _ _ => rfl)) pa_nil))) (pa_cons (pe_tup (pa_cons (pe_propD (pv 0) Dp2 hr3 pass0) (pa_cons (pe_ix q_ix (pv 1) pe_int (fun _ _ => rfl)) pa_nil))) pa_nil)))) (pg_tup rfl (pgs_cons (pg_name (i := 3) scPartsR.nd rfl (Or.inl rfl)) (pgs_cons (pg_name (i := 4) scPartsR.nd rfl (Or.inl rfl)) pgs_nil))) (pss_cons (ps_if (pt_cmpR (q_ne hu64) (pe_cmpR q_isN (pv 3) pe_non (nomark _)) (pe_cmpR q_isN (pv 4) pe_non (nomark _)) (nomark _)) (pss_one (ps_ret pe_bl)) pss_nil)
        (pss_one (ps_if (PW.pt (pw_and (pt_cmpR q_notN (pv 3) pe_non (nomark _)) (pw_and1 (pt_not (pt_val (pe_callD Di hr pass0 (pa_cons (pv 3) (pa_cons (pv 4) (pa_cons (pv 2) pa_nil))) (hj := Nat.le_refl _))))))) (pss_one (ps_ret pe_bl)) pss_nil))))
        (pss_one (ps_ret pe_bl))))), ?_⟩
  have w0 := wd_pure sG
  cases t with
  | no => cases i <;> cases ho
  | done =>
    obtain rfl : tv = .str zDone := h1
    obtain ⟨a, dx, bl, el, rfl, ha⟩ := id he
    have hpv : PlanV C G (.ref a) .non .non .non := he
    unfold planF at ha
    walk_at "qq"
    refine ite_d (fun _ => ?_) (fun h => absurd rfl h)
    walk_at "qq"
    refine ite_d (fun _ => ?_) (fun h => absurd rfl h)
    walk_at "qq"
    refine u_plFld w0 hpv fun G1 H1 w1 s1 t1 => ?_
    walk_at "qq"
    refine ite_d (fun _ => ?_) (fun h => absurd rfl h)
    walk_at "qq"
    refine u_plFld w1 (hpv.same s1) fun G2 H2 w2 s2 t2 => ?_
    walk_at "qq"
    exact ret_of k w2 rfl
  | ask kx p ff =>
    obtain ⟨ta, vtp, vtf, rfl, hta, hk3, htp, htf⟩ := id h1
    obtain ⟨vp, vf, hpv, hep, hef⟩ := he
    obtain ⟨a, dx, bl, el, rfl, ha⟩ := id hpv
    unfold planF at ha
    obtain ⟨d, rfl⟩ : ∃ d, i = d + 1 := by
      cases i with
      | zero => cases ho
      | succ d => exact ⟨d, rfl⟩
    have hcond : ((p.isNo || p.ok d) && ((ff.isNo || ff.ok d) && !(p.isNo && ff.isNo))) = true := ho
    rw [Bool.and_eq_true, Bool.and_eq_true] at hcond
    have d1 : Dp K H (.ref ta) (treeD (.ask kx p ff)) := same_dp sG.1 h1.dp
    obtain ⟨xs, hlx, hat, hen⟩ := hck.get hk3
    obtain ⟨re, dxe, fce, hie, _⟩ := id hen
    have a1 : atI [V.int (kx : Int), vtp, vtf] 1 = some vtp := rfl
    have a2 : atI [V.int (kx : Int), vtp, vtf] 2 = some vtf := rfl
    walk_at "qq"
    refine r_eqD d1 (.str zDone) (treeD_shaped (d := d + 1) hd ho) shaped_done ⟨_, rfl, ?_⟩
    rw [treeD_done rfl]
    refine iteF ?_
    walk_at "qq"
    refine r_neI (w0.le _ _ hie) (same_ty w0.le (Se.ty hen)) Se.fme (u_entEq w0 hen hen fun G1 H1 w1 s1 t1 => ⟨true, rfl, _, rfl, ?_⟩)
    refine iteF ?_
    have ha1 := s1 _ _ ha
    have hta1 := s1 _ _ hta
    walk_at "qq"
    refine u_plFld w1 (hpv.same s1) fun G2 H2 w2 s2 t2 => ?_
    have hta2 := s2 _ _ hta1
    walk_at "qq"
    rename_i l3 G3 H3 n3 w3 s3 h3 t3
    have h3 : G3 l3 = some (.tup [vp, vtp]) := h3
    have hta3 := s3 _ _ hta2
    refine u_plFld w3 (hpv.same (s1.trans (s2.trans s3))) fun G4 H4 w4 s4 t4 => ?_
    have hta4 := s4 _ _ hta3
    walk_at "qq"
    rename_i l5 G5 H5 n5 w5 s5 h5 t5 l6 G6 H6 n6 w6 s6 h6 t6
    have h5 : G5 l5 = some (.tup [vf, vtf]) := h5
    have S6 := s1.trans (s2.trans (s3.trans (s4.trans (s5.trans s6))))
    have h36 : G6 l3 = _ := s6 _ _ (s5 _ _ (s4 _ _ h3))
    have h56 : G6 l5 = _ := s6 _ _ h5
    have hck6 := hck.same S6
    refine for_go (walk_list (xs := [V.ref l3, V.ref l5])) (fun j σ Hx => ∃ (Gi : Hp) (y3 y4 : Option V), σ = [some (.ref a), some (.ref ta), some (.ref l), y3, y4] ∧ Wd ⟨H, G, [], []⟩ Gi Hx [] ∧ Same G6 Gi)
      ⟨G6, _, _, rfl, w6, Same.refl _⟩ (fun i σ Hx _ ⟨Gi, _, _, _, wi, si⟩ => wd_sqL wi (SqL.of (si _ _ h6))) ?_ ?_
    · rintro j xj σ Ha Hb hj ⟨Gi, y3, y4, rfl, wi, si⟩ ⟨rfl, hx⟩
      obtain ⟨lt, bv, btv, q, rfl, hlt, hq, hqt, oq⟩ : ∃ (lt : Addr) (bv btv : V) (q : Tr Nat), xj = .ref lt ∧ G6 lt = some (.tup [bv, btv]) ∧ EnsAt C G6 (q.map ad) bv ∧ LtAt G6 q btv ∧ (q.isNo || q.ok d) = true := by
        have hj2 : j < 2 := hj
        rcases (by omega : j = 0 ∨ j = 1) with rfl | rfl
        · cases hx
          exact ⟨l3, vp, vtp, p, rfl, h36, hep.same S6, htp.same S6, hcond.1⟩
        · cases hx
          exact ⟨l5, vf, vtf, ff, rfl, h56, hef.same S6, htf.same S6, hcond.2.1⟩
      have hlti := si _ _ hlt
      have e1 := (hq.same si).non
      have e2 := (hqt.same si).non
      rw [Tr.isNo_map] at e1
      walk_at "qq"
      refine ite_nd (fun h => absurd (by rw [e1, e2]) h) (fun _ => ?_)
      walk_at "qq"
      cases hn : q.isNo with
      | true =>
        rw [hn] at e1
        refine ite_nd (fun h => absurd (of_decide_eq_true e1) h) (fun _ => ?_)
        walk_at "qq"
        exact ⟨Gi, _, _, rfl, wi, si⟩
      | false =>
        rw [hn] at e1 oq
        refine ite_nd (fun _ => ?_) (fun h => absurd h (of_decide_eq_false e1))
        walk_at "qq"
        refine u_partsR wi (hqt.same si) (by omega) oq (hck6.same si) (hq.same si) fun G7 H7 w7 s7 t7 => ?_
        walk_at "qq"
        exact ⟨G7, _, _, rfl, w7, si.trans s7⟩
    · rintro σ Ha ⟨Gi, y3, y4, rfl, wi, si⟩
      walk_at "qq"
      exact ret_of k wi rfl
end
section
variable {P : Program} {w : World} {K : PySem.W.Frag} {mg : Str → Option Value} {base : Heap} {C Ce Cb : Addr}
abbrev nPlEq : List Str := ["self", "other"]
theorem scPlEq : FnScope nPlEq ["self", "other"] (defScope sPlEq) := ⟨rfl, rfl, rfl, by decide +kernel, rfl, by decide +kernel, by decide +kernel⟩
theorem plEqX_len (i : Nat) : ∀ vs H Q E, spPlEqX K C Ce i vs H Q E → vs.length = ["self", "other"].length := fun vs H Q E h => by
  cases i with
  | zero => exact h.elim
  | succ d =>
    obtain ⟨G, v, y, t, r, rfl, _⟩ := h
    rfl
theorem ok_plEqX0 {f : Addr} {fd : FuncData} (F : FnP K "__eq__" "Plan.__eq__" sPlEq [] f fd) : FnOk P w K mg base CX0 2 f fd ["self", "other"] (spPlEqX K C Ce 0) :=
  fnP_ok F scPlEq (plEqX_len 0) fun cdv A outer s H vs Q E hr h => h.elim
theorem ok_plEqX {kb i : Nat} {f : Addr} {fd : FuncData} (F : FnP K "__eq__" "Plan.__eq__" sPlEq [] f fd) (T : Bi mg) (S : PlC K C) (Se : EnC K Ce) (hPl : Gc mg "Plan" (.ref C)) (hkb : 2 ≤ kb)
    (hkE : PySem.W.mroIn K Ce (.type "NoneType") = some false) (hkP : PySem.W.mroIn K C (.type "NoneType") = some false) (knE : PySem.W.kitOne K (.type "NoneType") (.ref Ce) = some false) (knP : PySem.W.kitOne K (.type "NoneType") (.ref C) = some false)
    (nfE : PySem.W.notFirst K Ce (.type "NoneType") = true) (nfP : PySem.W.notFirst K C (.type "NoneType") = true) (hneE : PySem.W.findIn K (.ref Ce) "__ne__" = some (some (.builtin "object.__ne__")))
    (DeqE : SpD P w K mg base CX0 1 Ce "__eq__" (spEntEqX K Ce)) (Dp1 : PrD P w K mg base CX0 1 C "passed" (spPlFld C true)) (Dp2 : PrD P w K mg base CX0 1 C "failed" (spPlFld C false))
    (Di : SpD P w K mg base CX0 kb C "__eq__" (spPlEqX K C Ce i)) : FnOk P w K mg base CX0 (kb + 1) f fd ["self", "other"] (spPlEqX K C Ce (i + 1)) := by
  refine fnP_ok F scPlEq (plEqX_len (i + 1)) (fun cdv A outer s H vs Q E hr h => ?_)
  obtain ⟨G, v1, y, t, r, rfl, hd, sG, h1, ho, hy, k⟩ := h
  have hu64 := hr.units
  have hr2 := hr.mono hkb
  have cmE := Se.cm
  have cc := S.c
  have n1 := S.n1
  refine ⟨_, (pss_cons (ps_if (PW.pt (pw_or (pt_not (pt_val (pe_callB call_isi (by rfl) T.isinstance (by decide +kernel) (pa_cons (pv 1) (pa_cons (pe_gc hPl) pa_nil))))) (pw_or1 (pt_cmpR (q_neP (E := E0) hu64 hkE hneE cmE DeqE hr2 pass0) (pe_fld (pv 0) rfl) (pe_fld (pv 1) rfl) (nomark _))))) (pss_one (ps_ret pe_bl)) pss_nil)
        (pss_one (ps_ret (pe_and (pe_cmpR (q_eqP (E := E0) hu64 hkP Di hr pass0 (Nat.le_refl _)) (pe_propD (pv 0) Dp1 hr2 pass0) (pe_propD (pv 1) Dp1 hr2 pass0) (nomark _)) (pe_one (pe_cmpR (q_eqP (E := E0) hu64 hkP Di hr pass0 (Nat.le_refl _)) (pe_propD (pv 0) Dp2 hr2 pass0) (pe_propD (pv 1) Dp2 hr2 pass0) (nomark _))))))), ?_⟩
  have w0 := wd_pure sG
  rcases hy with ⟨u, ht, hk, rfl⟩ | ⟨t2, h2, ho2, rfl⟩
  · have ht1 := same_ty sG.1 ht
    walk_at "qq"
    exact ret_of k w0 rfl
  have hk := S.me
  have nn := ok_no ho
  have nn2 := ok_no ho2
  obtain ⟨u1, u2, u3, pv1, en1, q1, q2⟩ := h1.parts nn
  obtain ⟨w1', w2', w3', pv2, en2, q3, q4⟩ := h2.parts nn2
  obtain ⟨a1, dx1, bl1, el1, rfl, ha1⟩ := id pv1
  obtain ⟨a2, dx2, bl2, el2, rfl, ha2⟩ := id pv2
  have ty2 := same_ty sG.1 (S.ty ha2)
  unfold planF at ha1 ha2
  rw [Tr.eq_parts nn nn2] at k
  walk_at "qq"
  refine neE_go w0 Se knE nfE en1 en2 fun G1 H1 w1 s1 t1 => ⟨_, rfl, ?_⟩
  cases c1 : decide (t.ent = t2.ent) with
  | false =>
    rw [c1] at k
    refine iteY (by first | rfl | decide) ?_
    walk_at "qq"
    exact ret_of k w1 rfl
  | true =>
    rw [c1] at k
    refine iteN (by first | rfl | decide) ?_
    walk_at "qq"
    refine u_plFld w1 (pv1.same s1) fun G2 H2 w2 s2 t2' => ?_
    walk_at "qq"
    refine u_plFld w2 (pv2.same (s1.trans s2)) fun G3 H3 w3 s3 t3 => ?_
    have S3 := s1.trans (s2.trans s3)
    refine eqP_go w3 S knP nfP (by omega) (q1.same S3) (q3.same S3) (t.sub_ok true ho) (t2.sub_ok true ho2) fun G4 H4 w4 s4 t4 => ?_
    have S4 := S3.trans s4
    cases c2 : (t.sub true).same (t2.sub true) with
    | false =>
      rw [c2] at k
      refine ⟨false, rfl, iteF ?_⟩
      exact ret_of k w4 rfl
    | true =>
      rw [c2] at k
      refine ⟨true, rfl, iteT ?_⟩
      have pa1 := pv1.same S4
      have pa2 := pv2.same S4
      obtain ⟨x1, dx1', bl1', el1', e1, ha14⟩ := id pa1
      obtain ⟨x2, dx2', bl2', el2', e2, ha24⟩ := id pa2
      cases e1
      cases e2
      have ha14' := w4.le _ _ ha14
      have ha24' := w4.le _ _ ha24
      walk_at "qq"
      refine u_plFld w4 pa1 fun G5 H5 w5 s5 t5 => ?_
      walk_at "qq"
      have ha25' := t5 _ _ ha24'
      walk_at "qq"
      refine u_plFld w5 (pa2.same s5) fun G6 H6 w6 s6 t6 => ?_
      have S6 := S4.trans (s5.trans s6)
      refine eqP_go w6 S knP nfP (by omega) (q2.same S6) (q4.same S6) (t.sub_ok false ho) (t2.sub_ok false ho2) fun G7 H7 w7 s7 t7 => ?_
      exact ret_of k w7 (by rw [Bool.true_and, Bool.true_and])
end
section
variable {P : Program} {w : World} {K : PySem.W.Frag} {mg : Str → Option Value} {base : Heap} {C Ce Cb : Addr}
abbrev nPlayed : List Str := ["_law_tree_here", "_law_said", "_law_found", "_law_word", "_law_branch"]
theorem scPlayed : FnScope nPlayed ["_law_tree_here", "_law_said"] (defScope sPlayed) := ⟨rfl, rfl, rfl, by decide +kernel, rfl, by decide +kernel, by decide +kernel⟩
theorem ok_played {f : Addr} {fd : FuncData} (F : FnP K "_law_played" "_law_played" sPlayed [] f fd) (T : Bi mg) : FnOk P w K mg base CX0 1 f fd ["_law_tree_here", "_law_said"] (spPlayed K) := by
  refine fnP_ok F scPlayed (fun vs H Q E h => ?_) (fun cdv A outer s H vs Q E hr h => ?_)
  · obtain ⟨G, tv, ls, t, ws, rfl, _⟩ := h
    rfl
  · obtain ⟨G, tv, ls, t, ws, rfl, sG, ht, ho, hs, k⟩ := h
    have hu64 := hr.units
    have hd4 := ok_deep 4 t (by unfold Tr.okB; rw [ho, Bool.or_true])
    refine ⟨_, (pss_cons (ps_set (i := 2) scPlayed.nd rfl (Or.inl rfl) (pe_lstM pa_nil))
        (pss_cons (ps_while PassesOwn.never (pt_cmpR (q_ne hu64) (pv 0) pe_str (nomark _)) (pss_cons (ps_set (i := 3) scPlayed.nd rfl (Or.inl rfl) (pe_ix q_ix (pv 1) (pe_callB q_len (by rfl) T.len (by decide +kernel) (pa_cons (pv 2) pa_nil)) (fun _ _ => rfl)))
        (pss_cons (ps_set (i := 4) scPlayed.nd rfl (Or.inl rfl) pe_non)
        (Evl.pss_cut (ps_if (pt_cmpR (q_inW hu64) (pv 3) (pe_tup (pa_cons pe_str (pa_cons pe_str pa_nil))) (by rfl)) (pss_one (ps_set (i := 4) scPlayed.nd rfl (Or.inl rfl) (pe_ix q_ix (pv 0) (pe_op q_add pe_int (pe_callTy q_int (by rfl) T.int (by decide +kernel) (pa_cons (pe_cmpR (q_eq hu64) (pv 3) pe_str (nomark _)) pa_nil))) (fun _ _ => rfl)))) pss_nil)
        (pss_cons (ps_if (pt_cmpR q_isN (pv 4) pe_non (nomark _)) (pss_one (ps_ret (pe_tup (pa_cons (pv 2) (pa_cons (pe_callB q_len (by rfl) T.len (by decide +kernel) (pa_cons (pv 2) pa_nil)) pa_nil))))) pss_nil)
        (pss_cons (ps_expr (pe_bm PySem.F.plainAttrs_list PySem.F.slot_list_append PySem.F.type_list_append mt_append (pv 2) (pa_cons (pe_tup (pa_cons (pe_ix q_ix (pv 0) pe_int (fun _ _ => rfl)) (pa_cons (pv 3) pa_nil))) pa_nil)))
        (pss_one (ps_set (i := 0) scPlayed.nd rfl (Or.inl rfl) (pv 4)))))))))
        (pss_one (ps_ret (pe_tup (pa_cons (pv 2) (pa_cons pe_non pa_nil))))))), ?_⟩
    have w0 := wd_pure sG
    walk_at "qq"
    rename_i fl H1 n1' w1 h1 s1 d1
    refine while_go (fun m σ Hx => ∃ (Gi : Hp) (hv : V) (y4 y5 : Option V) (t' : Tr Nat) (d' : Nat) (r0 : List (Nat × V)) (xs : List V), σ = [some hv, some (.ref ls), some (.ref fl), y4, y5] ∧ Wd ⟨H, G, [], []⟩ Gi Hx [fl] ∧ Same G Gi ∧ LtAt Gi t' hv ∧ t'.ok d' = true ∧ d' = m ∧
        Hx fl = some (.lst xs) ∧ PwAt Gi xs r0 ∧ plE (wOf ws) t 0 = (r0 ++ (plE (wOf ws) t' r0.length).1, (plE (wOf ws) t' r0.length).2) ∧ r0.length + m ≤ 4) 4
      ⟨G, _, _, _, t, 4, [], [], rfl, w1, Same.refl _, ht, ho, rfl, h1, .nil, rfl, by simp⟩ ?_ ?_
    · rintro m σ Hx ⟨Gi, hv, y4, y5, t', d', r0, xs, rfl, wi, si, hi, hn, rfl, hfl, hxs, hpl, hm⟩
      have lx := Paired.length hxs
      have hnn := ok_no hn
      have dt : Dp K Hx hv (treeD t') := same_dp wi.le hi.dp
      have hd4' : d' ≤ 4 := by omega
      have sd := treeD_shaped (d := d') hd4' (by unfold Tr.okB; rw [hn, Bool.or_true])
      have hcmp := treeD_done hnn
      have hsi := hs.same si
      have hws := hsi.at_
      have hwl := hsi.len
      walk_at "qq"
      refine r_neD dt (.str zDone) sd shaped_done ⟨_, rfl, ?_⟩
      rw [hcmp]
      cases t' with
      | no => cases hnn
      | done =>
        refine iteF ?_
        walk_at "qq"
        rename_i l2 G2 H2 n2 w2 s2 h2 t2
        obtain ⟨w3, s3⟩ := wd_freeze w2 (t2 _ _ hfl) n1'
        refine ret_of k w3 ⟨l2, fl, xs, rfl, s3 _ _ (by rw [hpl]; exact h2), upd_same, ?_⟩
        rw [hpl, show (plE (wOf ws) Tr.done r0.length).1 = [] from rfl, List.append_nil]
        exact hxs.same (s2.trans s3)
      | ask kx p ff =>
        refine iteT ?_
        obtain ⟨ta, vp, vf, rfl, hta, hk3, hp, hf⟩ := id hi
        have a1 : atI [V.int (kx : Int), vp, vf] 1 = some vp := rfl
        have a2 : atI [V.int (kx : Int), vp, vf] 2 = some vf := rfl
        obtain ⟨d1', rfl⟩ : ∃ d, d' = d + 1 := by
          cases d' with
          | zero => cases hn
          | succ d => exact ⟨d, rfl⟩
        have hcond : ((p.isNo || p.ok d1') && ((ff.isNo || ff.ok d1') && !(p.isNo && ff.isNo))) = true := hn
        rw [Bool.and_eq_true, Bool.and_eq_true] at hcond
        have hlt : r0.length < ws.length := by omega
        obtain ⟨wd, hwd⟩ : ∃ v, ws[r0.length]? = some v := ⟨_, List.getElem?_eq_getElem hlt⟩
        have hat : atI ws ((xs.length : Nat) : Int) = some wd := by rw [lx]; exact atI_nat hwd
        have eW : wOf ws r0.length = wd := by unfold wOf; rw [hwd]; rfl
        have hwv := hsi.wd wd (List.mem_of_getElem? hwd)
        walk_at "qq"
        refine ⟨fun σ' H' => ∃ (Gc : Hp) (bv : V), σ' = [some (.ref ta), some (.ref ls), some (.ref fl), some wd, some bv] ∧ Wd ⟨H, G, [], []⟩ Gc H' [fl] ∧ Same Gi Gc ∧ H' fl = some (.lst xs) ∧ LtAt Gc (nextT wd p ff) bv, ?_, ?_⟩
        · walk_at "qq"
          rename_i l2 G2 H2 n2 w2 s2 h2 t2
          have hfl2 := t2 _ _ hfl
          refine r_inW (ys := [zPass, zFail]) (SqT.of (w2.le _ _ h2)) ((hwv.same s2).same w2.le) ?_
          refine ⟨_, rfl, ?_⟩
          by_cases c1 : wd = .str zPass
          · subst c1
            refine iteY (by decide +kernel) ?_
            have hta2 := s2 _ _ hta
            walk_at "qq"
            refine ⟨G2, vp, rfl, w2, s2, hfl2, ?_⟩
            unfold nextT
            rw [if_pos rfl]
            exact hp.same s2
          · by_cases c2 : wd = .str zFail
            · subst c2
              refine iteY (by decide +kernel) ?_
              have hta2 := s2 _ _ hta
              walk_at "qq"
              refine ⟨G2, vf, rfl, w2, s2, hfl2, ?_⟩
              unfold nextT
              rw [if_neg (by decide +kernel), if_pos rfl]
              exact hf.same s2
            · refine iteN (by simp only [List.map_cons, List.map_nil, List.mem_cons, List.not_mem_nil, or_false, decide_eq_false_iff_not, not_or]; exact ⟨c1, c2⟩) ?_
              walk_at "qq"
              refine ⟨G2, .non, rfl, w2, s2, hfl2, ?_⟩
              unfold nextT
              rw [if_neg c1, if_neg c2]
              rfl
        · rintro σ' H' ⟨Gc, bv, rfl, wc, sc, hflc, hbv⟩
          have ebv := hbv.non
          have hask := plE_ask (wOf ws) kx p ff r0.length
          rw [eW] at hask
          have htac := sc _ _ hta
          walk_at "qq"
          rw [ebv]
          cases hno : (nextT wd p ff).isNo with
          | true =>
            rw [hno, if_pos rfl] at hask
            refine iteY (by first | rfl | decide) ?_
            walk_at "qq"
            rename_i l3 G3 H3 n3 w3 s3 h3 t3
            obtain ⟨w4, s4⟩ := wd_freeze w3 (t3 _ _ hflc) n1'
            rw [hask] at hpl
            refine ret_of k w4 ⟨l3, fl, xs, rfl, s4 _ _ (by rw [hpl, ← lx]; exact h3), upd_same, ?_⟩
            rw [hpl, show r0 ++ (([] : List (Nat × V)), some (r0.length, kx)).1 = r0 from List.append_nil r0]
            exact hxs.same (sc.trans (s3.trans s4))
          | false =>
            rw [hno, if_neg (by decide)] at hask
            refine iteN (by first | rfl | decide) ?_
            walk_at "qq"
            rename_i lT GT HT nT wT sT hT tT HU wU hU bU
            refine ⟨d1', by omega, GT, _, _, _, nextT wd p ff, d1', r0 ++ [(kx, wd)], xs ++ [.ref lT], rfl, wU, si.trans (sc.trans sT), hbv.same sT, ?_, rfl, hU, ?_, ?_, ?_⟩
            · unfold nextT at hno ⊢
              split
              · rename_i c
                rw [if_pos c] at hno
                have := hcond.1
                rw [hno] at this
                exact this
              · split
                · rename_i c1 c2
                  rw [if_neg c1, if_pos c2] at hno
                  have := hcond.2.1
                  rw [hno] at this
                  exact this
                · rename_i c1 c2
                  rw [if_neg c1, if_neg c2] at hno
                  cases hno
            · exact paired_snoc (hxs.same (sc.trans sT)) ⟨lT, rfl, hT⟩
            · rw [hpl, hask, List.length_append, List.append_assoc]
              rfl
            · rw [List.length_append, List.length_singleton]
              omega
    · rintro σ H Q Q' hq ⟨x, h1, h2⟩
      refine ⟨x, h1, ?_⟩
      rcases h2 with ⟨a, b, e, c⟩ | ⟨d, e, a1, a2, a3, a4, b, f, c⟩
      · exact .inl ⟨a, b, e, hq _ _ c⟩
      · exact .inr ⟨d, e, a1, a2, a3, a4, b, f, hq _ _ c⟩
end
section
variable {P : Program} {w : World} {K : PySem.W.Frag} {mg : Str → Option Value} {base : Heap} {C Ce Cb : Addr}
abbrev nPlayR : List Str := ["_law_pen_here", "_law_made", "_law_tree_here", "_law_checks", "_law_odd", "_law_heard_here", "_law_pairs", "_law_wrong", "_law_due", "_law_said", "_law_seen", "_law_k", "_law_at", "_law_word", "_law_check"]
theorem scPlayR : FnScope nPlayR ["_law_pen_here", "_law_made", "_law_tree_here", "_law_checks"] (defScope sPlayR) := ⟨rfl, rfl, rfl, by decide +kernel, rfl, by decide +kernel, by decide +kernel⟩
abbrev qPlayR : Str := (envOfC "_law_play_right" (defScope sPlayR) 0 0 .none).qual ++ ("<lambda>" : Str)
abbrev qIn : Str := (PySem.W.envX qPlayR (defScope sPlayR) 0 0 .none []).qual ++ ("<lambda>" : Str)
/-- the scope of the first lambda that is handed on -/
def lamSc : List Stmt → Scope
  | .Assign _ (.Call _ [.Lambda _ _ sc _] _ _) _ :: _ => sc
  | _ :: r => lamSc r
  | [] => defScope (.Pass ⟨0, 0, 0, 0⟩)
/-- .. of the one in it -/
def lamIn : List Stmt → Scope
  | .Assign _ (.Call _ [.Lambda _ (.Call _ [.Lambda _ _ sc _] _ _) _ _] _ _) _ :: _ => sc
  | _ :: r => lamIn r
  | [] => defScope (.Pass ⟨0, 0, 0, 0⟩)
theorem idx14 : ∀ i, nPlayR[i]? = some ("_law_check" : Str) → i = 14 := fun i h => by
  have hi : i < 15 := (List.getElem?_eq_some_iff.mp h).1
  revert h
  revert i
  decide +kernel
section
variable {Ps : List Addr} {L : List (Addr × Str)} {P1 p c l : Addr} {q1 qi : Str} {H H' : Hp} {n : Nat} {xs : List V}
theorem lst_code {c q P} : (HO.lst xs) ≠ CodeT c q P := fun z => by
  unfold CodeT at z
  cases z
theorem tbs_same (h : Tbs Ps L P1 q1 qi H) (s : Same H H') : Tbs Ps L P1 q1 qi H' := h.same fun b o e _ => s _ _ e
theorem tbs_lst (h : Tbs Ps L P1 q1 qi H) (hl : H l = some (.lst xs)) (b : But l H H') : Tbs Ps L P1 q1 qi H' := h.but b hl (by intro ps z; cases z) (fun _ _ _ => lst_code)
theorem tbs_pen (h : Tbs Ps L P1 q1 qi H) (P : PenAt p c n H) (b : But p H H') : Tbs Ps L P1 q1 qi H' := by
  obtain ⟨_, _, h1, _⟩ := P
  exact tbs_lst h h1 b
end
theorem deep_map {α β : Type} (g : α → β) : ∀ t : Tr α, (t.map g).deep = t.deep
  | .no => rfl
  | .done => rfl
  | .ask c p f => by simp only [Tr.map, Tr.deep, deep_map g p, deep_map g f]
theorem plE_lt (W : Nat → V) : ∀ (t : Tr Nat) (k : Nat), t.lt3 → ∀ q ∈ (plE W t k).1, q.1 < 3
  | .no, _, _, q, h => by simp [plE] at h
  | .done, _, _, q, h => by simp [plE] at h
  | .ask n p f, k, ⟨h1, h2, h3⟩, q, h => by
    rw [plE] at h
    split at h
    · split at h
      · simp at h
      · rcases List.mem_cons.mp h with rfl | h
        · exact h1
        · exact plE_lt W p _ h2 q h
    · split at h
      · split at h
        · simp at h
        · rcases List.mem_cons.mp h with rfl | h
          · exact h1
          · exact plE_lt W f _ h3 q h
      · simp at h
theorem prs_ew {K : PySem.W.Frag} {G H : Hp} (s : Same G H) : ∀ {xs ys : List V} {R : List (Addr × V)}, EwAt G xs R → EwAt G ys R → (∀ q ∈ R, q.2 = .str zPass ∨ q.2 = .str zFail) → Prs (DTup K DOne) xs ys H
  | _, _, _, .nil, h2, _ => by
    cases h2
    exact Prs.nil
  | _, _, q :: R, .cons ⟨a, e1, h1⟩ r1, h2, g => by
    cases h2 with
    | @cons y _ ys _ h2 r2 =>
      obtain ⟨b, e2, h2⟩ := h2
      refine Prs.cons ⟨a, b, _, _, e1, e2, SqT.of (s _ _ h1), SqT.of (s _ _ h2), Prs.cons (.inl ⟨_, rfl, rfl⟩) (Prs.cons (.inr ?_) Prs.nil)⟩ (prs_ew s r1 r2 fun q hq => g q (List.mem_cons_of_mem _ hq))
      rcases g q List.mem_cons_self with e | e
      · rw [e]
        exact ⟨rfl, rfl, by decide +kernel⟩
      · rw [e]
        exact ⟨rfl, rfl, by decide +kernel⟩
theorem prs_refs {H : Hp} : ∀ R : List (Addr × V), Prs DOne (asked R) (asked R) H
  | [] => Prs.nil
  | q :: R => Prs.cons (.inl ⟨_, rfl, rfl⟩) (prs_refs R)
theorem ok_playR {f : Addr} {fd : FuncData} {Ps : List Addr} {L : List (Addr × Str)} {P1 : Addr} (F : FnP K "_law_play_right" "_law_play_right" sPlayR [] f fd) (T : Bi mg) (S : PlC K C) (ST : TbsS Ps L P1)
    (Dd : Df P w K mg base CX0 2 "_law_draw" [] spDraw) (Dpk : Df P w K mg base CX0 3 "_law_pick" [] (spPick K)) (Dpy : Df P w K mg base CX0 1 "_law_played" [] (spPlayed K)) (Dan : Df P w K mg base CX0 1 "_law_answer" [] spAnswer)
    (DHe : HearM P w K mg base 8 7 "_law_heard" (THe Cb)) (DPl : PlayG P w K mg base 6 5 C (spPlay K C Cb)) (TB : LamX.TabB base mg (codeA K f) P1) : FnA P w K mg base CX0 9 f fd ["_law_pen_here", "_law_made", "_law_tree_here", "_law_checks"] (spPlayR C Ce Ps L P1 qPlayR qIn) := by
  refine fnP_okAT F scPlayR (fun vs H Q E h => ?_) (fun A outer s H vs Q E g0 hr h => ?_)
  · obtain ⟨G, p, c, l, n, vm, tv, g, ad, t, rfl, _⟩ := h
    rfl
  · obtain ⟨G, p, c, l, n, vm, tv, g, ad, t, rfl, sG, gp, hc, hp, hn, ht, ho, hck, hen, tb, k⟩ := h
    have hu64 := hr.units
    have passL : ∀ {A2 : Around} {outer2 : List Env} {s2 : Shared} {H2 : Hp} {E2 : XK} {sc2 : Scope} {f2 c2 : Addr}, Passes (L2.CX P w) (LamX.lamCx (cxOf CX0 P w K mg base nPlayR "_law_play_right" (defScope sPlayR) f (.ref (codeA K f)) A outer s H E).nox A2 outer2 s2 H2 E2 sc2 f2 c2) E2 :=
      fun {A2 outer2 s2 H2 E2 sc2 f2 c2} => passes_call (W := fun cls d _ H' => E2 cls d H') (takes_of rfl rfl rfl rfl) fun _ _ _ _ h => h
    obtain ⟨en, een, w0, cov⟩ := helpers_start (T := []) sG gp hp tabs_nil
    have enT : en.T = [] := by rw [een]
    have enP : en.P0 = [] := by rw [een]; rfl
    refine ⟨_, (pss_cons (ps_set (i := 9) scPlayR.nd rfl (Or.inr rfl) (pe_lc (own := [("_law_k", 11)]) (g := gName 11) (tt := tYes) rfl scPlayR.nd (pi_range1 rfl T.range (pa_cons pe_int pa_nil)) (blkOk_by (own := [("_law_k", 11)]) (N := nPlayR) (sc := defScope sPlayR) (by decide +kernel)) (fun _ _ _ _ _ => (pg_name (i := 11) scPlayR.nd rfl (by first | exact Or.inl rfl | exact Or.inr rfl))) (fun _ _ _ _ _ => pts_nil) (fun _ _ _ _ _ => (pe_callD Dpk hr pass0 (pa_cons (pv 0) (pa_cons (pe_lst (pa_cons pe_str (pa_cons pe_str pa_nil))) pa_nil))))))
        (Evl.pss_cut (ps_if (pt_cmpR (q_eq hu64) (pe_callD Dd hr pass0 (pa_cons (pv 0) (pa_cons pe_int pa_nil))) pe_int (nomark _)) (pss_cons (ps_set (i := 4) scPlayR.nd rfl (Or.inl rfl) (pe_lst (pa_cons pe_non (pa_cons pe_str (pa_cons pe_str (pa_cons pe_str (pa_cons pe_int (pa_cons pe_bl (pa_cons (pe_lst (pa_cons pe_str pa_nil)) (pa_cons (pe_tup (pa_cons pe_str pa_nil)) (pa_cons pe_dnewK pa_nil)))))))))))
        (pss_one (ps_asg (pe_callD Dpk hr pass0 (pa_cons (pv 0) (pa_cons (pv 4) pa_nil))) (pg_sub (pv 9) (pe_callD Dd hr pass0 (pa_cons (pv 0) (pa_cons pe_int pa_nil))) set_list)))) pss_nil)
        (pss_cons (ps_set (i := 10) scPlayR.nd rfl (Or.inr rfl) (pe_lstM pa_nil))
        (pss_cons (ps_set (i := 5) scPlayR.nd rfl (Or.inl rfl) (pe_lamN (k := 6) DHe rfl g0 TB rfl hr (LamX.lamS_by (sc := defScope sPlayR) (by decide +kernel)) rfl (fun _ _ _ _ _ => rfl) (fun A2 outer2 s2 H2 E2 f2 c2 hr2 => (show PE _ _ (tPlayW C c2 qIn qPlayR (spPlay K C Cb) 14 E2 (tVar 1) (fun _ => tCall spAnswer [] E0 (tCons (tVar 14) (tCons (tVar 9) (tCons (tVar 10) tNil))))) from pe_playW (k := 4) (i0 := 14) (c := c2) (scope := lamIn (defBody sPlayR)) DPl (pv 1) rfl TB.bm (lamS1_by (sc := lamSc (defBody sPlayR)) (by decide +kernel)) rfl idx14 rfl (fun _ _ _ _ _ _ => rfl) hr2 passL (fun A3 outer3 s3 H3 E3 f3 c3 hr3 => (pe_callD Dan hr3 pass0 (pa_cons (pv 14) (pa_cons (pv 9) (pa_cons (pv 10) pa_nil)))))))))
        (pss_cons (ps_asg (pe_callD Dpy hr pass0 (pa_cons (pv 2) (pa_cons (pv 9) pa_nil))) (pg_tup rfl (pgs_cons (pg_name (i := 6) scPlayR.nd rfl (Or.inl rfl)) (pgs_cons (pg_name (i := 7) scPlayR.nd rfl (Or.inl rfl)) pgs_nil))))
        (pss_cons (ps_set (i := 8) scPlayR.nd rfl (Or.inl rfl) (pe_callTy q_tupOf (by rfl) T.tuple (by decide +kernel) (pa_cons (pe_lc (own := [("_law_word", 13), ("_law_at", 12)]) (g := gTup K 2 (gCons (gName 12) (gCons (gName 13) gNil))) (tt := tYes) rfl scPlayR.nd (pi_list (pv 6)) (blkOk_by (own := [("_law_word", 13), ("_law_at", 12)]) (N := nPlayR) (sc := defScope sPlayR) (by decide +kernel)) (fun _ _ _ _ _ => (pg_tup rfl (pgs_cons (pg_name (i := 12) scPlayR.nd rfl (by first | exact Or.inl rfl | exact Or.inr rfl)) (pgs_cons (pg_name (i := 13) scPlayR.nd rfl (by first | exact Or.inl rfl | exact Or.inr rfl)) pgs_nil)))) (fun _ _ _ _ _ => pts_nil) (fun _ _ _ _ _ => (pe_tup (pa_cons (pe_ix (show IxR _ (rIx K) from q_ix) (pv 3) (pv 12) (fun _ _ => rfl)) (pa_cons (pv 13) pa_nil))))) pa_nil)))
        (pss_cons (ps_if (pt_cmpR q_notN (pv 7) pe_non (nomark _)) (pss_one (ps_ret (pe_and (pe_cmpR (q_eq hu64) (pv 5) (pe_tup (pa_cons pe_str (pa_cons (pv 7) pa_nil))) (nomark _)) (pe_one (pe_cmpR (q_eq hu64) (pe_callB q_len (by rfl) T.len (by decide +kernel) (pa_cons (pv 10) pa_nil)) (pe_op q_add (pv 7) pe_int) (nomark _)))))) pss_nil)
        (pss_one (ps_ret (pe_and (pe_cmpR (q_eqDue hr) (pv 5) (pe_lst (pa_cons (pv 8) pa_nil)) (nomark _)) (pe_one (pe_cmpR (q_eqSeen hr) (pv 10) (pe_lc (own := [("_law_word", 13), ("_law_check", 14)]) (g := gTup K 2 (gCons (gName 14) (gCons (gName 13) gNil))) (tt := tYes) rfl scPlayR.nd (pi_tup (pv 8)) (blkOk_by (own := [("_law_word", 13), ("_law_check", 14)]) (N := nPlayR) (sc := defScope sPlayR) (by decide +kernel)) (fun _ _ _ _ _ => (pg_tup rfl (pgs_cons (pg_name (i := 14) scPlayR.nd rfl (by first | exact Or.inl rfl | exact Or.inr rfl)) (pgs_cons (pg_name (i := 13) scPlayR.nd rfl (by first | exact Or.inl rfl | exact Or.inr rfl)) pgs_nil)))) (fun _ _ _ _ _ => pts_nil) (fun _ _ _ _ _ => (pv 14))) (nomark _))))))))))))), ?_⟩
    walk_at "qq"
    refine lc_goM w0 walk_range (fun j acc Gi Hx => acc.length = j ∧ (∀ v ∈ acc, v = .str zPass ∨ v = .str zFail) ∧ PenAt p c (n + j) Hx ∧ Tbs Ps L P1 qPlayR qIn Hx) (fun Dd Hx wx sx nm => ⟨rfl, (fun _ h => by cases h), hp.same sx, tbs_same tb sx⟩) (fun _ _ _ _ _ _ _ => trivial) ?_ ?_
    · rintro Dd j acc Gi Ha x Hb hj hl wi si hD nm ⟨la, ga, Pa, ta⟩ ⟨rfl, hx⟩
      have nep : Dd ≠ p := nm p (by simp)
      have hj5 : j < 5 := hj
      walk_at "qq"
      rename_i l2 G2 H2 n2 w2 s2 h2 t2
      refine u_pick w2 (by simp) (hc.same (si.trans s2)) (Pa.same t2) (by omega) (.inl ⟨l2, rfl, .inl (SqL.of h2)⟩) (by simp) (Nat.le_of_ble_eq_true rfl) fun v G3 H3 w3 s3 b3 P3 m3 => ?_
      have hD3 := b3 _ _ nep (t2 _ _ hD)
      have tb3 := tbs_pen (tbs_same ta t2) (Pa.same t2) b3
      refine r_lcAdd w3 (si.trans (s2.trans s3)) hD3 hl (by omega) fun H5 w5 b5 => ⟨by rw [List.length_append, la]; rfl, fun u hu => ?_, P3.but b5 nep.symm, tbs_lst tb3 hD3 b5⟩
      rcases List.mem_append.mp hu with hu | hu
      · exact ga u hu
      · obtain rfl := List.mem_singleton.mp hu
        simpa using m3
    intro ls ws G1 H1 l5 w1 s1 h1 nm1 ⟨lw, gw, P1', tb1⟩
    have nlp : ls ≠ p := nm1 p (by simp)
    have lw5 : ws.length = 5 := lw
    have P15 : PenAt p c (n + 5) H1 := P1'
    walk_at "qq"
    refine ⟨fun σ' H' => ∃ (Gc : Hp) (y4 : Option V) (ws' : List V), σ' = [some (.ref p), some vm, some tv, some (.ref l), y4, none, none, none, none, some (.ref ls), none, none, none, none, none] ∧ Wd en Gc H' [ls, p] ∧ Same G1 Gc ∧ H' ls = some (.lst ws') ∧ ws'.length = 5 ∧ (∀ v ∈ ws', WordV K Gc v) ∧ PenAt p c (n + 8) H' ∧ Tbs Ps L P1 qPlayR qIn H', ?_, ?_⟩
    · have hws : ∀ v ∈ ws, WordV K G1 v := fun v hv => by
        rcases gw v hv with rfl | rfl
        · exact ⟨⟨_, kd_str _⟩, _, .str _⟩
        · exact ⟨⟨_, kd_str _⟩, _, .str _⟩
      walk_at "qq"
      refine u_draw w1 (by simp) (hc.same s1) P15 (by omega) (by decide) (by decide) fun d2 G2 H2 w2 s2 b2 P2 d20 d21 => ?_
      have h12 := b2 _ _ nlp h1
      have tb2 := tbs_pen tb1 P15 b2
      walk_at "qq"
      refine ite_d (fun c1 => ?_) (fun c1 => ?_)
      · walk_at "qq"
        rename_i lA GA HA nA wA sA hA tA lB GB HB nB wB sB hB tB lC GC HC nC wC sC hC tC lD GD HD nD wD sD hD tD
        have SD : Same G2 GD := sA.trans (sB.trans (sC.trans sD))
        have TD : Same H2 HD := tA.trans (tB.trans (tC.trans tD))
        refine u_pick wD (by simp) (hc.same (s1.trans (s2.trans SD))) (P2.same TD) (by omega) (.inl ⟨lD, rfl, .inl (SqL.of hD)⟩) (by simp) (Nat.le_of_ble_eq_true rfl) fun v6 G6 H6 w6 s6 b6 P6 m6 => ?_
        have od : WordV K G6 v6 := by
          have hA6 : G6 lA = _ := s6 _ _ (sD _ _ (sC _ _ (sB _ _ hA)))
          have hB6 : G6 lB = _ := s6 _ _ (sD _ _ (sC _ _ hB))
          have hC6 : G6 lC = _ := s6 _ _ (sD _ _ hC)
          simp only [List.mem_cons, List.not_mem_nil, or_false] at m6
          rcases m6 with rfl | rfl | rfl | rfl | rfl | rfl | rfl | rfl | rfl
          · exact ⟨⟨_, kd_non⟩, _, .non⟩
          · exact ⟨⟨_, kd_str _⟩, _, .str _⟩
          · exact ⟨⟨_, kd_str _⟩, _, .str _⟩
          · exact ⟨⟨_, kd_str _⟩, _, .str _⟩
          · exact ⟨⟨_, kd_int _⟩, _, .int _⟩
          · exact ⟨⟨_, kd_bl _⟩, _, .bl _⟩
          · exact ⟨⟨_, kd_lst hA6⟩, _, .lst (SqL.of hA6) (.cons (.str _) .nil)⟩
          · exact ⟨⟨_, kd_tup hB6⟩, _, .tup (SqT.of hB6) (.cons (.str _) .nil)⟩
          · exact ⟨⟨_, kd_dK hC6⟩, .dict [], .dic (Rd.of hC6) .nil .nil⟩
        clear m6
        have tb6 := tbs_pen (tbs_same tb2 TD) (P2.same TD) b6
        have h16 := b6 _ _ nlp (TD _ _ h12)
        walk_at "qq"
        refine u_draw w6 (by simp) (hc.same (s1.trans (s2.trans (SD.trans s6)))) P6 (by omega) (by decide) (by decide) fun d7 G7 H7 w7 s7 b7 P7 d70 d71 => ?_
        have tb7 := tbs_pen tb6 P6 b7
        have h17 := b7 _ _ nlp h16
        obtain ⟨m, rfl⟩ : ∃ m : Nat, d7 = (m : Int) := ⟨d7.toNat, by omega⟩
        walk_at "qq"
        refine r_setM w7 (by simp) h17 (ixN_at (by omega)) fun H8 w8 h8 b8 => ?_
        refine ⟨G7, _, _, rfl, w8, s2.trans (SD.trans (s6.trans s7)), h8, by rw [List.length_set]; exact lw5, fun v hv => ?_, P7.but b8 nlp.symm, tbs_lst tb7 h17 b8⟩
        rcases List.mem_or_eq_of_mem_set hv with hv | rfl
        · exact (hws v hv).same (s2.trans (SD.trans (s6.trans s7)))
        · exact od.same s7
      · walk_at "qq"
        exact ⟨G2, _, ws, rfl, w2, s2, h12, lw5, fun v hv => (hws v hv).same s2, P2.more (by omega), tb2⟩
    rintro σ' H' ⟨Gc, y4, ws', rfl, wc0, sc0, hlc, lc5, hwc0, Pc, tbc⟩
    have nls0 : en.H0 ls = none := by
      rcases (wc0.mu ls (by simp)).2.2 with h | h
      · exact h
      · rw [enP] at h
        cases h
    obtain ⟨wc, sc1⟩ := wd_freeze wc0 hlc nls0
    have gls : upd Gc ls (.lst ws') ls = some (.lst ws') := upd_same
    generalize upd Gc ls (.lst ws') = Gd at *
    have sc : Same G Gd := s1.trans (sc0.trans sc1)
    have said : SaidAt K Gd ls ws' := ⟨gls, lc5, fun v hv => (hwc0 v hv).same sc1⟩
    clear gls hwc0 sc1 sc0 wc0 nls0
    have nnt : t.isNo = false := ok_no ho
    have deep4 := ok_deep 4 t (by unfold Tr.okB; rw [ho, Bool.or_true])
    have hW : ∀ k, ∃ u, Kd K Gd (wOf ws' k) u := fun k => by
      unfold wOf
      cases hk : ws'[k]? with
      | none => exact ⟨_, kd_non⟩
      | some v => exact (said.wd v (List.mem_of_getElem? hk)).kd
    walk_at "qq"
    rename_i lz H2 n2 w2 h2 s2 d2
    have nzp : lz ≠ p := d2 p (by simp)
    have tb2 := tbs_same tbc s2
    have P2 := Pc.same s2
    refine go_N ST w2 enT cov tb2 fun H3 c3 P3' md nps ti hc3 => ?_
    have h23 : H3 lz = some (.lst []) := md.x _ _ h2 (by intro ps z; cases z)
    have P3 : PenAt p c (n + 8) H3 := P2.ext md.x
    refine the_cut (fun v Hx => ∃ (Gx : Hp) (a : Addr) (zs : List V), v = .ref a ∧ Wd en Gx Hx [lz, p] ∧ Same Gd Gx ∧ Tbs Ps L P1 qPlayR qIn Hx ∧ PenAt p c (n + 8) Hx ∧ Hx lz = some (.lst zs) ∧ HeardPl Gx a zs (plE (wOf ws') (t.map ad) 0)) ?_ ?_
    · intro E' Q' hE hV
      obtain ⟨o, ov, hov⟩ : ∃ o : Addr, vm = .ref o ∧ ∃ dx fs, Gd o = some (.ins C dx fs) := by
        cases t with
        | no => cases nnt
        | done =>
          obtain ⟨a, dx, bl, el, rfl, ha⟩ := hen
          exact ⟨a, rfl, dx, _, sc _ _ ha⟩
        | ask kx pp ff =>
          obtain ⟨vp, vf, ⟨a, dx, bl, el, rfl, ha⟩, _⟩ := hen
          exact ⟨a, rfl, dx, _, sc _ _ ha⟩
      subst ov
      obtain ⟨dxo, fso, hov⟩ := hov
      refine ⟨.ref o, rfl, o, dxo, fso, P3', rfl, md.w.le _ _ hov, hc3, go_I ST md.w enT cov md.tb nps ti fun H4 c4 P4' md2 hc4 => ?_⟩
      have h24 : H4 lz = some (.lst []) := md2.x _ _ h23 (by intro ps z; cases z)
      have P4 : PenAt p c (n + 8) H4 := P3.ext md2.x
      have gz : Gd lz = none := (md2.w.mu lz (by simp)).1
      refine ⟨md2.w.le _ _ hov, Gd, t.map ad, lz, [], wOf ws', md2.w.gh, hen.same sc, ?_, gz, h24, by simp, hW, ?_, ?_, ?_⟩
      · rw [deep_map]
        omega
      · intro e2 Gx Hx M2 en2 ys E2 Q2 wx hm2 sx hx ly kk
        have hv : ws'[ys.length]? = some (wOf ws' ys.length) := by
          unfold wOf
          rw [List.getElem?_eq_getElem (by omega)]
          rfl
        rw [List.nil_append] at hx
        walk_at "qq"
        refine u_answer wx hm2 hx (by omega) (sx _ _ said.at_) hv fun G6 H6 w6 s6 b6 h6 => ?_
        exact kk G6 H6 w6 s6 b6 (by rw [List.nil_append]; exact h6)
      · intro r hr
        refine retM_use md2.w (by simp) fun v zs G6 H6 w6 s6 b6 h6 ⟨ez, q, xs, e1, hq, hxs⟩ => ?_
        refine hV v H6 ⟨en, G6, [lz, p], w6, fun a G7 H7 w7 s7 t7 h7 => ⟨G7, a, zs, rfl, w7, s6.trans s7, tbs_same (tbs_lst md2.tb h24 b6) t7, ?_, t7 _ _ h6, ?_⟩⟩
        · exact (P4.but b6 nzp.symm).same t7
        · rw [hr]
          exact ⟨ez, q, xs, by rw [← e1]; exact h7, s7 _ _ hq, hxs.same s7⟩
      · intro r i en' hr d
        refine retM_use md2.w (by simp) fun v zs G6 H6 w6 s6 b6 h6 ⟨ez, hd⟩ => ?_
        refine hE _ _ H6 ⟨en, G6, [lz, p], .int (i : Int), d, w6, rfl, rfl, hd, fun a G7 H7 w7 s7 t7 h7 => ⟨G7, a, zs, rfl, w7, s6.trans s7, tbs_same (tbs_lst md2.tb h24 b6) t7, ?_, t7 _ _ h6, ?_⟩⟩
        · exact (P4.but b6 nzp.symm).same t7
        · rw [hr]
          exact ⟨ez, h7⟩
    · rintro v H5 ⟨G5, a5, zs, rfl, w5, s5, tb5, P5, h5, hh⟩
      have S5 : Same G G5 := sc.trans s5
      have h5p := plE_map (wOf ws') ad t 0
      have good := plE_good (wOf ws') t 0
      have lenP := plE_len (wOf ws') t 0
      rw [h5p] at hh
      walk_at "qq"
      refine u_played w5 (ht.same S5) ho (said.same s5) fun q6 lf xs G6 H6 w6 s6 t6 hq6 hlf hxs => ?_
      have hz6 := t6 _ _ h5
      have tb6 := tbs_same tb5 t6
      have P6 := P5.same t6
      have hh6 := hh.same s6
      generalize hr0 : plE (wOf ws') t 0 = ro at *
      obtain ⟨r, o⟩ := ro
      have lx := Paired.length hxs
      simp only at lx hxs good lenP
      have lt := plE_lt (wOf ws') t 0 ht.lt3
      rw [hr0] at lt
      simp only at lt
      have hck6 := hck.same (S5.trans s6)
      have lm : (plMap ad r).length = r.length := List.length_map _
      have goodm : ∀ q ∈ plMap ad r, q.2 = .str zPass ∨ q.2 = .str zFail := fun q hq => by
        obtain ⟨q', hq', rfl⟩ := List.mem_map.mp hq
        exact good q' hq'
      walk_at "qq"
      refine lc_go w6 (walk_list (xs := xs)) (fun j acc Gi Hx => EwAt Gi acc ((plMap ad r).take j) ∧ Hx lz = some (.lst zs) ∧ Tbs Ps L P1 qPlayR qIn Hx ∧ PenAt p c (n + 8) Hx) (fun Dd Hx wx sx nm => ⟨.nil, sx _ _ hz6, tbs_same tb6 sx, P6.same sx⟩) (fun _ _ Gi Hi wi si _ => wd_sqL wi (SqL.of (si _ _ hlf))) ?_ ?_
      · rintro Dd j acc Gi Ha x Hb hj hl wi si hD nm ⟨ha, hz, ta, Pa⟩ ⟨rfl, hx⟩
        have hjr : j < r.length := by omega
        have hrj : r[j]? = some r[j] := List.getElem?_eq_getElem hjr
        obtain ⟨aj, rfl, haj⟩ := paired_get hxs hx hrj
        have haji := si _ _ haj
        obtain ⟨cs, hcs, hat, _⟩ := (hck6.same si).get (lt _ (List.getElem_mem hjr))
        have nz : Dd ≠ lz := nm lz (by simp)
        have np : Dd ≠ p := nm p (by simp)
        walk_at "qq"
        rename_i l7 G7 H7 n7 w7 s7 h7 t7 H8 w8 b8
        have hD7 := t7 _ _ hD
        refine ⟨?_, b8 _ _ nz.symm (t7 _ _ hz), tbs_lst (tbs_same ta t7) hD7 b8, (Pa.same t7).but b8 np.symm⟩
        have e : (plMap ad r).take (j + 1) = (plMap ad r).take j ++ [(ad r[j].1, r[j].2)] := take_snoc (by unfold plMap; rw [List.getElem?_map, hrj]; rfl)
        rw [e]
        exact paired_snoc (ha.same s7) ⟨l7, rfl, h7⟩
      · intro pd acc Gi Gp Hp la wp sp sip hpd ⟨ha0, hz, ta, Pa⟩
        rw [List.take_of_length_le (by omega)] at ha0
        have ha := ha0.same sip
        walk_at "qq"
        refine r_tupOf (SqL.of (wp.le _ _ hpd)) ?_
        refine r_lay wp (Nat.zero_le _) (by intro ps z; cases z) fun l7 G7 H7 n7 w7 s7 h7 t7 => ?_
        have hh7 := hh6.same (sp.trans s7)
        have hz7 := t7 _ _ hz
        have tb7 := tbs_same ta t7
        have P7 := Pa.same t7
        have ha7 := ha.same s7
        walk_at "qq"
        cases o with
        | some q =>
          obtain ⟨i, aw⟩ := q
          obtain ⟨ez, h5a⟩ := hh7
          obtain ⟨ei, li⟩ := lenP.2 i aw rfl
          have eW : wrongV ((r, some (i, aw)) : List (Nat × V) × Option (Nat × Nat)).snd = .int (i : Int) := rfl
          rw [eW]
          have ez : zs = asked (plMap ad r) ++ [.ref (ad aw)] := ez
          refine ite_nd (fun _ => ?_) (fun h => by cases h)
          walk_at "qq"
          rename_i l9 G9 H9 n9 w9 s9 h9 t9
          have d1 : Dp K H9 (.ref a5) (.tuple [.str "entry", .int (i : Int)]) := .tup (SqT.of (w9.le _ _ (s9 _ _ h5a))) (.cons (.str _) (.cons (.int _) .nil))
          have d2 : Dp K H9 (.ref l9) (.tuple [.str "entry", .int (i : Int)]) := .tup (SqT.of (w9.le _ _ h9)) (.cons (.str _) (.cons (.int _) .nil))
          have sh : SeqAt.shaped (.tuple [.str "entry", .int (i : Int)]) = true := by
            have e : PyData.strOk (Str.ofString "entry") = true := by decide +kernel
            simp [SeqAt.shaped, PyData.canLay0, PyData.canLayAll0, PyData.depth, PyData.depthAll, e]
          have ev : PyData.eqv (.tuple [.str "entry", .int (i : Int)]) (.tuple [.str "entry", .int (i : Int)]) = true := by simp [PyData.eqv, PyData.eqvAll]
          refine r_eqD d1 d2 sh sh ⟨_, rfl, ?_⟩
          rw [ev]
          refine iteT ?_
          have hz9 := t9 _ _ hz7
          have lz9 : zs.length ≤ 100 := by
            rw [ez]
            unfold asked
            rw [List.length_append, List.length_map, List.length_singleton]
            omega
          walk_at "qq"
          have e : decide (V.int ((zs.length : Nat) : Int) = V.int ((i : Int) + 1)) = true := by
            refine decide_eq_true ?_
            congr 1
            rw [ez]
            unfold asked
            rw [List.length_append, List.length_map, List.length_singleton]
            omega
          rw [e]
          subst een
          exact retTs_of k w9 tabs_nil (by simp) (P7.same t9) rfl (tbs_same tb7 t9)
        | none =>
          obtain ⟨ez, q8, xs8, h5a, hq8, hxs8⟩ := hh7
          refine ite_nd (fun h => absurd rfl h) (fun _ => ?_)
          walk_at "qq"
          rename_i l9 G9 H9 n9 w9 s9 h9 t9
          have gm := goodm
          refine ⟨⟨a5, l9, _, _, rfl, rfl, w9.le _ _ (s9 _ _ h5a), w9.le _ _ h9, Prs.cons ⟨q8, l7, _, _, rfl, rfl, SqT.of (w9.le _ _ (s9 _ _ hq8)), SqT.of (w9.le _ _ (s9 _ _ h7)), prs_ew (s9.trans w9.le) hxs8 ha7 gm⟩ Prs.nil⟩, fun H10 ex => ⟨_, rfl, iteT ?_⟩⟩
          have t10 : Same H9 H10 := ex
          have w10 := wd_same w9 t10
          have hz10 := t10 _ _ (t9 _ _ hz7)
          have tb10 := tbs_same (tbs_same tb7 t9) t10
          have P10 := (P7.same t9).same t10
          have h710 := s9 _ _ h7
          walk_at "qq"
          refine lc_go w10 (walk_tup (xs := acc)) (fun j ac Gi Hx => ac = (asked (plMap ad r)).take j ∧ Hx lz = some (.lst zs) ∧ Tbs Ps L P1 qPlayR qIn Hx ∧ PenAt p c (n + 8) Hx) (fun Dd Hx wx sx nm => ⟨rfl, sx _ _ hz10, tbs_same tb10 sx, P10.same sx⟩) (fun _ _ Gi Hi wi si _ => wd_sqT wi (SqT.of (si _ _ h710))) ?_ ?_
          · rintro Dd j ac Gi Ha x Hb hj hl wi si hD nm ⟨rfl, hz, ta, Pa⟩ ⟨rfl, hx⟩
            have la2 := Paired.length ha
            have hjr : j < (plMap ad r).length := by omega
            have hrj : (plMap ad r)[j]? = some (plMap ad r)[j] := List.getElem?_eq_getElem hjr
            obtain ⟨aj, rfl, haj⟩ := paired_get ha7 hx hrj
            have haji := si _ _ (s9 _ _ haj)
            have nz : Dd ≠ lz := nm lz (by simp)
            have np : Dd ≠ p := nm p (by simp)
            walk_at "qq"
            rename_i H11 w11 b11
            refine ⟨?_, b11 _ _ nz.symm hz, tbs_lst ta hD b11, Pa.but b11 np.symm⟩
            exact (take_snoc (by unfold asked; rw [List.getElem?_map, hrj]; rfl)).symm
          · intro pd ac Gi Gp Hp la wp sp sip hpd ⟨ea, hz, ta, Pa⟩
            rw [List.take_of_length_le (by unfold asked; rw [List.length_map, Paired.length ha]; exact Nat.le_refl _)] at ea
            walk_at "qq"
            refine ⟨⟨lz, pd, _, _, rfl, rfl, hz, wp.le _ _ hpd, ?_⟩, fun H11 ex => ?_⟩
            · rw [ea, show zs = asked (plMap ad r) from ez]
              exact prs_refs _
            · have t11 : Same Hp H11 := ex
              subst een
              exact retTs_of k (wd_same wp t11) tabs_nil (by simp) (Pa.same t11) rfl (tbs_same ta t11)
end
section
variable {P : Program} {w : World} {K : PySem.W.Frag} {mg : Str → Option Value} {base : Heap} {C Ce Cs Cb : Addr}
abbrev nSlInit : List Str := ["self", "at", "answers"]
theorem scSlInit : FnScope nSlInit ["self", "at", "answers"] (defScope sSlInit) := ⟨rfl, rfl, rfl, by decide +kernel, rfl, by decide +kernel, by decide +kernel⟩
theorem ok_slInit {f : Addr} {fd : FuncData} (F : FnP K "__init__" "Stall.__init__" sSlInit [] f fd) (T : Bi mg) (S : ClC K Cs) (n1 : NoAttr K Cs "at") (n2 : NoAttr K Cs "answers") : FnOk P w K mg base CX0 1 f fd ["self", "at", "answers"] (spStallInit K Cs) := by
  refine fnP_ok F scSlInit (fun vs H Q E h => ?_) (fun cdv A outer s H vs Q E hr h => ?_)
  · obtain ⟨G, x, dx, q, v, rfl, _⟩ := h
    rfl
  · obtain ⟨G, x, dx, q, v, rfl, sG, gx, hx, hq, k⟩ := h
    have hu64 := hr.units
    have cc := S.c
    refine ⟨_, (pss_cons (ps_fld (pv 0) (pv 1) rfl)
        (pss_one (ps_fld (pv 0) (pe_callTy q_tupOf (by rfl) T.tuple (by decide +kernel) (pa_cons (pv 2) pa_nil)) rfl))), ?_⟩
    have w0 : Wd ⟨H, G, [x], []⟩ G H [x] := wd_start sG (fun a h => by rw [List.mem_singleton.mp h]; exact ⟨gx, _, hx, rfl⟩) (by simp)
    walk_at "qq"
    rename_i H1 w1 h1 b1
    refine ⟨q, [], rfl, .inr ⟨SqT.of (w1.le _ _ hq), ?_⟩⟩
    walk_at "qq"
    rename_i H2 w2 h2 b2
    exact k G H2 q (fun b o hn h => w2.kp b o (by simpa using hn) h) w2.gh w2.gr w2.fr h2
abbrev nSlEnd : List Str := ["at"]
theorem scSlEnd : FnScope nSlEnd ["at"] (defScope sSlEnd) := ⟨rfl, rfl, rfl, by decide +kernel, rfl, by decide +kernel, by decide +kernel⟩
theorem ok_slEnd {f : Addr} {fd : FuncData} (F : FnP K "end" "Stall.end" sSlEnd [] f fd) (DSl : MkD P w K mg base CX0 1 "Stall" Cs [] (spStallInit K Cs)) : FnOk P w K mg base CX0 3 f fd ["at"] (spStallEnd Cs) := by
  refine fnP_ok F scSlEnd (fun vs H Q E h => ?_) (fun cdv A outer s H vs Q E hr h => ?_)
  · obtain ⟨G, v, rfl, _⟩ := h
    rfl
  · obtain ⟨G, v, rfl, sG, k⟩ := h
    refine ⟨_, (pss_one (ps_ret (pe_makeD DSl hr pass0 (pa_cons (pv 0) (pa_cons (pe_tup pa_nil) pa_nil))))), ?_⟩
    have w0 := wd_pure sG
    walk_at "qq"
    rename_i l1 G1 H1 n1 w1 s1 h1 t1
    exact u_stallMake w1 h1 fun a dx fs G2 H2 w2 s2 t2 h2 => ret_of k w2 ⟨a, dx, fs, rfl, h2⟩
abbrev nRefR : List Str := ["_law_pen_here", "_law_check", "_law_done", "_law_odd", "_law_rows", "_law_at", "_law_some"]
theorem scRefR : FnScope nRefR ["_law_pen_here", "_law_check"] (defScope sRefR) := ⟨rfl, rfl, rfl, by decide +kernel, rfl, by decide +kernel, by decide +kernel⟩
abbrev qRefR : Str := (envOfC "_law_refused_right" (defScope sRefR) 0 0 .none).qual ++ ("<lambda>" : Str)
theorem sh_entry (k : Nat) : SeqAt.shaped (.tuple [.str "entry", .int (k : Int)]) = true := by
  have e : PyData.strOk (Str.ofString "entry") = true := by decide +kernel
  simp [SeqAt.shaped, PyData.canLay0, PyData.canLayAll0, PyData.depth, PyData.depthAll, e]
theorem ev_entry (k : Nat) : PyData.eqv (.tuple [.str "entry", .int (k : Int)]) (.tuple [.str "entry", .int (k : Int)]) = true := by simp [PyData.eqv, PyData.eqvAll]
theorem bad_no {o1 : Option Ck} {o2 o3 : Option (Tr Ck)} {k : Nat} {c : Ck} {p f : Tr Ck} {R : Prop} (h : askBad o1 o2 o3 = some k) (e1 : o1 = some c) (e2 : o2 = some p) (e3 : o3 = some f) (n : (p.isNo && f.isNo) = false) : R := by
  subst e1 e2 e3
  have z : (if (p.isNo && f.isNo) = true then some 2 else (none : Option Nat)) = some k := h
  rw [n, if_neg (by decide)] at z
  cases z
theorem ok_refR {f pT : Addr} {fd : FuncData} {Ps : List Addr} {L : List (Addr × Str)} {P1 : Addr} {q1 qi : Str} (F : FnP K "_law_refused_right" "_law_refused_right" sRefR [] f fd) (T : Bi mg) (S : ClC K C) (Se : ClC K Ce) (Ss : ClC K Cs) (FC : FarC K C Ce Cs) (ST : TbsS Ps L P1) (hmT : (pT, qRefR) ∈ L)
    (hPl : Gc mg "Plan" (.ref C)) (hSl : Gc mg "Stall" (.ref Cs)) (Ddo : StD P w K mg base CX0 3 C "done" (spDoneX C Ce)) (Den : StD P w K mg base CX0 3 Cs "end" (spStallEnd Cs)) (Das : StD P w K mg base (L2.CX P w) 4 C "ask" (spAskX K C Ce Cb))
    (DasK : StK P w K mg base (L2.CX P w) 4 C "ask" ["failed", "entry", "passed"] (fun vs zs => vs ++ (zs.drop 1 ++ zs.take 1)) (spAskX K C Ce Cb)) (Dpk : Df P w K mg base CX0 3 "_law_pick" [] (spPick K))
    (DHe : HearM P w K mg base 8 7 "_law_heard" (THe Cb)) (TB : LamX.TabB base mg (codeA K f) pT) : FnA P w K mg base CX0 9 f fd ["_law_pen_here", "_law_check"] (spRefPl Ce Ps L P1 q1 qi) := by
  refine fnP_okAT F scRefR (fun vs H Q E h => ?_) (fun A outer s H vs Q E g0 hr h => ?_)
  · obtain ⟨G, p, c, a, n, t, i, b, rfl, _⟩ := h
    rfl
  · obtain ⟨G, p, c, a, n, t, i, b, rfl, sG, gp, hc, hp, hn, hen, tb, k⟩ := h
    have hu64 := hr.units
    have passL : ∀ {A2 : Around} {outer2 : List Env} {s2 : Shared} {H2 : Hp} {E2 : XK} {sc2 : Scope} {f2 c2 : Addr}, Passes (L2.CX P w) (LamX.lamCx (cxOf CX0 P w K mg base nRefR "_law_refused_right" (defScope sRefR) f (.ref (codeA K f)) A outer s H E).nox A2 outer2 s2 H2 E2 sc2 f2 c2) E2 :=
      fun {A2 outer2 s2 H2 E2 sc2 f2 c2} => passes_call (W := fun cls d _ H' => E2 cls d H') (takes_of rfl rfl rfl rfl) fun _ _ _ _ h => h
    obtain ⟨en, een, w0, cov⟩ := helpers_start (T := []) sG gp hp tabs_nil
    have enT : en.T = [] := by rw [een]
    have enP : en.P0 = [] := by rw [een]; rfl
    refine ⟨_, (pss_cons (ps_set (i := 2) scRefR.nd rfl (Or.inl rfl) (pe_statD0 (pe_gc hPl) Ddo hr pass0))
        (pss_cons (ps_set (i := 3) scRefR.nd rfl (Or.inl rfl) (pe_lst (pa_cons pe_int (pa_cons pe_str (pa_cons pe_bl (pa_cons (pe_tup pa_nil) (pa_cons (pe_lst pa_nil) (pa_cons pe_dnewK (pa_cons (pe_statD (pe_gc hSl) Den hr pass0 (pa_cons pe_int pa_nil)) pa_nil)))))))))
        (pss_cons (ps_set (i := 4) scRefR.nd rfl (Or.inl rfl) (pe_lstM (pa_cons (pe_tup (pa_cons pe_int (pa_cons (pe_lst (pa_cons (pe_callD Dpk hr pass0 (pa_cons (pv 0) (pa_cons (pe_op q_add (pv 3) (pe_lst (pa_cons pe_non (pa_cons (pv 2) pa_nil)))) pa_nil))) (pa_cons (pe_callD Dpk hr pass0 (pa_cons (pv 0) (pa_cons (pe_op q_add (pv 3) (pe_lst (pa_cons pe_non (pa_cons (pv 2) pa_nil)))) pa_nil))) (pa_cons pe_non pa_nil)))) pa_nil))) pa_nil)))
        (pss_cons (ps_expr (pe_bm PySem.F.plainAttrs_list PySem.F.slot_list_append PySem.F.type_list_append mt_append (pv 4) (pa_cons (pe_tup (pa_cons pe_int (pa_cons (pe_lst (pa_cons (pv 1) (pa_cons (pe_callD Dpk hr pass0 (pa_cons (pv 0) (pa_cons (pe_op q_add (pv 3) (pe_lst (pa_cons (pv 1) pa_nil))) pa_nil))) (pa_cons (pe_callD Dpk hr pass0 (pa_cons (pv 0) (pa_cons (pe_op q_add (pv 3) (pe_lst (pa_cons pe_non (pa_cons (pv 2) pa_nil)))) pa_nil))) pa_nil)))) pa_nil))) pa_nil)))
        (pss_cons (ps_expr (pe_bm PySem.F.plainAttrs_list PySem.F.slot_list_append PySem.F.type_list_append mt_append (pv 4) (pa_cons (pe_tup (pa_cons pe_int (pa_cons (pe_lst (pa_cons (pv 1) (pa_cons (pe_callD Dpk hr pass0 (pa_cons (pv 0) (pa_cons (pe_lst (pa_cons pe_non (pa_cons (pv 2) pa_nil))) pa_nil))) (pa_cons (pe_callD Dpk hr pass0 (pa_cons (pv 0) (pa_cons (pe_op q_add (pv 3) (pe_lst (pa_cons (pv 1) pa_nil))) pa_nil))) pa_nil)))) pa_nil))) pa_nil)))
        (pss_cons (ps_expr (pe_bm PySem.F.plainAttrs_list PySem.F.slot_list_append PySem.F.type_list_append mt_append (pv 4) (pa_cons (pe_tup (pa_cons pe_int (pa_cons (pe_lst (pa_cons (pv 1) (pa_cons pe_non (pa_cons pe_non pa_nil)))) pa_nil))) pa_nil)))
        (pss_cons (ps_for PassesOwn.never rfl (pi_list (pv 4)) (pg_tup rfl (pgs_cons (pg_name (i := 5) scRefR.nd rfl (Or.inl rfl)) (pgs_cons (pg_name (i := 6) scRefR.nd rfl (Or.inr rfl)) pgs_nil))) (pss_cons (ps_if (pt_cmpR (q_ne hu64) (pe_lamN (k := 6) DHe rfl g0 TB rfl hr (LamX.lamS_by (sc := defScope sRefR) (by decide +kernel)) rfl (fun _ _ _ _ _ => rfl) (fun A2 outer2 s2 H2 E2 f2 c2 hr2 => (pe_statD (pe_gc hPl) Das hr2 passL (pa_cons (pe_ix (show IxR _ (rIx K) from q_ix) (pv 6) pe_int (fun _ _ => rfl)) (pa_cons (pe_ix (show IxR _ (rIx K) from q_ix) (pv 6) pe_int (fun _ _ => rfl)) (pa_cons (pe_ix (show IxR _ (rIx K) from q_ix) (pv 6) pe_int (fun _ _ => rfl)) pa_nil)))))) (pe_tup (pa_cons pe_str (pa_cons (pv 5) pa_nil))) (nomark _)) (pss_one (ps_ret pe_bl)) pss_nil)
        (pss_one (ps_if (pt_cmpR (q_ne hu64) (pe_lamN (k := 6) DHe rfl g0 TB rfl hr (LamX.lamS_by (sc := defScope sRefR) (by decide +kernel)) rfl (fun _ _ _ _ _ => rfl) (fun A2 outer2 s2 H2 E2 f2 c2 hr2 => (pe_statKD (pe_gc hPl) DasK hr2 passL (pk_cons (pe_ix (show IxR _ (rIx K) from q_ix) (pv 6) pe_int (fun _ _ => rfl)) (pk_cons (pe_ix (show IxR _ (rIx K) from q_ix) (pv 6) pe_int (fun _ _ => rfl)) (pk_cons (pe_ix (show IxR _ (rIx K) from q_ix) (pv 6) pe_int (fun _ _ => rfl)) pk_nil)))))) (pe_tup (pa_cons pe_str (pa_cons (pv 5) pa_nil))) (nomark _)) (pss_one (ps_ret pe_bl)) pss_nil))))
        (pss_one (ps_ret pe_bl))))))))), ?_⟩
    walk_at "qq"
    refine u_doneX w0 fun dv G1 H1 w1 s1 t1 hd1 => ?_
    walk_at "qq"
    rename_i l2 G2 H2 n2 w2 s2 h2 t2 l3 G3 H3 n3 w3 s3 h3 t3 l4 G4 H4 n4 w4 s4 h4 t4
    refine u_stallEnd w4 fun a5 dx5 fs5 G5 H5 w5 s5 t5 h5 => ?_
    walk_at "qq"
    rename_i lo G6 H6 n6 w6 s6 h6 t6 lx G7 H7 n7 w7 s7 h7 t7 ly G8 H8 n8 w8 s8 h8 t8
    have S6 : Same G G6 := s1.trans (s2.trans (s3.trans (s4.trans (s5.trans s6))))
    have T6 : Same H H6 := t1.trans (t2.trans (t3.trans (t4.trans (t5.trans t6))))
    have odds : ∀ v ∈ ([.int 0, .str zDone, .bl true, .ref l2, .ref l3, .ref l4, .ref a5] : List V), ArgV K C Ce G6 v none none := fun v hv => by
      simp only [List.mem_cons, List.not_mem_nil, or_false] at hv
      rcases hv with rfl | rfl | rfl | rfl | rfl | rfl | rfl
      · exact arg_plain S Se (plain_int _) nofun
      · exact arg_plain S Se (plain_str _) nofun
      · exact arg_plain S Se ⟨"bool", by simp, .base (.bl _)⟩ nofun
      · exact arg_plain S Se (plain_tup (s6 _ _ (s5 _ _ (s4 _ _ (s3 _ _ h2))))) nofun
      · exact arg_plain S Se (plain_lst (s6 _ _ (s5 _ _ (s4 _ _ h3)))) nofun
      · exact arg_plain S Se (plain_dK (s6 _ _ (s5 _ _ h4))) nofun
      · exact arg_stall Ss FC (s6 _ _ h5)
    have hd6 : BrX C Ce G6 .done dv := hd1.same (s2.trans (s3.trans (s4.trans (s5.trans s6))))
    have ent6 : ArgV K C Ce G6 (.ref a) (some (t, i, b)) none := arg_ent Se FC (hen.same S6)
    have done6 : ArgV K C Ce G6 dv none (some .done) := arg_done S FC hd6
    have non6 : ArgV K C Ce G6 .non none (some .no) := arg_non Se
    generalize hol : ([.int 0, .str zDone, .bl true, .ref l2, .ref l3, .ref l4, .ref a5] : List V) = ol at *
    have len7 : ol.length = 7 := by rw [← hol]; rfl
    have tb6 := tbs_same tb T6
    clear hol
    have anyB : ∀ v ∈ ol ++ [.non, dv], ∃ o, ArgV K C Ce G6 v none o := fun v hv => by
      simp only [List.mem_append, List.mem_cons, List.not_mem_nil, or_false] at hv
      rcases hv with hv | rfl | rfl
      · exact ⟨_, odds v hv⟩
      · exact ⟨_, non6⟩
      · exact ⟨_, done6⟩
    have anyE : ∀ v ∈ ol ++ [.ref a], ∃ o, ArgV K C Ce G6 v o none := fun v hv => by
      simp only [List.mem_append, List.mem_cons, List.not_mem_nil, or_false] at hv
      rcases hv with hv | rfl
      · exact ⟨_, odds v hv⟩
      · exact ⟨_, ent6⟩
    have bigO : ∀ zs : List V, zs.length ≤ 2 → (ol ++ zs).length ≤ 1000000 := fun zs h => by
      rw [List.length_append, len7]
      omega
    have hc6 := hc.same S6
    have P6 := hp.same T6
    refine u_pick w8 (by simp) (hc6.same (s7.trans s8)) ((P6.same t7).same t8) (by omega) (.inl ⟨ly, rfl, .inl (SqL.of h8)⟩) (by simp) (bigO _ (by simp)) fun v1 G9 H9 w9 s9 b9 P9 m9 => ?_
    have ho9 := (s7.trans (s8.trans s9)) _ _ h6
    have tb9 := tbs_pen (tbs_same tb6 (t7.trans t8)) ((P6.same t7).same t8) b9
    have S9 : Same G6 G9 := s7.trans (s8.trans s9)
    walk_at "qq"
    rename_i lx10 G10 H10 n10 w10 s10 h10 t10 ly11 G11 H11 n11 w11 s11 h11 t11
    refine u_pick w11 (by simp) (hc6.same (S9.trans (s10.trans s11))) ((P9.same t10).same t11) (by omega) (.inl ⟨ly11, rfl, .inl (SqL.of h11)⟩) (by simp) (bigO _ (by simp)) fun v2 G12 H12 w12 s12 b12 P12 m12 => ?_
    have S12 : Same G6 G12 := S9.trans (s10.trans (s11.trans s12))
    have ho12 := S12 _ _ h6
    have tb12 := tbs_pen (tbs_same tb9 (t10.trans t11)) ((P9.same t10).same t11) b12
    walk_at "qq"
    rename_i l13 G13 H13 n13 w13 s13 h13 t13 l14 G14 H14 n14 w14 s14 h14 t14 lr H15 n15 w15 h15 s15 d15 lx16 G16 H16 n16 w16 s16 h16 t16 ly17 G17 H17 n17 w17 s17 h17 t17
    have nlr : lr ≠ p := d15 p (by simp)
    have S14 : Same G6 G14 := S12.trans (s13.trans s14)
    have T17 : Same H12 H17 := t13.trans (t14.trans (s15.trans (t16.trans t17)))
    refine u_pick w17 (by simp) (hc6.same (S14.trans (s16.trans s17))) (P12.same T17) (by omega) (.inl ⟨ly17, rfl, .inl (SqL.of h17)⟩) (by simp) (bigO _ (by simp)) fun v3 G18 H18 w18 s18 b18 P18 m18 => ?_
    have S18 : Same G6 G18 := S14.trans (s16.trans (s17.trans s18))
    have ho18 := S18 _ _ h6
    have tb18 := tbs_pen (tbs_same tb12 T17) (P12.same T17) b18
    have hr18 := b18 _ _ nlr (t17 _ _ (t16 _ _ h15))
    walk_at "qq"
    rename_i l19 G19 H19 n19 w19 s19 h19 t19 l20 G20 H20 n20 w20 s20 h20 t20
    have T20 : Same H18 H20 := t19.trans t20
    refine u_pick w20 (by simp) (hc6.same (S18.trans (s19.trans s20))) (P18.same T20) (by omega) (.inl ⟨l20, rfl, .inl (SqL.of h20)⟩) (by simp) (bigO _ (by simp)) fun v4 G21 H21 w21 s21 b21 P21 m21 => ?_
    have S21 : Same G6 G21 := S18.trans (s19.trans (s20.trans s21))
    have tb21 := tbs_pen (tbs_same tb18 T20) (P18.same T20) b21
    have hr21 := b21 _ _ nlr (T20 _ _ hr18)
    walk_at "qq"
    rename_i l22 G22 H22 n22 w22 s22 h22 t22 l23 G23 H23 n23 w23 s23 h23 t23 H24 w24 h24 b24 l25 G25 H25 n25 w25 s25 h25 t25
    have T23 : Same H21 H23 := t22.trans t23
    have tb25 := tbs_same (tbs_lst (tbs_same tb21 T23) (T23 _ _ hr21) b24) t25
    have P25 := ((P21.same T23).but b24 nlr.symm).same t25
    have hr25 := t25 _ _ h24
    have S25 : Same G6 G25 := S21.trans (s22.trans (s23.trans s25))
    refine u_pick w25 (by simp) (hc6.same S25) P25 (by omega) (.inl ⟨l25, rfl, .inl (SqL.of h25)⟩) (by simp) (Nat.le_of_ble_eq_true rfl) fun v5 G26 H26 w26 s26 b26 P26 m26 => ?_
    have S26 : Same G6 G26 := S25.trans s26
    have ho26 := S26 _ _ h6
    have tb26 := tbs_pen tb25 P25 b26
    have hr26 := b26 _ _ nlr hr25
    walk_at "qq"
    rename_i l27 G27 H27 n27 w27 s27 h27 t27 l28 G28 H28 n28 w28 s28 h28 t28
    have T28 : Same H26 H28 := t27.trans t28
    refine u_pick w28 (by simp) (hc6.same (S26.trans (s27.trans s28))) (P26.same T28) (by omega) (.inl ⟨l28, rfl, .inl (SqL.of h28)⟩) (by simp) (bigO _ (by simp)) fun v6 G29 H29 w29 s29 b29 P29 m29 => ?_
    have S29 : Same G6 G29 := S26.trans (s27.trans (s28.trans s29))
    have tb29 := tbs_pen (tbs_same tb26 T28) (P26.same T28) b29
    have hr29 := b29 _ _ nlr (T28 _ _ hr26)
    walk_at "qq"
    rename_i l30 G30 H30 n30 w30 s30 h30 t30 l31 G31 H31 n31 w31 s31 h31 t31 H32 w32 h32 b32 l33 G33 H33 n33 w33 s33 h33 t33 l34 G34 H34 n34 w34 s34 h34 t34 H35 w35 h35 b35
    have T31 : Same H29 H31 := t30.trans t31
    have T34 : Same H32 H34 := t33.trans t34
    have tb35 := tbs_lst (tbs_same (tbs_lst (tbs_same tb29 T31) (T31 _ _ hr29) b32) T34) (T34 _ _ h32) b35
    have P35 : PenAt p c (n + 6) H35 := ((((P29.same T31).but b32 nlr.symm).same T34).but b35 nlr.symm).more (by omega)
    have nlr0 : en.H0 lr = none := by
      rcases (w35.mu lr (by simp)).2.2 with h | h
      · exact h
      · rw [enP] at h
        cases h
    obtain ⟨wf, sf⟩ := wd_freeze w35 h35 nlr0
    have hrf : upd G34 lr _ lr = _ := upd_same (o := HO.lst ([V.ref l14] ++ [V.ref l23] ++ [V.ref l31] ++ [V.ref l34]))
    generalize upd G34 lr _ = Gf at *
    have S34 : Same G29 G34 := s30.trans (s31.trans (s33.trans s34))
    have SF : Same G6 Gf := S29.trans (S34.trans sf)
    have rows : Paired (fun v k => RowB K C Ce Gf v k) ([V.ref l14] ++ [V.ref l23] ++ [V.ref l31] ++ [V.ref l34]) [0, 1, 2, 2] := by
      have up14 : Same G14 Gf := (s16.trans (s17.trans (s18.trans (s19.trans (s20.trans (s21.trans (s22.trans (s23.trans (s25.trans (s26.trans (s27.trans (s28.trans (s29.trans (S34.trans sf))))))))))))))
      have up13 : Same G13 Gf := s14.trans up14
      have up22 : Same G22 Gf := s23.trans (s25.trans (s26.trans (s27.trans (s28.trans (s29.trans (S34.trans sf))))))
      have up30 : Same G30 Gf := s31.trans (s33.trans (s34.trans sf))
      have up33 : Same G33 Gf := s34.trans sf
      obtain ⟨o1, x1⟩ := anyB v1 m9
      obtain ⟨o2, x2⟩ := anyB v2 m12
      obtain ⟨o3, x3⟩ := anyE v3 m18
      obtain ⟨o4, x4⟩ := anyB v4 m21
      obtain ⟨o6, x6⟩ := anyE v6 m29
      obtain ⟨o5, x5⟩ : ∃ o, ArgV K C Ce G6 v5 none (some o) := by
        simp only [List.mem_cons, List.not_mem_nil, or_false] at m26
        rcases m26 with rfl | rfl
        · exact ⟨_, non6⟩
        · exact ⟨_, done6⟩
      exact .cons ⟨l14, l13, v1, v2, .non, none, o2, some .no, rfl, up14 _ _ h14, up13 _ _ h13, x1.e.same SF, x2.b.same SF, non6.b.same SF, rfl⟩
        (.cons ⟨l23, l22, .ref a, v3, v4, some (t, i, b), none, o4, rfl, (s25.trans (s26.trans (s27.trans (s28.trans (s29.trans (S34.trans sf)))))) _ _ h23, up22 _ _ h22, ent6.e.same SF, x3.b.same SF, x4.b.same SF, rfl⟩
        (.cons ⟨l31, l30, .ref a, v5, v6, some (t, i, b), some o5, none, rfl, (s33.trans (s34.trans sf)) _ _ h31, up30 _ _ h30, ent6.e.same SF, x5.b.same SF, x6.b.same SF, rfl⟩
        (.cons ⟨l34, l33, .ref a, .non, .non, some (t, i, b), some .no, some .no, rfl, sf _ _ h34, up33 _ _ h33, ent6.e.same SF, non6.b.same SF, non6.b.same SF, rfl⟩ .nil)))
    generalize hrv : ([V.ref l14] ++ [V.ref l23] ++ [V.ref l31] ++ [V.ref l34]) = rv at *
    refine for_go (walk_list (xs := rv)) (fun j σ Hx => ∃ (Gi : Hp) (y5 y6 : Option V), σ = [some (.ref p), some (.ref a), some dv, some (.ref lo), some (.ref lr), y5, y6] ∧ Wd en Gi Hx [p] ∧ Same Gf Gi ∧ Tbs Ps L P1 q1 qi Hx ∧ PenAt p c (n + 6) Hx)
      ⟨Gf, _, _, rfl, wf, Same.refl _, tb35, P35⟩ (fun i σ Hx _ ⟨Gi, _, _, _, wi, si, _⟩ => wd_sqL wi (SqL.of (si _ _ hrf))) ?_ ?_
    · rintro j x σ Ha Hb hj ⟨Gi, y5, y6, rfl, wi, si, ti, Pi⟩ ⟨rfl, hx⟩
      have lr4 := Paired.length rows
      obtain ⟨k, hk⟩ : ∃ k, ([0, 1, 2, 2] : List Nat)[j]? = some k := ⟨_, List.getElem?_eq_getElem (by rw [← lr4]; exact hj)⟩
      obtain ⟨ra, rb, u1, u2, u3, o1, o2, o3, rfl, hra, hrb, he, hb1, hb2, hbad⟩ := (paired_get rows hx hk).same si
      have a0 : atI [u1, u2, u3] 0 = some u1 := rfl
      have a1 : atI [u1, u2, u3] 1 = some u2 := rfl
      have a2 : atI [u1, u2, u3] 2 = some u3 := rfl
      walk_at "qq"
      refine go_L ST wi enT cov ti hmT fun H1x c1x P1x md hcx => ?_
      refine the_cut (fun v Hx => ∃ (Gx : Hp) (a' : Addr), v = .ref a' ∧ Wd en Gx Hx [p] ∧ Same Gi Gx ∧ Tbs Ps L P1 q1 qi Hx ∧ PenAt p c (n + 6) Hx ∧ Gx a' = some (.tup [.str "entry", .int (k : Int)])) ?_ ?_
      · intro E' Q' hE hV
        have wmd := md.w
        walk_at "qq"
        refine u_askX md.w (he.same (Same.refl _)) (hb1.same (Same.refl _)) (hb2.same (Same.refl _)) (fun k' hk' d G' H' w' s' t' hd => ?_) (fun c0 p0 f0 e1 e2 e3 hno => bad_no hbad e1 e2 e3 hno)
        obtain rfl : k' = k := Option.some.inj (hk'.symm.trans hbad)
        exact hE _ _ H' ⟨en, G', [p], .int (k' : Int), d, w', rfl, rfl, hd, fun a2 G2 H2 w2 s2 t2 h2 => ⟨G2, a2, rfl, w2, s'.trans s2, tbs_same md.tb (t'.trans t2), ((Pi.ext md.x).same t').same t2, h2⟩⟩
      · rintro v H5 ⟨G5, a5', rfl, w5', s5', t5', P5', h5'⟩
        have hra5 := s5' _ _ hra
        have hrb5 := s5' _ _ hrb
        walk_at "qq"
        rename_i l6 G6' H6' n6' w6' s6' h6' t6'
        have d1 : Dp K H6' (.ref a5') (.tuple [.str "entry", .int (k : Int)]) := .tup (SqT.of (w6'.le _ _ (s6' _ _ h5'))) (.cons (.str _) (.cons (.int _) .nil))
        have d2 : Dp K H6' (.ref l6) (.tuple [.str "entry", .int (k : Int)]) := .tup (SqT.of (w6'.le _ _ h6')) (.cons (.str _) (.cons (.int _) .nil))
        refine r_neD d1 d2 (sh_entry k) (sh_entry k) ⟨_, rfl, ?_⟩
        rw [ev_entry]
        refine iteF ?_
        have t6x := tbs_same t5' t6'
        have P6x := P5'.same t6'
        have S6x := s5'.trans s6'
        have hrb6 := S6x _ _ hrb
        walk_at "qq"
        refine go_L ST w6' enT cov t6x hmT fun H1x c1x P1x md hcx => ?_
        refine the_cut (fun v Hx => ∃ (Gx : Hp) (a' : Addr), v = .ref a' ∧ Wd en Gx Hx [p] ∧ Same G6' Gx ∧ Tbs Ps L P1 q1 qi Hx ∧ PenAt p c (n + 6) Hx ∧ Gx a' = some (.tup [.str "entry", .int (k : Int)])) ?_ ?_
        · intro E' Q' hE hV
          have wmd := md.w
          walk_at "qq"
          refine ⟨rfl, ?_⟩
          show spAskX K C Ce Cb [u1, u2, u3] H1x Q' E'
          refine u_askX md.w (he.same S6x) (hb1.same S6x) (hb2.same S6x) (fun k' hk' d G' H' w' s' t' hd => ?_) (fun c0 p0 f0 e1 e2 e3 hno => bad_no hbad e1 e2 e3 hno)
          obtain rfl : k' = k := Option.some.inj (hk'.symm.trans hbad)
          exact hE _ _ H' ⟨en, G', [p], .int (k' : Int), d, w', rfl, rfl, hd, fun a2 G2 H2 w2 s2 t2 h2 => ⟨G2, a2, rfl, w2, s'.trans s2, tbs_same md.tb (t'.trans t2), ((P6x.ext md.x).same t').same t2, h2⟩⟩
        · rintro v H7 ⟨G7, a7, rfl, w7', s7', t7', P7', h7'⟩
          walk_at "qq"
          rename_i l8 G8' H8' n8' w8' s8' h8' t8'
          have d3 : Dp K H8' (.ref a7) (.tuple [.str "entry", .int (k : Int)]) := .tup (SqT.of (w8'.le _ _ (s8' _ _ h7'))) (.cons (.str _) (.cons (.int _) .nil))
          have d4 : Dp K H8' (.ref l8) (.tuple [.str "entry", .int (k : Int)]) := .tup (SqT.of (w8'.le _ _ h8')) (.cons (.str _) (.cons (.int _) .nil))
          refine r_neD d3 d4 (sh_entry k) (sh_entry k) ⟨_, rfl, ?_⟩
          rw [ev_entry]
          refine iteF ?_
          walk_at "qq"
          exact ⟨G8', _, _, rfl, w8', si.trans (S6x.trans (s7'.trans s8')), tbs_same t7' t8', P7'.same t8'⟩
    · rintro σ Ha ⟨Gi, y5, y6, rfl, wi, si, ti, Pi⟩
      walk_at "qq"
      subst een
      exact retTs_of k wi tabs_nil (by simp) Pi rfl ti
end
section
variable {P : Program} {w : World} {K : PySem.W.Frag} {mg : Str → Option Value} {base : Heap} {C Ce Cb : Addr}
theorem scCallN : FnScope nPlCall ["self", "answer"] (defScope sPlCall) := ⟨rfl, rfl, rfl, by decide +kernel, rfl, by decide +kernel, by decide +kernel⟩
theorem ok_callDone {g : Addr} {fd : FuncData} (F : FnP K "__call__" "Plan.__call__" sPlCall [] g fd) (T : Bi mg) (S : PlC K C) (Dp1 : PrD P w K mg base CX0 1 C "passed" (spPlFld C true)) (Dp2 : PrD P w K mg base CX0 1 C "failed" (spPlFld C false)) (EB : ErD P w K mg base "BadEntry" Cb (spErr1 Cb "at")) :
    FnOk P w K mg base (L2.CX P w) 6 g fd ["self", "answer"] (spPlayDone C Ce) := by
  refine fnP_okX F scCallN (fun vs H Q E h => ?_) (fun cdv A outer s H vs Q E hr h => ?_)
  · obtain ⟨G, v, x, rfl, _⟩ := h
    rfl
  · obtain ⟨G, v, x, rfl, sG, hb, k⟩ := h
    obtain ⟨a, dx, bl, el, rfl, ha, _⟩ := hb
    have hu64 := hr.units
    have kcls := S.c
    have n1 := S.n1
    refine ⟨_, (pss_cons (ps_set (i := 2) scCallN.nd rfl (Or.inl rfl) (pv 0))
        (pss_cons (ps_set (i := 3) scCallN.nd rfl (Or.inl rfl) (pe_lstM pa_nil))
        (pss_cons (ps_while (passes_of rfl) (pt_cmpR q_notN (pe_fld (pv 2) rfl) pe_non (nomark _)) (pss_cons (ps_set (i := 4) scCallN.nd rfl (Or.inl rfl) pe_never)
        (pss_cons (ps_set (i := 5) scCallN.nd rfl (Or.inl rfl) pe_non)
        (Evl.pss_cut (ps_if (PW.pt (pw_and (pt_val (pe_callB call_isi (by rfl) T.isinstance (by decide +kernel) (pa_cons (pv 4) (pa_cons (pe_bltn (v := .ty "str") (by rfl) T.str (by decide +kernel) rfl) pa_nil)))) (pw_and1 (pt_cmpR op_in_seq (pv 4) (pe_tup (pa_cons pe_str (pa_cons pe_str pa_nil))) (by rfl))))) (pss_one (ps_set (i := 5) scCallN.nd rfl (Or.inl rfl) (pe_ifExp (pt_cmpR (q_eq hu64) (pv 4) pe_str (nomark _)) (pe_propD (pv 2) Dp1 hr pass0) (pe_propD (pv 2) Dp2 hr pass0)))) pss_nil)
        (pss_cons (ps_if (pt_cmpR q_isN (pv 5) pe_non (nomark _)) (pss_one (ps_raiseD rfl takesD EB hr (pa_cons (pe_callB q_len (by rfl) T.len (by decide +kernel) (pa_cons (pv 3) pa_nil)) pa_nil))) pss_nil)
        (pss_cons (ps_expr (pe_bm PySem.F.plainAttrs_list PySem.F.slot_list_append PySem.F.type_list_append mt_append (pv 3) (pa_cons (pe_tup (pa_cons (pe_fld (pv 2) rfl) (pa_cons (pv 4) pa_nil))) pa_nil)))
        (pss_one (ps_set (i := 2) scCallN.nd rfl (Or.inl rfl) (pv 5)))))))))
        (pss_one (ps_ret (pe_callTy q_tupOf (by rfl) T.tuple (by decide +kernel) (pa_cons (pv 3) pa_nil))))))), ?_⟩
    have w0 := wd_pure sG
    unfold planF at ha
    walk_at "qq"
    rename_i fl H1 n1' w1 h1 s1 d1
    refine while_go (fun m σ Hx => ∃ (y4 y5 : Option V), σ = [some (.ref a), some x, some (.ref a), some (.ref fl), y4, y5] ∧ Wd ⟨H, G, [], []⟩ G Hx [fl] ∧ Hx fl = some (.lst [])) 0
      ⟨_, _, rfl, w1, h1⟩ ?_ ?_
    · rintro m σ Hx ⟨y4, y5, rfl, wi, hfl⟩
      walk_at "qq"
      refine ite_nd (fun h => absurd rfl h) (fun _ => ?_)
      walk_at "qq"
      refine r_tupOf (SqL.of hfl) ?_
      refine r_lay wi (Nat.zero_le _) (by intro ps z; cases z) fun l2 G2 H2 n2 w2 s2 h2 t2 => ?_
      walk_at "qq"
      exact ret_of k (wd_drop w2 (List.nil_sublist _)) ⟨l2, rfl, h2⟩
    · rintro σ H Q Q' hq ⟨x, h1, a2, dx2, fs2, v2, b1, b2, b3, b4⟩
      obtain ⟨k1, k2, k3, k4⟩ := b4
      refine ⟨x, h1, a2, dx2, fs2, v2, b1, b2, b3, k1, k2, k3, ?_⟩
      obtain ⟨e1, k, ek, hk⟩ := k4
      exact ⟨e1, k, ek, hq _ _ hk⟩
end
section
variable {P : Program} {w : World} {K : PySem.W.Frag} {mg : Str → Option Value} {base : Heap} {C Ce Cs Cb : Addr}
abbrev nLaw : List Str := ["_law_script", "_law_pen_here", "_law_turn", "_law_ticks", "_law_checks", "_law_tree_here", "_law_rest", "_law_made", "_law_fresh", "_law_told", "_law_things", "_law_k", "_law_thing"]
theorem scLaw : FnScope nLaw ["_law_script"] (defScope sLaw) := ⟨rfl, rfl, rfl, by decide +kernel, rfl, by decide +kernel, by decide +kernel⟩
abbrev qLaw : Str := (envOfC "law" (defScope sLaw) 0 0 .none).qual ++ ("<lambda>" : Str)
def spLaw (K : PySem.W.Frag) (cs : List (Addr × Addr)) : Sp := fun vs H Q _ => ∃ (a : Addr) (ns : List Int), vs = [.ref a] ∧ SqL K H a (ns.map V.int) ∧ ns.length ≤ 63 ∧ OnlyT cs H ∧ (∀ p ∈ cs, H p.2 = some (.tbl #[])) ∧ ∀ H', Q (.bl true) H'
theorem ints3 {xs : List V} (l : xs.length = 3) (h : ∀ v ∈ xs, ∃ d : Int, v = .int d ∧ 0 ≤ d ∧ d < 9) : ∃ a b c : Int, xs = [.int a, .int b, .int c] ∧ (0 ≤ a ∧ a < 9) ∧ (0 ≤ b ∧ b < 9) ∧ 0 ≤ c ∧ c < 9 := by
  match xs, l with
  | [x, y, z], _ =>
    obtain ⟨a, rfl, ha⟩ := h x (by simp)
    obtain ⟨b, rfl, hb⟩ := h y (by simp)
    obtain ⟨c, rfl, hc⟩ := h z (by simp)
    exact ⟨a, b, c, rfl, ha, hb, hc⟩
def adOf (a b c : Addr) : Nat → Addr
  | 0 => a
  | 1 => b
  | _ => c
theorem tabM_nil {H : Hp} {Ps : List Addr} {P : Addr} {q q2 : Str} (h : H P = some (.tbl #[])) : TabM H Ps P q q2 := by
  obtain ⟨ps, e, t, n⟩ := (TabI.nil (q := q) h)
  rw [h] at e
  cases e
  exact ⟨#[], h, t, fun pos cv hc => by cases hc⟩
theorem size_map {α β : Type} (g : α → β) : ∀ t : Tr α, (t.map g).size = t.size
  | .no => rfl
  | .done => rfl
  | .ask c p f => by simp only [Tr.map, Tr.size, size_map g p, size_map g f]
def two (a b : Nat) : PyData := .tuple [.int (a : Int), .int (b : Int)]
theorem two_sh {a b : Nat} (ha : a ≤ 15) (hb : b ≤ 4) : (two a b).showable = true := by
  have all : ∀ a : Fin 16, ∀ b : Fin 5, (two a.val b.val).showable = true := by decide +kernel
  exact all ⟨a, by omega⟩ ⟨b, by omega⟩
theorem two_dp {a b : Nat} : (two a b).depth ≤ 60 := by simp [two, PyData.depth, PyData.depthAll]
theorem two_sz {a b : Nat} (ha : a ≤ 15) (hb : b ≤ 4) : (two a b).shown.length ≤ sizeLine := by
  refine sz_m ?_
  have all : ∀ a : Fin 16, ∀ b : Fin 5, (two a.val b.val).shown.length ≤ 1000000 := by decide +kernel
  exact all ⟨a, by omega⟩ ⟨b, by omega⟩
def four (b : Bool) : PyData := .list [.bool b, .bool b, .bool (!b), .bool true]
theorem four_sh {b : Bool} : (four b).showable = true := by cases b <;> decide
theorem four_dp {b : Bool} : (four b).depth ≤ 60 := by cases b <;> decide
theorem four_sz {b : Bool} : (four b).shown.length ≤ sizeLine := by
  refine sz_m ?_
  cases b <;> decide +kernel
theorem _root_.L2.Dp.tup4 {K : PySem.W.Frag} {e : En} {G H : Hp} {M : List Addr} {l : Addr} {b : Bool} (w : Wd e G H M) (h : G l = some (.lst [.bl b, .bl b, .bl (!b), .bl true])) : Dp K H (.ref l) (four b) := .lst (SqL.of (w.le _ _ h)) (.cons (.bl _) (.cons (.bl _) (.cons (.bl _) (.cons (.bl _) .nil))))
theorem ok_law {f c1 c2 c3 pT1 pT2 pT3 : Addr} {fd : FuncData} (F : FnP K "law" "law" sLaw [] f fd) (T : Bi mg) (n12 : pT1 ≠ pT2) (n13 : pT1 ≠ pT3) (n23 : pT2 ≠ pT3) (S : PlC K C) (Sx : ClC K C) (Sex : ClC K Ce) (Ssx : ClC K Cs) (FC : FarC K C Ce Cs) (hPl : Gc mg "Plan" (.ref C)) (hSl : Gc mg "Stall" (.ref Cs)) (hneP : PySem.W.findIn K (.ref C) "__ne__" = some (some (.builtin "object.__ne__")))
    (De : Df P w K mg base CX0 1 "_law_pen" [] (spPen K)) (Dd : Df P w K mg base CX0 2 "_law_draw" [] spDraw) (DE : MkD P w K mg base CX0 3 "Entry" Ce [] (spEntInit Ce)) (Dt : Df P w K mg base CX0 7 "_law_tree" [] (spLTree 5)) (Dpl : Df P w K mg base CX0 10 "_law_planned" [] (spPlannedX C Ce 5))
    (Dln : SpD P w K mg base CX0 1 C "__len__" (spPlLen C Ce)) (Ddp : PrD P w K mg base CX0 11 C "depth" (spPlDeep C Ce 5)) (Dsz : Df P w K mg base CX0 6 "_law_sizes" [] (spSizes 5)) (DSt : SpD P w K mg base CX0 16 C "__str__" (spPlStr C Ce 5)) (Dwo : Df P w K mg base CX0 8 "_law_wording" [] (spWording Ce 5))
    (DeqP : SpD P w K mg base CX0 7 C "__eq__" (spPlEqX K C Ce 5)) (Dpa : Df P w K mg base CX0 8 "_law_parts_right" [] (spPartsR C Ce 5)) (Ddo : StD P w K mg base CX0 3 C "done" (spDoneX C Ce)) (Den : StD P w K mg base CX0 3 Cs "end" (spStallEnd Cs))
    (Dck : CallK P w K mg base (L2.CX P w) 6 C ["answer"] (fun vs zs => vs ++ zs) (spPlayDone C Ce)) (TB : LamX.TabB base mg (codeA K f) pT1)
    (Dpr : DfA P w K mg base CX0 9 "_law_play_right" [] (spPlayR C Ce [pT1, pT2, pT3] [(pT1, qLaw), (pT3, qRefR)] pT2 qPlayR qIn)) (Drf : DfA P w K mg base CX0 9 "_law_refused_right" [] (spRefPl Ce [pT1, pT2, pT3] [(pT1, qLaw), (pT3, qRefR)] pT2 qPlayR qIn)) :
    FnA P w K mg base CX0 20 f fd ["_law_script"] (spLaw K [(c1, pT1), (c2, pT2), (c3, pT3)]) := by
  refine fnP_okAT F scLaw (fun vs H Q E h => ?_) (fun A outer s H vs Q E g0 hr h => ?_)
  · obtain ⟨a, ns, rfl, _⟩ := h
    rfl
  · obtain ⟨a, ns, rfl, ha, hl, only, htb, k⟩ := h
    have hu64 := hr.units
    have cmP := S.cm
    refine ⟨_, (pss_cons (ps_set (i := 1) scLaw.nd rfl (Or.inr rfl) (pe_callD De hr pass0 (pa_cons (pv 0) pa_nil)))
        (pss_cons (ps_for PassesOwn.never rfl (pi_range1 rfl T.range (pa_cons pe_int pa_nil)) (pg_name (i := 2) scLaw.nd rfl (Or.inl rfl)) (pss_cons (ps_setLc (i := 3) (own := [("_law_k", 11)]) (g := gName 11) (tt := tYes) rfl scLaw.nd rfl rfl (sw_true rfl rfl rfl (by decide +kernel)) (pi_range1 rfl T.range (pa_cons pe_int pa_nil)) (blkOk_by (own := [("_law_k", 11)]) (N := nLaw) (sc := defScope sLaw) (by decide +kernel)) (fun _ _ _ _ _ => (pg_name (i := 11) scLaw.nd rfl (by first | exact Or.inl rfl | exact Or.inr rfl))) (fun _ _ _ _ _ => pts_nil) (fun _ _ _ _ _ => (pe_callD Dd hr pass0 (pa_cons (pv 1) (pa_cons pe_int pa_nil)))))
        (pss_cons (ps_set (i := 4) scLaw.nd rfl (Or.inl rfl) (pe_lst (pa_cons (pe_makeD DE hr pass0 (pa_cons pe_str (pa_cons (pe_ix q_ix (pv 3) pe_int (fun _ _ => rfl)) (pa_cons pe_str pa_nil)))) (pa_cons (pe_makeD DE hr pass0 (pa_cons pe_str (pa_cons (pe_ix q_ix (pv 3) pe_int (fun _ _ => rfl)) (pa_cons pe_str pa_nil)))) (pa_cons (pe_makeD DE hr pass0 (pa_cons pe_str (pa_cons (pe_ix q_ix (pv 3) pe_int (fun _ _ => rfl)) (pa_cons pe_str pa_nil)))) pa_nil)))))
        (pss_cons (ps_par (i := 5) (j := 6) (by rfl) scLaw.nd rfl rfl (by decide) rfl rfl (pa_cons (pe_callD Dt hr pass0 (pa_cons (pv 1) (pa_cons pe_int (pa_cons pe_int pa_nil)))) (pa_cons (pe_callD Dt hr pass0 (pa_cons (pv 1) (pa_cons pe_int (pa_cons pe_int pa_nil)))) pa_nil)) (by rfl))
        (pss_cons (ps_asg (pe_tup (pa_cons (pe_callD Dpl hr pass0 (pa_cons (pv 5) (pa_cons (pv 4) pa_nil))) (pa_cons (pe_callD Dpl hr pass0 (pa_cons (pv 6) (pa_cons (pv 4) pa_nil))) pa_nil))) (pg_tup rfl (pgs_cons (pg_name (i := 7) scLaw.nd rfl (Or.inr rfl)) (pgs_cons (pg_name (i := 8) scLaw.nd rfl (Or.inl rfl)) pgs_nil))))
        (pss_cons (ps_if (PW.pt (pw_or (pt_cmpR (q_ne hu64) (pe_callB (call_repr g0 hu64) (by rfl) T.repr (by decide +kernel) (pa_cons (pe_tup (pa_cons (pe_callB (show CallR _ (.builtin "len") (rLenO C (spPlLen C Ce) E0) from q_lenO Dln hr pass0) (by rfl) T.len (by decide +kernel) (pa_cons (pv 7) pa_nil)) (pa_cons (pe_propD (pv 7) Ddp hr pass0) pa_nil))) pa_nil)) (pe_callB (call_repr g0 hu64) (by rfl) T.repr (by decide +kernel) (pa_cons (pe_callD Dsz hr pass0 (pa_cons (pv 5) pa_nil)) pa_nil)) (nomark _)) (pw_or1 (pt_cmpR (q_ne hu64) (pe_callTy (show CallR _ (.type "str") (rStrI C (spPlStr C Ce 5) E0) from q_strD DSt hr pass0) (by rfl) T.str (by decide +kernel) (pa_cons (pv 7) pa_nil)) (pe_callD Dwo hr pass0 (pa_cons (pv 5) (pa_cons (pv 4) pa_nil))) (nomark _))))) (pss_one (ps_ret pe_bl)) pss_nil)
        (pss_cons (ps_set (i := 9) scLaw.nd rfl (Or.inl rfl) (pe_lst (pa_cons (pe_cmpR (show OpR _ (compareOp .Eq) (rEqI K C (spPlEqX K C Ce 5) E0) from q_eqD DeqP hr pass0) (pv 7) (pv 8) (nomark _)) (pa_cons (pe_cmpR (show OpR _ (compareOp .Eq) (rEqI K C (spPlEqX K C Ce 5) E0) from q_eqD DeqP hr pass0) (pv 8) (pv 7) (nomark _)) (pa_cons (pe_cmpR (show OpR _ (compareOp .NotEq) (rNeI K C (spPlEqX K C Ce 5) E0) from q_neD hneP cmP DeqP hr pass0) (pv 7) (pv 8) (nomark _)) (pa_cons (pe_cmpR (show OpR _ (compareOp .Eq) (rEqI K C (spPlEqX K C Ce 5) E0) from q_eqD DeqP hr pass0) (pv 7) (pe_callD Dpl hr pass0 (pa_cons (pv 5) (pa_cons (pv 4) pa_nil))) (nomark _)) pa_nil))))))
        (pss_cons (ps_if (pt_cmpR (q_ne hu64) (pe_callB (call_repr g0 hu64) (by rfl) T.repr (by decide +kernel) (pa_cons (pv 9) pa_nil)) (pe_callB (call_repr g0 hu64) (by rfl) T.repr (by decide +kernel) (pa_cons (pe_lst (pa_cons (pe_cmpR (q_eq hu64) (pv 5) (pv 6) (nomark _)) (pa_cons (pe_cmpR (q_eq hu64) (pv 5) (pv 6) (nomark _)) (pa_cons (pe_cmpR (q_ne hu64) (pv 5) (pv 6) (nomark _)) (pa_cons pe_bl pa_nil))))) pa_nil)) (nomark _)) (pss_one (ps_ret pe_bl)) pss_nil)
        (pss_cons (ps_if (PW.pt (pw_or (pt_not (pt_val (pe_callD Dpa hr pass0 (pa_cons (pv 7) (pa_cons (pv 5) (pa_cons (pv 4) pa_nil)))))) (pw_or1 (pt_not (pt_val (pe_callDA Dpr g0 hr pass0 (pa_cons (pv 1) (pa_cons (pv 7) (pa_cons (pv 5) (pa_cons (pv 4) pa_nil)))))))))) (pss_one (ps_ret pe_bl)) pss_nil)
        (pss_cons (ps_set (i := 10) scLaw.nd rfl (Or.inl rfl) (pe_lst (pa_cons pe_non (pa_cons (pe_callTy (show CallR _ (.type "str") (rStrI C (spPlStr C Ce 5) E0) from q_strD DSt hr pass0) (by rfl) T.str (by decide +kernel) (pa_cons (pv 7) pa_nil)) (pa_cons (pe_ix q_ix (pv 4) pe_int (fun _ _ => rfl)) (pa_cons (pe_statD (pe_gc hSl) Den hr pass0 (pa_cons pe_int pa_nil)) (pa_cons (pe_lst (pa_cons (pv 7) pa_nil)) (pa_cons (pe_tup pa_nil) pa_nil))))))))
        (pss_one (ps_if (PW.pt (pw_or (pt_cmpR (q_neNil hu64) (pe_lc (own := [("_law_thing", 12)]) (g := gName 12) rfl scLaw.nd (pi_list (pv 10)) (blkOk_by (own := [("_law_thing", 12)]) (N := nLaw) (sc := defScope sLaw) (by decide +kernel)) (fun _ _ _ _ _ => (pg_name (i := 12) scLaw.nd rfl (by first | exact Or.inl rfl | exact Or.inr rfl))) (fun _ _ _ _ _ => (pts_one (pt_cmpR (show OpR _ (compareOp .Eq) (rEqI K C (spPlEqX K C Ce 5) E0) from q_eqD DeqP hr pass0) (pv 7) (pv 12) (nomark _)))) (fun _ _ _ _ _ => (pv 12))) (pe_lst pa_nil) (nomark _)) (pw_or1 (pt_not (pt_val (pe_callDA Drf g0 hr pass0 (pa_cons (pv 1) (pa_cons (pe_ix q_ix (pv 4) pe_int (fun _ _ => rfl)) pa_nil)))))))) (pss_one (ps_ret pe_bl)) pss_nil))))))))))))
        (pss_one (ps_ret (pe_and (pe_cmpR (q_eq hu64) (pe_callOK (E := E0) (pe_statD0 (pe_gc hPl) Ddo hr pass0) Dck hr passX0 (pk_cons (pe_lamF TB rfl rfl) pk_nil)) (pe_tup pa_nil) (nomark _)) (pe_one (pe_cmpR (q_eq hu64) (pe_callB (show CallR _ (.builtin "len") (rLenO C (spPlLen C Ce) E0) from q_lenO Dln hr pass0) (by rfl) T.len (by decide +kernel) (pa_cons (pe_statD0 (pe_gc hPl) Ddo hr pass0) pa_nil)) pe_int (nomark _)))))))), ?_⟩
    obtain ⟨en, G0, w0, ha0, enT, cov⟩ := law_startK (cs := [(c1, pT1), (c2, pT2), (c3, pT3)]) [(pT1, qLaw), (pT2, qPlayR), (pT3, qRefR)] rfl only htb ha
    have e45 : costT 4 = 45 := by decide
    have ST : TbsS [pT1, pT2, pT3] [(pT1, qLaw), (pT3, qRefR)] pT2 := ⟨by simp, fun x hx => by
      simp only [List.mem_cons, List.not_mem_nil, or_false] at hx
      rcases hx with rfl | rfl
      · exact ⟨by simp, n12⟩
      · exact ⟨by simp, n23.symm⟩, fun x hx y hy e => by
      simp only [List.mem_cons, List.not_mem_nil, or_false] at hx hy
      rcases hx with rfl | rfl <;> rcases hy with rfl | rfl
      · rfl
      · exact absurd e n13
      · exact absurd e n13.symm
      · rfl⟩
    have tb0 : Tbs [pT1, pT2, pT3] [(pT1, qLaw), (pT3, qRefR)] pT2 qPlayR qIn H := ⟨fun x hx => by
      simp only [List.mem_cons, List.not_mem_nil, or_false] at hx
      rcases hx with rfl | rfl | rfl
      · exact ⟨_, htb (c1, _) (by simp)⟩
      · exact ⟨_, htb (c2, _) (by simp)⟩
      · exact ⟨_, htb (c3, _) (by simp)⟩, fun x hx => by
      simp only [List.mem_cons, List.not_mem_nil, or_false] at hx
      rcases hx with rfl | rfl
      · exact .nil (htb (c1, _) (by simp))
      · exact .nil (htb (c3, _) (by simp)), tabM_nil (htb (c2, _) (by simp))⟩
    walk_at "qq"
    refine u_pen w0 ha0 hl fun p c G1 H1 w1 s1 t1 hc P1 => ?_
    have tb1 := tbs_same tb0 t1
    walk_at "qq"
    refine for_go walk_range (fun i σ Hx => ∃ (Gi : Hp) (x2 x3 x4 x5 x6 x7 x8 x9 x10 x11 x12 : Option V), σ = [some (.ref a), some (.ref p), x2, x3, x4, x5, x6, x7, x8, x9, x10, x11, x12] ∧ Wd en Gi Hx [p] ∧ Same G1 Gi ∧ PenAt p c (200 * i) Hx ∧ Tbs [pT1, pT2, pT3] [(pT1, qLaw), (pT3, qRefR)] pT2 qPlayR qIn Hx)
      ⟨G1, _, _, _, _, _, _, _, _, _, _, _, rfl, w1, Same.refl _, P1, tb1⟩ (fun _ _ _ _ _ => trivial) ?_ ?_
    · rintro i xi σ Ha Hb hi ⟨Gi, x2, x3, x4, x5, x6, x7, x8, x9, x10, x11, x12, rfl, wi, si, Pi, tbi⟩ ⟨rfl, hx⟩
      have hi6 : i < 5 := hi
      have hci := hc.same si
      walk_at "qq"
      refine lc_go wi walk_range (fun j acc Gx Hx => acc.length = j ∧ (∀ v ∈ acc, ∃ d : Int, v = .int d ∧ 0 ≤ d ∧ d < 9) ∧ PenAt p c (200 * i + j) Hx ∧ Tbs [pT1, pT2, pT3] [(pT1, qLaw), (pT3, qRefR)] pT2 qPlayR qIn Hx) (fun Dd Hx wx sx nm => ⟨rfl, (fun _ h => by cases h), Pi.same sx, tbs_same tbi sx⟩) (fun _ _ _ _ _ _ _ => trivial) ?_ ?_
      · rintro Dd j acc Gx Hx x Hy hj hl wx sx hD nm ⟨la, ga, Pa, ta⟩ ⟨rfl, hx⟩
        have nep : Dd ≠ p := nm p (by simp)
        have hj5 : j < 3 := hj
        walk_at "qq"
        refine u_draw wx (by simp) (hci.same sx) Pa (by omega) (by decide) (by decide) fun d2 G2 H2 w2 s2 b2 P2 d20 d21 => ?_
        have hD2 := b2 _ _ nep hD
        have tb2 := tbs_pen ta Pa b2
        refine r_lcAdd w2 (sx.trans s2) hD2 hl (by omega) fun H5 w5 b5 => ⟨by rw [List.length_append, la]; rfl, fun u hu => ?_, P2.but b5 nep.symm, tbs_lst tb2 hD2 b5⟩
        rcases List.mem_append.mp hu with hu | hu
        · exact ga u hu
        · obtain rfl := List.mem_singleton.mp hu
          exact ⟨d2, rfl, d20, d21⟩
      rintro lt ts Gt G2 H2 _ w2 s2 s2' hlt ⟨l3, g3, P2', tb2⟩
      have P2 : PenAt p c (200 * i + 3) H2 := P2'
      obtain ⟨d1, d2, d3, rfl, hd1, hd2, hd3⟩ := ints3 l3 g3
      have r1 : RightE (Str.ofString "a") d1 (Str.ofString "b") := ⟨by decide +kernel, by decide +kernel, hd1.1, by have := hd1.2; omega⟩
      have r2 : RightE (Str.ofString "b") d2 (Str.ofString "a") := ⟨by decide +kernel, by decide +kernel, hd2.1, by have := hd2.2; omega⟩
      have r3 : RightE (Str.ofString "std") d3 (Str.ofString "std") := ⟨by decide +kernel, by decide +kernel, hd3.1, by have := hd3.2; omega⟩
      have b0 : atI [V.int d1, V.int d2, V.int d3] 0 = some (.int d1) := rfl
      have b1 : atI [V.int d1, V.int d2, V.int d3] 1 = some (.int d2) := rfl
      have b2 : atI [V.int d1, V.int d2, V.int d3] 2 = some (.int d3) := rfl
      walk_at "qq"
      refine u_ent w2 r1 fun e1 G3 H3 w3 s3 t3 he1 => ?_
      have hlt3 := s3 _ _ hlt
      walk_at "qq"
      refine u_ent w3 r2 fun e2 G4 H4 w4 s4 t4 he2 => ?_
      have hlt4 := s4 _ _ hlt3
      walk_at "qq"
      refine u_ent w4 r3 fun e3 G5 H5 w5 s5 t5 he3 => ?_
      walk_at "qq"
      rename_i l6 G6 H6 n6 w6 s6 h6 t6
      obtain ⟨gg, ad, hck, rgg, inj⟩ : ∃ (gg : Nat → Ck) (ad : Nat → Addr), CksE Ce G6 l6 gg ad ∧ rightG gg ∧ ∀ i j, i < 3 → j < 3 → gg i = gg j → i = j := by
        refine ⟨ckOf (Str.ofString "a", d1, Str.ofString "b") (Str.ofString "b", d2, Str.ofString "a") (Str.ofString "std", d3, Str.ofString "std"), adOf e1 e2 e3, ⟨h6, fun i hi => ?_⟩, fun i hi => ?_, fun i j hi hj e => ?_⟩
        · match i, hi with
          | 0, _ => exact he1.same (s4.trans (s5.trans s6))
          | 1, _ => exact he2.same (s5.trans s6)
          | 2, _ => exact he3.same s6
        · match i, hi with
          | 0, _ => exact r1
          | 1, _ => exact r2
          | 2, _ => exact r3
        · have e := congrArg Prod.fst e
          match i, hi, j, hj, e with
          | 0, _, 0, _, _ => rfl
          | 1, _, 1, _, _ => rfl
          | 2, _, 2, _, _ => rfl
          | 0, _, 1, _, e => exact absurd e (show Str.ofString "a" ≠ Str.ofString "b" by decide +kernel)
          | 0, _, 2, _, e => exact absurd e (show Str.ofString "a" ≠ Str.ofString "std" by decide +kernel)
          | 1, _, 0, _, e => exact absurd e (show Str.ofString "b" ≠ Str.ofString "a" by decide +kernel)
          | 1, _, 2, _, e => exact absurd e (show Str.ofString "b" ≠ Str.ofString "std" by decide +kernel)
          | 2, _, 0, _, e => exact absurd e (show Str.ofString "std" ≠ Str.ofString "a" by decide +kernel)
          | 2, _, 1, _, e => exact absurd e (show Str.ofString "std" ≠ Str.ofString "b" by decide +kernel)
      have T6 : Same H2 H6 := t3.trans (t4.trans (t5.trans t6))
      have S6 : Same Gi G6 := s2.trans (s3.trans (s4.trans (s5.trans s6)))
      have P6 := P2.same T6
      have tb6 := tbs_same tb2 T6
      have hc6 := hci.same S6
      clear he1 he2 he3 h6 r1 r2 r3 hlt4 hlt3 b0 b1 b2
      walk_at "qq"
      refine u_lTree (d := 4) w6 (by simp) hc6 P6 (by omega) (by decide) (by decide) fun v7 q7 G7 H7 w7 s7 b7 P7 ht7 ok7 => ?_
      rw [e45] at P7
      have tb7 := tbs_pen tb6 P6 b7
      walk_at "qq"
      refine u_lTree (d := 4) w7 (by simp) (hc6.same s7) P7 (by omega) (by decide) (by decide) fun v8 q8 G8 H8 w8 s8 b8 P8 ht8 ok8 => ?_
      rw [e45] at P8
      have tb8 := tbs_pen tb7 P7 b8
      have okB7 : q7.okB 4 = true := by unfold Tr.okB; rw [ok7, Bool.or_true]
      have okB8 : q8.okB 4 = true := by unfold Tr.okB; rw [ok8, Bool.or_true]
      have ht7 := ht7.same s8
      have hck8 := hck.same (s7.trans s8)
      walk_at "qq"
      refine u_plannedX (d := 4) w8 ht7 (by decide) okB7 hck8 fun m9 G9 H9 w9 s9 t9 hm9 hn9 => ?_
      walk_at "qq"
      refine u_plannedX (d := 4) w9 (ht8.same s9) (by decide) okB8 (hck8.same s9) fun m10 G10 H10 w10 s10 t10 hm10 hn10 => ?_
      have ok9 : (q7.map gg).ok 4 = true := by rw [Tr.ok_map]; exact ok7
      have ok10 : (q8.map gg).ok 4 = true := by rw [Tr.ok_map]; exact ok8
      have no9 := ok_no ok9
      have no10 := ok_no ok10
      have hm9' := hm9.same s10
      obtain ⟨x9, dx9, fs9, rfl, hx9, ty9⟩ := pl_ref w10 S hm9' no9
      obtain ⟨x10, dx10, fs10, rfl, hx10, ty10⟩ := pl_ref w10 S hm10 no10
      have sz9 : q7.size ≤ 15 := size_ok 4 q7 okB7
      have dp9 : q7.deep ≤ 4 := ok_deep 4 q7 okB7
      have eS := size_map gg q7
      have eD := deep_map gg q7
      walk_at "qq"
      rename_i l11 G11 H11 n11 w11 s11 h11 t11
      have hm11 := hm9'.same s11
      refine r_lenO (t11 _ _ hx9) (u_plLen w11 hm11 no9 (by rw [eS]; omega) fun G12 H12 w12 s12 t12 => ⟨_, rfl, by omega, by rw [eS]; omega, ?_⟩)
      rw [eS]
      have hx12 := t12 _ _ (t11 _ _ hx9)
      walk_at "qq"
      refine u_plDeep (d := 4) w12 (by decide) (hm11.same s12) ok9 fun G13 H13 w13 s13 t13 => ?_
      rw [eD]
      walk_at "qq"
      rename_i l14 G14 H14 n14 w14 s14 h14 t14
      refine r_repr (d := two q7.size q7.deep) (.tup (SqT.of (w14.le _ _ h14)) (.cons (.int _) (.cons (.int _) .nil))) (two_sh sz9 dp9) two_dp (two_sz sz9 dp9) ?_
      have S14 : Same G8 G14 := s9.trans (s10.trans (s11.trans (s12.trans (s13.trans s14))))
      have T14 : Same H10 H14 := t11.trans (t12.trans (t13.trans t14))
      walk_at "qq"
      refine u_sizes (d := 4) w14 (ht7.same S14) (by decide) okB7 fun l15 G15 H15 w15 s15 t15 h15 => ?_
      walk_at "qq"
      refine r_repr (d := two q7.size q7.deep) (.tup (SqT.of (w15.le _ _ h15)) (.cons (.int _) (.cons (.int _) .nil))) (two_sh sz9 dp9) two_dp (two_sz sz9 dp9) ?_
      have hx15 := t15 _ _ (T14 _ _ hx9)
      walk_at "qq"
      refine ite_nd (fun h => absurd rfl h) (fun _ => ?_)
      walk_at "qq"
      have rt := map_right rgg ht7.lt3
      have hm15 : BrX C Ce G15 (q7.map gg) (.ref x9) := hm11.same (s12.trans (s13.trans (s14.trans s15)))
      have S15 : Same G8 G15 := S14.trans s15
      refine r_strI hx15 (u_plStr w15 hm15.at_ (by decide) ok9 rt fun G16 H16 w16 s16 t16 => ⟨_, rfl, ?_⟩)
      walk_at "qq"
      refine u_wording (d := 4) w16 (ht7.same (S15.trans s16)) (by decide) okB7 (hck8.same (S15.trans s16)) rgg fun G17 H17 w17 s17 t17 => ?_
      have hx17 := t17 _ _ (t16 _ _ hx15)
      walk_at "qq"
      refine ite_nd (fun h => absurd rfl h) (fun _ => ?_)
      have T17 : Same H10 H17 := T14.trans (t15.trans (t16.trans t17))
      have S17 : Same G10 G17 := s11.trans (s12.trans (s13.trans (s14.trans (s15.trans (s16.trans s17)))))
      have hm17 : BrX C Ce G17 (q7.map gg) (.ref x9) := hm15.same (s16.trans s17)
      have hn17 : BrX C Ce G17 (q8.map gg) (.ref x10) := hm10.same S17
      have hy17 := T17 _ _ hx10
      have lt7 := ht7.lt3
      have lt8 := ht8.lt3
      have eb : ∀ {t u : Tr Nat}, t.lt3 → u.lt3 → (t.map gg).same (u.map gg) = t.same u := fun {t u} h1 h2 => by
        have z := map_inj inj h1 h2
        cases c : (t.map gg).same (u.map gg) with
        | true => exact (Tr.same_iff.mpr (z.mp (Tr.same_iff.mp c))).symm
        | false => exact (Tr.same_ne fun e => by rw [Tr.same_iff.mpr (z.mpr e)] at c; cases c).symm
      have e78 : (q7.map gg).same (q8.map gg) = q7.same q8 := eb lt7 lt8
      have e87 : (q8.map gg).same (q7.map gg) = q7.same q8 := by
        rw [eb lt8 lt7]
        cases c : q7.same q8 with
        | true => rw [Tr.same_iff.mp c, Tr.same_self]
        | false => exact Tr.same_ne fun e => by rw [e, Tr.same_self] at c; cases c
      walk_at "qq"
      have ty10' : TyX K H17 (.ref x10) (.ref C) := same_ty T17 ty10
      have ty9' : TyX K H17 (.ref x9) (.ref C) := same_ty T17 ty9
      refine r_eqI hx17 ty10' S.fme (u_plEqX w17 hm17 (by decide) ok9 (.inr ⟨_, hn17, ok10, rfl⟩) fun G18 H18 w18 s18 t18 => ?_)
      rw [e78]
      walk_at "qq"
      refine r_eqI (t18 _ _ hy17) (same_ty t18 ty9') S.fme (u_plEqX w18 (hn17.same s18) (by decide) ok10 (.inr ⟨_, hm17.same s18, ok9, rfl⟩) fun G19 H19 w19 s19 t19 => ?_)
      rw [e87]
      have T19 := t18.trans t19
      have S19 := s18.trans s19
      walk_at "qq"
      refine r_neI (T19 _ _ hx17) (same_ty T19 ty10') S.fme (u_plEqX w19 (hm17.same S19) (by decide) ok9 (.inr ⟨_, hn17.same S19, ok10, rfl⟩) fun G20 H20 w20 s20 t20 => ⟨_, rfl, ?_⟩)
      rw [e78]
      have S20 := S19.trans s20
      have T20 := T19.trans t20
      walk_at "qq"
      have S8_20 : Same G8 G20 := s9.trans (s10.trans (S17.trans S20))
      refine u_plannedX (d := 4) w20 (ht7.same S8_20) (by decide) okB7 (hck8.same S8_20) fun m21 G21 H21 w21 s21 t21 hm21 hn21 => ?_
      obtain ⟨x21, dx21, fs21, rfl, hx21, ty21⟩ := pl_ref w21 S hm21 no9
      refine r_eqI (t21 _ _ (T20 _ _ hx17)) ty21 S.fme (u_plEqX w21 (hm17.same (S20.trans s21)) (by decide) ok9 (.inr ⟨_, hm21, ok9, rfl⟩) fun G22 H22 w22 s22 t22 => ?_)
      rw [Tr.same_self]
      have T22 : Same H17 H22 := T20.trans (t21.trans t22)
      walk_at "qq"
      rename_i l23 G23 H23 n23 w23 s23 h23 t23
      generalize hbb : q7.same q8 = bb at *
      refine r_repr (d := four bb) (.tup4 w23 h23) four_sh four_dp four_sz ?_
      have S23 : Same G8 G23 := S8_20.trans (s21.trans (s22.trans s23))
      have d7 : Dp K H23 v7 (treeD q7) := same_dp w23.le (ht7.same S23).dp
      have d8 : Dp K H23 v8 (treeD q8) := same_dp w23.le (ht8.same S23).dp
      have sd7 := treeD_shaped (d := 4) (by decide) okB7
      have sd8 := treeD_shaped (d := 4) (by decide) okB8
      have ev := treeD_eqv q7 q8
      rw [hbb] at ev
      walk_at "qq"
      rename_i l24 G24 H24 n24 w24 s24 h24 t24
      rw [ev] at h24
      refine r_repr (d := four bb) (.tup4 w24 h24) four_sh four_dp four_sz ?_
      have T24 : Same H17 H24 := T22.trans (t23.trans t24)
      have S24 : Same G8 G24 := S23.trans s24
      have S9_24 : Same G9 G24 := s10.trans (S17.trans (S20.trans (s21.trans (s22.trans (s23.trans s24)))))
      walk_at "qq"
      refine ite_nd (fun h => absurd rfl h) (fun _ => ?_)
      walk_at "qq"
      refine u_partsR (d := 4) w24 (ht7.same S24) (by decide) ok7 (hck8.same S24) (hn9.same S9_24) fun G25 H25 w25 s25 t25 => ?_
      have T25 : Same H8 H25 := t9.trans (t10.trans (T17.trans (T24.trans t25)))
      have tb25 := tbs_same tb8 T25
      have P25 := P8.same T25
      have S25 : Same G8 G25 := S24.trans s25
      walk_at "qq"
      refine u_playR w25 (by simp) enT cov (hc6.same (s7.trans (s8.trans S25))) P25 (by omega) (ht7.same S25) ok7 (hck8.same S25) (hn9.same (S9_24.trans s25)) tb25 fun G26 H26 w26 s26 P26 tb26 => ?_
      have S26 : Same G8 G26 := S25.trans s26
      walk_at "qq"
      have hm26 : BrX C Ce G26 (q7.map gg) (.ref x9) := hm17.same (S20.trans (s21.trans (s22.trans (s23.trans (s24.trans (s25.trans s26))))))
      obtain ⟨_, dx26, fs26, e26, hx26, _⟩ := pl_ref w26 S hm26 no9
      cases e26
      refine r_strI hx26 (u_plStr w26 hm26.at_ (by decide) ok9 rt fun G27 H27 w27 s27 t27 => ⟨_, rfl, ?_⟩)
      obtain ⟨cs, hcs, hat0, hen0⟩ := (hck8.same (S26.trans s27)).get (k := 0) (by decide)
      walk_at "qq"
      refine u_stallEnd w27 fun a28 dx28 fs28 G28 H28 w28 s28 t28 h28 => ?_
      walk_at "qq"
      rename_i l29 G29 H29 n29 w29 s29 h29 t29 l30 G30 H30 n30 w30 s30 h30 t30 l31 G31 H31 n31 w31 s31 h31 t31
      have S31 : Same G27 G31 := s28.trans (s29.trans (s30.trans s31))
      have T31 : Same H26 H31 := t27.trans (t28.trans (t29.trans (t30.trans t31)))
      have hth : ∀ v ∈ ([.non, .str (q7.map gg).text, .ref (ad 0), .ref a28, .ref l29, .ref l30] : List V), ∃ u, TyX K G31 v u ∧ PySem.W.kitOne K u (.ref C) = some false ∧ PySem.W.notFirst K C u = true := fun v hv => by
        simp only [List.mem_cons, List.not_mem_nil, or_false] at hv
        rcases hv with rfl | rfl | rfl | rfl | rfl | rfl
        · exact Sx.noK plain_non
        · exact Sx.noK (plain_str _)
        · obtain ⟨_, dxe, fce, hie, _⟩ := id hen0
          exact ⟨_, Sex.ty (S31 _ _ hie), FC.ep, FC.nfe⟩
        · exact ⟨_, Ssx.ty (s31 _ _ (s30 _ _ (s29 _ _ h28))), FC.sp, FC.nfs⟩
        · exact Sx.noK (plain_lst (s31 _ _ (s30 _ _ h29)))
        · exact Sx.noK (plain_tup (s31 _ _ h30))
      have h31 : G31 l31 = some (.lst [.non, .str (q7.map gg).text, .ref (ad 0), .ref a28, .ref l29, .ref l30]) := h31
      generalize ([.non, .str (q7.map gg).text, .ref (ad 0), .ref a28, .ref l29, .ref l30] : List V) = things at hth h31
      have tb31 := tbs_same tb26 T31
      have P31 := P26.same T31
      have hm31 : BrX C Ce G31 (q7.map gg) (.ref x9) := hm26.same (s27.trans S31)
      refine lc_go w31 (walk_list (xs := things)) (fun j acc _ Hx => acc = [] ∧ PenAt p c (200 * i + 3 + 45 + 45 + 8) Hx ∧ Tbs [pT1, pT2, pT3] [(pT1, qLaw), (pT3, qRefR)] pT2 qPlayR qIn Hx) (fun Dd Hx wx sx nm => ⟨rfl, P31.same sx, tbs_same tb31 sx⟩) (fun _ _ Gy Hy wy sy _ => wd_sqL wy (SqL.of (sy _ _ h31))) ?_ ?_
      · rintro Dd j acc Gx Hx x Hy hj hl wx sx hD nm ⟨rfl, Px, tx⟩ ⟨rfl, hx⟩
        obtain ⟨u, ty, kit, nf⟩ := hth x (List.mem_of_getElem? hx)
        have hmx := hm31.same sx
        obtain ⟨_, dxx, fsx, ex, hxx, _⟩ := pl_ref wx S hmx no9
        cases ex
        walk_at "qq"
        refine r_eqI hxx (same_ty (sx.trans wx.le) ty) nf (u_plEqX wx hmx (by decide) ok9 (.inl ⟨u, same_ty sx ty, kit, rfl⟩) fun G32 H32 w32 s32 t32 => ⟨_, rfl, iteF ?_⟩)
        exact ⟨_, G32, w32, sx.trans s32, t32 _ _ hD, Nat.zero_le _, rfl, Px.same t32, tbs_same tx t32⟩
      rintro l32 acc Gq G32 H32 _ w32 s32 s32' h32 ⟨rfl, P32, tb32⟩
      walk_at "qq"
      rename_i l33 G33 H33 n33 w33 s33 h33 t33
      refine r_neNilF (SqL.of (w33.le _ _ (s33 _ _ h32))) (SqL.of (w33.le _ _ h33)) ?_
      have S33 : Same G8 G33 := S26.trans (s27.trans (S31.trans (s32.trans s33)))
      obtain ⟨cs3, hcs3, hat3, hen3⟩ := (hck8.same S33).get (k := 1) (by decide)
      walk_at "qq"
      refine u_refPl w33 (by simp) enT cov (hc6.same (s7.trans (s8.trans S33))) (P32.same t33) (by omega) hen3 (tbs_same tb32 t33) fun G34 H34 w34 s34 P34 tb34 => ?_
      walk_at "qq"
      exact ⟨G34, _, _, _, _, _, _, _, _, _, _, _, rfl, w34, si.trans (s2.trans (s3.trans (s4.trans (s5.trans (s6.trans (s7.trans (s8.trans (S33.trans s34)))))))), P34.more (by omega), tb34⟩
    · rintro σ Ha ⟨Gi, x2, x3, x4, x5, x6, x7, x8, x9, x10, x11, x12, rfl, wi, si, Pi, tbi⟩
      walk_at "qq"
      refine ⟨rfl, u_doneX (E := E0) wi fun v G2 H2 w2 s2 t2 hd => ?_⟩
      obtain ⟨o, dx, bl, el, rfl, ho, _⟩ := id hd
      refine ⟨o, dx, _, rfl, w2.le _ _ ho, ?_⟩
      walk_at "qq"
      refine r_lamF (go_L (P := pT1) (q := qLaw) ST w2 enT cov (tbs_same tbi t2) (by simp) fun H3 c' P' md hcc f hf => ?_)
      walk_at "qq"
      refine ⟨md.w.le _ _ ho, rfl, u_playDone md.w hd fun q G4 H4 w4 s4 t4 hq => ?_⟩
      walk_at "qq"
      rename_i l5 G5 H5 n5 w5 s5 h5 t5
      refine iteY (by simp [PyData.eqv, PyData.eqvAll]) ?_
      walk_at "qq"
      refine u_doneX (E := E0) w5 fun v G6 H6 w6 s6 t6 hd6 => ?_
      obtain ⟨o6, dx6, fs6, rfl, ho6, _⟩ := pl_ref w6 S hd6 rfl
      walk_at "qq"
      refine r_lenO ho6 (u_plLen w6 hd6 rfl (by decide) fun G7 H7 w7 s7 t7 => ⟨_, rfl, by decide, by decide, ?_⟩)
      walk_at "qq"
      exact k _
end
section
variable {P : Program} {w : World} {K : PySem.W.Frag} {mg : Str → Option Value} {base : Heap} {C Ct : Addr}
theorem ok_enEqX {f : Addr} {fd : FuncData} (F : FnP K "__eq__" "Entry.__eq__" sEnEq [] f fd) (T : Bi mg) (S : EnC K C) (hEnt : Gc mg "Entry" (.ref C)) : FnOk P w K mg base CX0 1 f fd ["self", "other"] (spEntEqX K C) := by
  refine fnP_ok F scEnEq (fun vs H Q E h => ?_) (fun cdv A outer s H vs Q E hr h => ?_)
  · obtain ⟨G, a, t, i, b, y, r, rfl, _⟩ := h
    rfl
  · obtain ⟨G, a, t, i, b, y, r, rfl, sG, ⟨hr1, dx, fc, ha, hf⟩, hy, k⟩ := h
    have hu64 := hr.units
    have cc := S.c
    have n4 := S.n4
    refine ⟨_, (pss_one (ps_ret (pe_and (pe_callB call_isi (by rfl) T.isinstance (by decide +kernel) (pa_cons (pv 1) (pa_cons (pe_gc hEnt) pa_nil))) (pe_one (pe_cmpR (q_eq hu64) (pe_fld (pv 0) rfl) (pe_fld (pv 1) rfl) (nomark _)))))), ?_⟩
    have w0 := wd_pure sG
    rcases hy with ⟨u, ht, hk, rfl⟩ | ⟨c, t', i', b', rfl, hs, rfl⟩
    · have ht1 := same_ty sG.1 ht
      walk_at "qq"
      exact ret_of k w0 rfl
    · have ht1 := same_ty sG.1 (S.ty hs)
      have hk := S.me
      obtain ⟨hr2, dx', fc', hc, hf'⟩ := hs
      have d1 : Dp K H (.ref fc) (faceE t i b) := by unfold faceE; walk_at "dp"
      have d2 : Dp K H (.ref fc') (faceE t' i' b') := by unfold faceE; walk_at "dp"
      walk_at "qq"
      exact r_eqD d1 d2 (shaped_faceE hr1) (shaped_faceE hr2) (ret_of k w0 rfl)
end
theorem tbs80 {p1 p2 p3 : Addr} {q1 q3 : Str} (n12 : p1 ≠ p2) (n13 : p1 ≠ p3) (n23 : p2 ≠ p3) : TbsS [p1, p2, p3] [(p1, q1), (p3, q3)] p2 := ⟨by simp, fun x hx => by
  simp only [List.mem_cons, List.not_mem_nil, or_false] at hx
  rcases hx with rfl | rfl
  · exact ⟨by simp, n12⟩
  · exact ⟨by simp, n23.symm⟩, fun x hx y hy e => by
  simp only [List.mem_cons, List.not_mem_nil, or_false] at hx hy
  rcases hx with rfl | rfl <;> rcases hy with rfl | rfl
  · rfl
  · exact absurd e n13
  · exact absurd e n13.symm
  · rfl⟩
theorem factsL {P : Program} {w : World} {K : PySem.W.Frag} {h : Heap} {mg : Str → Option Value} {f : Addr} (X : K.In h) (G : h.Ns mainGlobals mg) (hfa : mg ("law" : Str) = some (.ref f)) (c : SaysR faL fnL tfL exL h K) (dq : ∀ t ∈ tsL, DicAt K w (t.1 K) t.2) :
    f = He.ga K "law" ∧ ∃ fd : FuncData, (∀ (s : Shared) (v : Value), BindsTo s fd ⟨[v], []⟩ [("_law_script", v)]) ∧ ∀ base : Heap, K.In base → base.Ns mainGlobals mg → LamX.TabB base mg (cTA K (He.ga K "law")).1 (cTA K (He.ga K "law")).2 → LamX.TabB base mg (cTA K (He.ga K "_law_play_right")).1 (cTA K (He.ga K "_law_play_right")).2 → LamX.TabB base mg (cTA K (He.ga K "_law_refused_right")).1 (cTA K (He.ga K "_law_refused_right")).2 → FnA P w K mg base CX0 20 f fd ["_law_script"] (spLaw K [cTA K (He.ga K "law"), cTA K (He.ga K "_law_play_right"), cTA K (He.ga K "_law_refused_right")]) := by
  have e := c.more
  unfold exL at e
  have T : Bi mg := ⟨He.free_ok X G (c.t.fact 0 (f := .free "int") rfl), He.free_ok X G (c.t.fact 1 (f := .free "len") rfl), He.free_ok X G (c.t.fact 2 (f := .free "abs") rfl), He.free_ok X G (c.t.fact 3 (f := .free "list") rfl), He.free_ok X G (c.t.fact 4 (f := .free "range") rfl), He.free_ok X G (c.t.fact 5 (f := .free "repr") rfl), He.free_ok X G (c.t.fact 6 (f := .free "str") rfl), He.free_ok X G (c.t.fact 7 (f := .free "isinstance") rfl), He.free_ok X G (c.t.fact 8 (f := .free "all") rfl), He.free_ok X G (c.t.fact 9 (f := .free "any") rfl), He.free_ok X G (c.t.fact 10 (f := .free "bool") rfl), He.free_ok X G (c.t.fact 11 (f := .free "tuple") rfl), He.free_ok X G (c.t.fact 12 (f := .free "sorted") rfl), He.free_ok X G (c.t.fact 13 (f := .free "set") rfl), He.free_ok X G (c.t.fact 14 (f := .free "dict") rfl), He.free_ok X G (c.t.fact 15 (f := .free "enumerate") rfl), He.free_ok X G (c.t.fact 16 (f := .free "zip") rfl), He.free_ok X G (c.t.fact 17 (f := .free "min") rfl), He.free_ok X G (c.t.fact 18 (f := .free "max") rfl), He.free_ok X G (c.t.fact 19 (f := .free "ValueError") rfl)⟩
  obtain ⟨xRes, e⟩ := He.ba e
  obtain ⟨xoEB, e⟩ := He.ba e
  obtain ⟨xhEB, e⟩ := He.ba e
  obtain ⟨xcEntry, e⟩ := He.ba e
  obtain ⟨xnEntry, e⟩ := He.ba e
  obtain ⟨xeEntry, e⟩ := He.ba e
  obtain ⟨xcPlan, e⟩ := He.ba e
  obtain ⟨xnPlan, e⟩ := He.ba e
  obtain ⟨xePlan, e⟩ := He.ba e
  obtain ⟨xcStall, e⟩ := He.ba e
  obtain ⟨xnStall, e⟩ := He.ba e
  obtain ⟨xeStall, e⟩ := He.ba e
  obtain ⟨xPk, e⟩ := He.ba e
  obtain ⟨xFar, e⟩ := He.ba e
  obtain ⟨xNo, e⟩ := He.ba e
  obtain ⟨xPr, e⟩ := He.ba e
  obtain ⟨xPd, e⟩ := He.ba e
  obtain ⟨xPa, e⟩ := He.ba e
  obtain ⟨xppp1, e⟩ := He.ba e
  obtain ⟨xppp2, e⟩ := He.ba e
  obtain ⟨xPp, e⟩ := He.ba e
  obtain ⟨xCf, e⟩ := He.ba e
  obtain ⟨xSr, e⟩ := He.ba e
  obtain ⟨xSd, e⟩ := He.ba e
  obtain ⟨xHe, e⟩ := He.ba e
  have xNe := e
  obtain ⟨fdL, FL⟩ : ∃ fd, FnP K "law" "law" sLaw [] (He.ga K "law") fd := c.t.def_ 0
  have z := hfa.symm.trans (He.glo_ok X G (c.t.fact 20 (f := .glo "law") rfl))
  cases z
  have b := FunD.bindsA (ps := ["_law_script"]) FL fun _ _ _ _ _ _ us hl => match us, hl with | [_], _ => rfl
  refine ⟨rfl, fdL, fun s v => b s [v] rfl, fun base _ _ TB0 TB1 TB2 => ?_⟩
  obtain ⟨fd0, F0⟩ : ∃ fd, FnP K "is_integer" "is_integer" sIsInt [] (He.ga K "is_integer") fd := c.t.def_ 1
  obtain ⟨fd1, F1⟩ : ∃ fd, FnP K "is_moment" "is_moment" sMoment [.int 0] (He.ga K "is_moment") fd := c.t.def_ 2
  obtain ⟨fd2, F2⟩ : ∃ fd, FnP K "is_name" "is_name" sIsName [] (He.ga K "is_name") fd := c.t.def_ 3
  have NM : Nm K mg := ⟨⟨_, ⟨_, (He.glo_ok X G (c.t.fact 24 (f := .glo "RESERVED") rfl)), rfl⟩, fun H => He.tupB_ok xRes H⟩, (He.str_ok X G (c.t.fact 25 (f := .str "LETTERS" zLetters) rfl)).elim fun t z => ⟨_, z, t, rfl⟩, (He.str_ok X G (c.t.fact 26 (f := .str "FIGURES" zFigures) rfl)).elim fun t z => ⟨_, z, t, rfl⟩,
    (He.int_ok X G (c.t.fact 27 (f := .int "MOST_SIGNS" 8) rfl)).elim fun t z => ⟨_, z, t, rfl⟩, (He.int_ok X G (c.t.fact 28 (f := .int "MOST_MOMENT" 1000000000000000000000000000000) rfl)).elim fun t z => ⟨_, z, t, rfl⟩⟩
  have D0 : Df P w K mg base CX0 1 "is_integer" [] (spIsInt K) := df_of F0 (He.glo_ok X G (c.t.fact 21 (f := .glo "is_integer") rfl)) (ok_isInt F0 T) fun _ _ _ _ _ _ us hl => match us, hl with | [_], _ => rfl
  have D1 : Df P w K mg base CX0 2 "is_moment" [.int 0] (spMoment K) := by
    obtain ⟨ds, vd, bd⟩ := FunD.binds1 (ps := ["thing", "least"]) F1 1 0 (by simp) rfl fun _ _ _ _ _ _ _ us its hl hi => match us, its, hl, hi with | [_], [_], _, _ => ⟨_, rfl, rfl⟩
    exact ⟨_, fd1, _, ds, (He.glo_ok X G (c.t.fact 22 (f := .glo "is_moment") rfl)), F1.kp, bd, vd, ok_moment F1 T NM D0⟩
  have D2 : Df P w K mg base CX0 1 "is_name" [] (spIsName K) := df_of F2 (He.glo_ok X G (c.t.fact 23 (f := .glo "is_name") rfl)) (ok_isName F2 T NM) fun _ _ _ _ _ _ us hl => match us, hl with | [_], _ => rfl
  obtain ⟨fdEB, FEB⟩ : ∃ fd, FnP K "__init__" "BadEntry.__init__" sErrB [] (He.ma K (He.ga K "BadEntry") "__init__") fd := c.t.def_ 4
  have oEB := oexB_ok xoEB
  have hEB := hdB_ok xhEB
  have gEB := (He.glo_ok X G (c.t.fact 30 (f := .glo "BadEntry") rfl))
  have mEB := He.meth_ok (c.t.fact 29 (f := .meth "BadEntry" "__init__") rfl)
  have EB : ErD P w K mg base "BadEntry" (He.ga K "BadEntry") (spErr1 (He.ga K "BadEntry") "at") := ⟨_, fdEB, _, oEB, mEB.at_, isFn_ty mEB.fn, gEB, (FEB.bindsN fun _ _ _ _ _ _ us hl => match us, hl with | [_, _], _ => rfl), ok_errB FEB oEB hEB.n⟩
  obtain ⟨⟨a1Entry, a2Entry, a3Entry⟩, ⟨b1Entry, b2Entry⟩, c1Entry, c2Entry⟩ := of_decide_eq_true xeEntry
  have hmEntry := (He.glo_ok X G (c.t.fact 31 (f := .glo "Entry") rfl))
  have gEntry : Gc mg "Entry" (.ref (He.ga K "Entry")) := ⟨_, hmEntry, rfl⟩
  have Sex : ClC K (He.ga K "Entry") := ⟨He.cls_ok (c.t.fact 32 (f := .cls "Entry") rfl), He.eqO_ok xcEntry, a1Entry, a2Entry, a3Entry, b1Entry, b2Entry, c1Entry, c2Entry⟩
  have neEntry := He.eqO_ok xnEntry
  have mkEntry := He.mkr_ok (c.t.fact 33 (f := .mkr "Entry") rfl)
  have naEntry0 := He.noat_ok (c.t.fact 34 (f := .noat "Entry" "tool") rfl)
  have naEntry1 := He.noat_ok (c.t.fact 35 (f := .noat "Entry" "moment") rfl)
  have naEntry2 := He.noat_ok (c.t.fact 36 (f := .noat "Entry" "by") rfl)
  have naEntry3 := He.noat_ok (c.t.fact 37 (f := .noat "Entry" "face") rfl)
  obtain ⟨⟨a1Plan, a2Plan, a3Plan⟩, ⟨b1Plan, b2Plan⟩, c1Plan, c2Plan⟩ := of_decide_eq_true xePlan
  have hmPlan := (He.glo_ok X G (c.t.fact 38 (f := .glo "Plan") rfl))
  have gPlan : Gc mg "Plan" (.ref (He.ga K "Plan")) := ⟨_, hmPlan, rfl⟩
  have Sx : ClC K (He.ga K "Plan") := ⟨He.cls_ok (c.t.fact 39 (f := .cls "Plan") rfl), He.eqO_ok xcPlan, a1Plan, a2Plan, a3Plan, b1Plan, b2Plan, c1Plan, c2Plan⟩
  have nePlan := He.eqO_ok xnPlan
  have mkPlan := He.mkr_ok (c.t.fact 40 (f := .mkr "Plan") rfl)
  have naPlan0 := He.noat_ok (c.t.fact 41 (f := .noat "Plan" "entry") rfl)
  have naPlan1 := He.noat_ok (c.t.fact 42 (f := .noat "Plan" "own_passed") rfl)
  have naPlan2 := He.noat_ok (c.t.fact 43 (f := .noat "Plan" "own_failed") rfl)
  have naPlan3 := He.noat_ok (c.t.fact 44 (f := .noat "Plan" "below") rfl)
  have naPlan4 := He.noat_ok (c.t.fact 45 (f := .noat "Plan" "each") rfl)
  obtain ⟨⟨a1Stall, a2Stall, a3Stall⟩, ⟨b1Stall, b2Stall⟩, c1Stall, c2Stall⟩ := of_decide_eq_true xeStall
  have hmStall := (He.glo_ok X G (c.t.fact 46 (f := .glo "Stall") rfl))
  have gStall : Gc mg "Stall" (.ref (He.ga K "Stall")) := ⟨_, hmStall, rfl⟩
  have Ssx : ClC K (He.ga K "Stall") := ⟨He.cls_ok (c.t.fact 47 (f := .cls "Stall") rfl), He.eqO_ok xcStall, a1Stall, a2Stall, a3Stall, b1Stall, b2Stall, c1Stall, c2Stall⟩
  have neStall := He.eqO_ok xnStall
  have mkStall := He.mkr_ok (c.t.fact 48 (f := .mkr "Stall") rfl)
  have naStall0 := He.noat_ok (c.t.fact 49 (f := .noat "Stall" "at") rfl)
  have naStall1 := He.noat_ok (c.t.fact 50 (f := .noat "Stall" "answers") rfl)
  obtain ⟨pk1, pk2, pk3⟩ := of_decide_eq_true xPk
  have Spl : PlC K (He.ga K "Plan") := ⟨Sx.c, naPlan0, naPlan1, naPlan2, naPlan3, naPlan4, Sx.ca, Sx.cn, Sx.ct, Sx.cm, Sx.me, Sx.fme, pk1, pk2, pk3, Sx.no _ (by simp)⟩
  have Se : EnC K (He.ga K "Entry") := ⟨Sex.c, naEntry0, naEntry1, naEntry2, naEntry3, Sex.ca, Sex.cn, Sex.ct, Sex.cm, Sex.me, Sex.no _ (by simp), Sex.fme⟩
  obtain ⟨f1, f2, f3, f4, f5, f6⟩ := of_decide_eq_true xFar
  have FC : FarC K (He.ga K "Plan") (He.ga K "Entry") (He.ga K "Stall") := ⟨f1, f2, f3, f4, f5, f6⟩
  obtain ⟨hkE, hkP⟩ := of_decide_eq_true xNo
  obtain ⟨fdEI, FEI⟩ : ∃ fd, FnP K "__init__" "Entry.__init__" sEnInit [] (He.ma K (He.ga K "Entry") "__init__") fd := c.t.def_ 5
  obtain ⟨fdEE, FEE⟩ : ∃ fd, FnP K "__eq__" "Entry.__eq__" sEnEq [] (He.ma K (He.ga K "Entry") "__eq__") fd := c.t.def_ 6
  obtain ⟨fdES, FES⟩ : ∃ fd, FnP K "__str__" "Entry.__str__" sEnStr [] (He.ma K (He.ga K "Entry") "__str__") fd := c.t.def_ 7
  have okEI := ok_enInit FEI T Se D2 D1
  have DE : MkD P w K mg base CX0 3 "Entry" (He.ga K "Entry") [] (spEntInit (He.ga K "Entry")) := ⟨_, fdEI, _, [], hmEntry, mkEntry, (FEI.bindsN fun _ _ _ _ _ _ us hl => match us, hl with | [_, _, _, _], _ => rfl), .nil, okEI⟩
  have okEE := ok_enEq (P := P) (w := w) (mg := mg) (base := base) FEE T Se gEntry
  have mEE := He.meth_ok (c.t.fact 52 (f := .meth "Entry" "__eq__") rfl)
  have DeqE : SpD P w K mg base CX0 1 (He.ga K "Entry") "__eq__" (spEntEq (He.ga K "Entry")) := ⟨_, fdEE, _, mEE.at_, mEE.fn, (FEE.bindsN fun _ _ _ _ _ _ us hl => match us, hl with | [_, _], _ => rfl), okEE⟩
  have okEX := ok_enEqX (P := P) (w := w) (mg := mg) (base := base) FEE T Se gEntry
  have mEE := He.meth_ok (c.t.fact 52 (f := .meth "Entry" "__eq__") rfl)
  have DeqX : SpD P w K mg base CX0 1 (He.ga K "Entry") "__eq__" (spEntEqX K (He.ga K "Entry")) := ⟨_, fdEE, _, mEE.at_, mEE.fn, (FEE.bindsN fun _ _ _ _ _ _ us hl => match us, hl with | [_, _], _ => rfl), okEX⟩
  have okES := ok_enStr (P := P) (w := w) (mg := mg) (base := base) FES Se
  have mES := He.meth_ok (c.t.fact 53 (f := .meth "Entry" "__str__") rfl)
  have DStE : SpD P w K mg base CX0 1 (He.ga K "Entry") "__str__" (spEntStr (He.ga K "Entry")) := ⟨_, fdES, _, mES.at_, mES.fn, (FES.bindsN fun _ _ _ _ _ _ us hl => match us, hl with | [_], _ => rfl), okES⟩
  obtain ⟨fdPI, FPI⟩ : ∃ fd, FnP K "__init__" "Plan.__init__" sPlInit [] (He.ma K (He.ga K "Plan") "__init__") fd := c.t.def_ 8
  have okPI := ok_plInitX (P := P) (w := w) (mg := mg) (base := base) (Ce := (He.ga K "Entry")) FPI Spl
  have DPl : MkD P w K mg base CX0 1 "Plan" (He.ga K "Plan") [] (spPlInitX (He.ga K "Plan") (He.ga K "Entry")) := ⟨_, fdPI, _, [], hmPlan, mkPlan, (FPI.bindsN fun _ _ _ _ _ _ us hl => match us, hl with | [_, _, _, _], _ => rfl), .nil, okPI⟩
  obtain ⟨fdPdo, FPdo⟩ : ∃ fd, FnP K "done" "Plan.done" sPlDone [] (He5.wf K (He.ga K "Plan") "staticmethod" "done") fd := c.t.def_ 9
  obtain ⟨fdPas, FPas⟩ : ∃ fd, FnP K "ask" "Plan.ask" sPlAsk [] (He5.wf K (He.ga K "Plan") "staticmethod" "ask") fd := c.t.def_ 10
  have Ddo : StD P w K mg base CX0 3 (He.ga K "Plan") "done" (spDoneX (He.ga K "Plan") (He.ga K "Entry")) := ⟨_, _, _, fdPdo, _, readB_ok xPr, statB_ok xPd, (FPdo.bindsN fun _ _ _ _ _ _ us hl => match us, hl with | [], _ => rfl), ok_plDoneX FPdo DPl⟩
  have okPas := ok_plAskX FPas T Spl Se gPlan gEntry DPl EB
  have Das : StD P w K mg base (L2.CX P w) 4 (He.ga K "Plan") "ask" (spAskX K (He.ga K "Plan") (He.ga K "Entry") (He.ga K "BadEntry")) := ⟨_, _, _, fdPas, _, readB_ok xPr, statB_ok xPa, (FPas.bindsN fun _ _ _ _ _ _ us hl => match us, hl with | [_, _, _], _ => rfl), okPas⟩
  have DasK : StK P w K mg base (L2.CX P w) 4 (He.ga K "Plan") "ask" ["failed", "entry", "passed"] (fun vs zs => vs ++ (zs.drop 1 ++ zs.take 1)) (spAskX K (He.ga K "Plan") (He.ga K "Entry") (He.ga K "BadEntry")) := ⟨_, _, _, fdPas, _, _, readB_ok xPr, statB_ok xPa, kbn_of FPas 0 ["failed", "entry", "passed"] (fun us ws => us ++ (ws.drop 1 ++ ws.take 1)) (fun r1 r2 => r1.append (vals_rot r2)) fun _ _ _ _ _ _ us ws l1 l2 => match us, ws, l1, l2 with | [], [_, _, _], _, _ => rfl, okPas⟩
  obtain ⟨fdpp1, Fpp1⟩ : ∃ fd, FnP K "passed" "Plan.passed" sPlP [] (getterOf K (He.ma K (He.ga K "Plan") "passed")) fd := c.t.def_ 11
  have Dp1 : PrD P w K mg base CX0 1 (He.ga K "Plan") "passed" (spPlFld (He.ga K "Plan") true) := ⟨_, _, fdpp1, _, He.cls_ok (c.t.fact 39 (f := .cls "Plan") rfl), propB_ok xppp1, (Fpp1.bindsN fun _ _ _ _ _ _ us hl => match us, hl with | [_], _ => rfl), (ok_plPX Fpp1 Spl)⟩
  obtain ⟨fdpp2, Fpp2⟩ : ∃ fd, FnP K "failed" "Plan.failed" sPlF [] (getterOf K (He.ma K (He.ga K "Plan") "failed")) fd := c.t.def_ 12
  have Dp2 : PrD P w K mg base CX0 1 (He.ga K "Plan") "failed" (spPlFld (He.ga K "Plan") false) := ⟨_, _, fdpp2, _, He.cls_ok (c.t.fact 39 (f := .cls "Plan") rfl), propB_ok xppp2, (Fpp2.bindsN fun _ _ _ _ _ _ us hl => match us, hl with | [_], _ => rfl), (ok_plFX Fpp2 Spl)⟩
  obtain ⟨fdPL, FPL⟩ : ∃ fd, FnP K "__len__" "Plan.__len__" sPlLen [] (He.ma K (He.ga K "Plan") "__len__") fd := c.t.def_ 13
  have okPL := ok_plLen (P := P) (w := w) (mg := mg) (base := base) (Ce := (He.ga K "Entry")) FPL T Spl
  have mPL := He.meth_ok (c.t.fact 55 (f := .meth "Plan" "__len__") rfl)
  have Dln : SpD P w K mg base CX0 1 (He.ga K "Plan") "__len__" (spPlLen (He.ga K "Plan") (He.ga K "Entry")) := ⟨_, fdPL, _, mPL.at_, mPL.fn, (FPL.bindsN fun _ _ _ _ _ _ us hl => match us, hl with | [_], _ => rfl), okPL⟩
  obtain ⟨fdpd, Fpd⟩ : ∃ fd, FnP K "depth" "Plan.depth" sPlDeep [] (getterOf K (He.ma K (He.ga K "Plan") "depth")) fd := c.t.def_ 14
  have Ddp0 : PrD P w K mg base CX0 1 (He.ga K "Plan") "depth" (spPlDeep (He.ga K "Plan") (He.ga K "Entry") 0) := ⟨_, _, fdpd, _, Sx.c, propB_ok xPp, (Fpd.bindsN fun _ _ _ _ _ _ us hl => match us, hl with | [_], _ => rfl), ok_plDeep0 Fpd⟩
  have Ddp1 : PrD P w K mg base CX0 3 (He.ga K "Plan") "depth" (spPlDeep (He.ga K "Plan") (He.ga K "Entry") 1) := ⟨_, _, fdpd, _, Sx.c, propB_ok xPp, (Fpd.bindsN fun _ _ _ _ _ _ us hl => match us, hl with | [_], _ => rfl), ok_plDeep Fpd T Spl Ddp0⟩
  have Ddp2 : PrD P w K mg base CX0 5 (He.ga K "Plan") "depth" (spPlDeep (He.ga K "Plan") (He.ga K "Entry") 2) := ⟨_, _, fdpd, _, Sx.c, propB_ok xPp, (Fpd.bindsN fun _ _ _ _ _ _ us hl => match us, hl with | [_], _ => rfl), ok_plDeep Fpd T Spl Ddp1⟩
  have Ddp3 : PrD P w K mg base CX0 7 (He.ga K "Plan") "depth" (spPlDeep (He.ga K "Plan") (He.ga K "Entry") 3) := ⟨_, _, fdpd, _, Sx.c, propB_ok xPp, (Fpd.bindsN fun _ _ _ _ _ _ us hl => match us, hl with | [_], _ => rfl), ok_plDeep Fpd T Spl Ddp2⟩
  have Ddp4 : PrD P w K mg base CX0 9 (He.ga K "Plan") "depth" (spPlDeep (He.ga K "Plan") (He.ga K "Entry") 4) := ⟨_, _, fdpd, _, Sx.c, propB_ok xPp, (Fpd.bindsN fun _ _ _ _ _ _ us hl => match us, hl with | [_], _ => rfl), ok_plDeep Fpd T Spl Ddp3⟩
  have Ddp5 : PrD P w K mg base CX0 11 (He.ga K "Plan") "depth" (spPlDeep (He.ga K "Plan") (He.ga K "Entry") 5) := ⟨_, _, fdpd, _, Sx.c, propB_ok xPp, (Fpd.bindsN fun _ _ _ _ _ _ us hl => match us, hl with | [_], _ => rfl), ok_plDeep Fpd T Spl Ddp4⟩
  obtain ⟨fdPE, FPE⟩ : ∃ fd, FnP K "__eq__" "Plan.__eq__" sPlEq [] (He.ma K (He.ga K "Plan") "__eq__") fd := c.t.def_ 15
  have mPE := He.meth_ok (c.t.fact 56 (f := .meth "Plan" "__eq__") rfl)
  obtain ⟨fdPS, FPS⟩ : ∃ fd, FnP K "__str__" "Plan.__str__" sPlStr [] (He.ma K (He.ga K "Plan") "__str__") fd := c.t.def_ 16
  have mPS := He.meth_ok (c.t.fact 57 (f := .meth "Plan" "__str__") rfl)
  have DeqP0 : SpD P w K mg base CX0 2 (He.ga K "Plan") "__eq__" (spPlEqX K (He.ga K "Plan") (He.ga K "Entry") 0) := ⟨_, fdPE, _, mPE.at_, mPE.fn, (FPE.bindsN fun _ _ _ _ _ _ us hl => match us, hl with | [_, _], _ => rfl), ok_plEqX0 FPE⟩
  have DeqP1 : SpD P w K mg base CX0 3 (He.ga K "Plan") "__eq__" (spPlEqX K (He.ga K "Plan") (He.ga K "Entry") 1) := ⟨_, fdPE, _, mPE.at_, mPE.fn, (FPE.bindsN fun _ _ _ _ _ _ us hl => match us, hl with | [_, _], _ => rfl), ok_plEqX FPE T Spl Se gPlan (by decide) hkE hkP (Sex.no _ (by simp)) (Sx.no _ (by simp)) (Sex.fno _ (by simp)) (Sx.fno _ (by simp)) neEntry DeqX Dp1 Dp2 DeqP0⟩
  have DeqP2 : SpD P w K mg base CX0 4 (He.ga K "Plan") "__eq__" (spPlEqX K (He.ga K "Plan") (He.ga K "Entry") 2) := ⟨_, fdPE, _, mPE.at_, mPE.fn, (FPE.bindsN fun _ _ _ _ _ _ us hl => match us, hl with | [_, _], _ => rfl), ok_plEqX FPE T Spl Se gPlan (by decide) hkE hkP (Sex.no _ (by simp)) (Sx.no _ (by simp)) (Sex.fno _ (by simp)) (Sx.fno _ (by simp)) neEntry DeqX Dp1 Dp2 DeqP1⟩
  have DeqP3 : SpD P w K mg base CX0 5 (He.ga K "Plan") "__eq__" (spPlEqX K (He.ga K "Plan") (He.ga K "Entry") 3) := ⟨_, fdPE, _, mPE.at_, mPE.fn, (FPE.bindsN fun _ _ _ _ _ _ us hl => match us, hl with | [_, _], _ => rfl), ok_plEqX FPE T Spl Se gPlan (by decide) hkE hkP (Sex.no _ (by simp)) (Sx.no _ (by simp)) (Sex.fno _ (by simp)) (Sx.fno _ (by simp)) neEntry DeqX Dp1 Dp2 DeqP2⟩
  have DeqP4 : SpD P w K mg base CX0 6 (He.ga K "Plan") "__eq__" (spPlEqX K (He.ga K "Plan") (He.ga K "Entry") 4) := ⟨_, fdPE, _, mPE.at_, mPE.fn, (FPE.bindsN fun _ _ _ _ _ _ us hl => match us, hl with | [_, _], _ => rfl), ok_plEqX FPE T Spl Se gPlan (by decide) hkE hkP (Sex.no _ (by simp)) (Sx.no _ (by simp)) (Sex.fno _ (by simp)) (Sx.fno _ (by simp)) neEntry DeqX Dp1 Dp2 DeqP3⟩
  have DeqP5 : SpD P w K mg base CX0 7 (He.ga K "Plan") "__eq__" (spPlEqX K (He.ga K "Plan") (He.ga K "Entry") 5) := ⟨_, fdPE, _, mPE.at_, mPE.fn, (FPE.bindsN fun _ _ _ _ _ _ us hl => match us, hl with | [_, _], _ => rfl), ok_plEqX FPE T Spl Se gPlan (by decide) hkE hkP (Sex.no _ (by simp)) (Sx.no _ (by simp)) (Sex.fno _ (by simp)) (Sx.fno _ (by simp)) neEntry DeqX Dp1 Dp2 DeqP4⟩
  have DstP0 : SpD P w K mg base CX0 1 (He.ga K "Plan") "__str__" (spPlStr (He.ga K "Plan") (He.ga K "Entry") 0) := ⟨_, fdPS, _, mPS.at_, mPS.fn, (FPS.bindsN fun _ _ _ _ _ _ us hl => match us, hl with | [_], _ => rfl), ok_plStr0 FPS⟩
  have DstP1 : SpD P w K mg base CX0 4 (He.ga K "Plan") "__str__" (spPlStr (He.ga K "Plan") (He.ga K "Entry") 1) := ⟨_, fdPS, _, mPS.at_, mPS.fn, (FPS.bindsN fun _ _ _ _ _ _ us hl => match us, hl with | [_], _ => rfl), ok_plStr FPS Spl (by decide) T DStE DstP0⟩
  have DstP2 : SpD P w K mg base CX0 7 (He.ga K "Plan") "__str__" (spPlStr (He.ga K "Plan") (He.ga K "Entry") 2) := ⟨_, fdPS, _, mPS.at_, mPS.fn, (FPS.bindsN fun _ _ _ _ _ _ us hl => match us, hl with | [_], _ => rfl), ok_plStr FPS Spl (by decide) T DStE DstP1⟩
  have DstP3 : SpD P w K mg base CX0 10 (He.ga K "Plan") "__str__" (spPlStr (He.ga K "Plan") (He.ga K "Entry") 3) := ⟨_, fdPS, _, mPS.at_, mPS.fn, (FPS.bindsN fun _ _ _ _ _ _ us hl => match us, hl with | [_], _ => rfl), ok_plStr FPS Spl (by decide) T DStE DstP2⟩
  have DstP4 : SpD P w K mg base CX0 13 (He.ga K "Plan") "__str__" (spPlStr (He.ga K "Plan") (He.ga K "Entry") 4) := ⟨_, fdPS, _, mPS.at_, mPS.fn, (FPS.bindsN fun _ _ _ _ _ _ us hl => match us, hl with | [_], _ => rfl), ok_plStr FPS Spl (by decide) T DStE DstP3⟩
  have DstP5 : SpD P w K mg base CX0 16 (He.ga K "Plan") "__str__" (spPlStr (He.ga K "Plan") (He.ga K "Entry") 5) := ⟨_, fdPS, _, mPS.at_, mPS.fn, (FPS.bindsN fun _ _ _ _ _ _ us hl => match us, hl with | [_], _ => rfl), ok_plStr FPS Spl (by decide) T DStE DstP4⟩
  obtain ⟨fdPC, FPC⟩ : ∃ fd, FnP K "__call__" "Plan.__call__" sPlCall [] (He.ma K (He.ga K "Plan") "__call__") fd := c.t.def_ 17
  have mPC := He.meth_ok (c.t.fact 58 (f := .meth "Plan" "__call__") rfl)
  have cc : StX.CallO K (He.ga K "Plan") (He.ma K (He.ga K "Plan") "__call__") := ⟨mPC.at_, mPC.fn, xCf⟩
  have DPg : PlayG P w K mg base 6 5 (He.ga K "Plan") (spPlay K (He.ga K "Plan") (He.ga K "BadEntry")) := ok_plCall FPC cc T Spl Dp1 Dp2 EB
  have Dck : CallK P w K mg base (L2.CX P w) 6 (He.ga K "Plan") ["answer"] (fun vs zs => vs ++ zs) (spPlayDone (He.ga K "Plan") (He.ga K "Entry")) := ⟨_, fdPC, _, _, cc, kbn_of FPC 1 ["answer"] (fun us ws => us ++ ws) (fun r1 r2 => r1.append r2) fun _ _ _ _ _ _ us ws l1 l2 => match us, ws, l1, l2 with | [_], [_], _, _ => rfl, ok_callDone FPC T Spl Dp1 Dp2 EB⟩
  obtain ⟨fdSI, FSI⟩ : ∃ fd, FnP K "__init__" "Stall.__init__" sSlInit [] (He.ma K (He.ga K "Stall") "__init__") fd := c.t.def_ 18
  have okSI := ok_slInit (P := P) (w := w) (mg := mg) (base := base) FSI T Ssx naStall0 naStall1
  have DSl : MkD P w K mg base CX0 1 "Stall" (He.ga K "Stall") [] (spStallInit K (He.ga K "Stall")) := ⟨_, fdSI, _, [], hmStall, mkStall, (FSI.bindsN fun _ _ _ _ _ _ us hl => match us, hl with | [_, _, _], _ => rfl), .nil, okSI⟩
  obtain ⟨fdSen, FSen⟩ : ∃ fd, FnP K "end" "Stall.end" sSlEnd [] (He5.wf K (He.ga K "Stall") "staticmethod" "end") fd := c.t.def_ 19
  have Den : StD P w K mg base CX0 3 (He.ga K "Stall") "end" (spStallEnd (He.ga K "Stall")) := ⟨_, _, _, fdSen, _, readB_ok xSr, statB_ok xSd, (FSen.bindsN fun _ _ _ _ _ _ us hl => match us, hl with | [_], _ => rfl), ok_slEnd FSen DSl⟩
  obtain ⟨fd3, F3⟩ : ∃ fd, FnP K "_law_pen" "_law_pen" sPen [] (He.ga K "_law_pen") fd := c.t.def_ 20
  obtain ⟨fd4, F4⟩ : ∃ fd, FnP K "_law_draw" "_law_draw" sDraw [] (He.ga K "_law_draw") fd := c.t.def_ 21
  obtain ⟨fd5, F5⟩ : ∃ fd, FnP K "_law_pick" "_law_pick" sPick [] (He.ga K "_law_pick") fd := c.t.def_ 22
  have D3 : Df P w K mg base CX0 1 "_law_pen" [] (spPen K) := df_of F3 (He.glo_ok X G (c.t.fact 60 (f := .glo "_law_pen") rfl)) (ok_pen F3 T) fun _ _ _ _ _ _ us hl => match us, hl with | [_], _ => rfl
  have D4 : Df P w K mg base CX0 2 "_law_draw" [] spDraw := df_of F4 (He.glo_ok X G (c.t.fact 61 (f := .glo "_law_draw") rfl)) (ok_draw F4 T) fun _ _ _ _ _ _ us hl => match us, hl with | [_, _], _ => rfl
  have D5 : Df P w K mg base CX0 3 "_law_pick" [] (spPick K) := df_of F5 (He.glo_ok X G (c.t.fact 62 (f := .glo "_law_pick") rfl)) (ok_pick F5 T D4) fun _ _ _ _ _ _ us hl => match us, hl with | [_, _], _ => rfl
  obtain ⟨fdtr, Ftr⟩ : ∃ fd, FnP K "_law_tree" "_law_tree" sLTree [] (He.ga K "_law_tree") fd := c.t.def_ 23
  obtain ⟨fdpl, Fpl⟩ : ∃ fd, FnP K "_law_planned" "_law_planned" sPlanned [] (He.ga K "_law_planned") fd := c.t.def_ 24
  obtain ⟨fdsz, Fsz⟩ : ∃ fd, FnP K "_law_sizes" "_law_sizes" sSizes [] (He.ga K "_law_sizes") fd := c.t.def_ 25
  obtain ⟨fdwo, Fwo⟩ : ∃ fd, FnP K "_law_wording" "_law_wording" sWording [] (He.ga K "_law_wording") fd := c.t.def_ 26
  obtain ⟨fdpr, Fpr⟩ : ∃ fd, FnP K "_law_parts_right" "_law_parts_right" sPartsR [] (He.ga K "_law_parts_right") fd := c.t.def_ 27
  have Dt0 : Df P w K mg base CX0 2 "_law_tree" [] (spLTree 0) := df_of Ftr (He.glo_ok X G (c.t.fact 63 (f := .glo "_law_tree") rfl)) (ok_lTree0 Ftr) fun _ _ _ _ _ _ us hl => match us, hl with | [_, _, _], _ => rfl
  have Dt1 : Df P w K mg base CX0 3 "_law_tree" [] (spLTree 1) := df_of Ftr (He.glo_ok X G (c.t.fact 63 (f := .glo "_law_tree") rfl)) (ok_lTree Ftr (by decide) D4 Dt0) fun _ _ _ _ _ _ us hl => match us, hl with | [_, _, _], _ => rfl
  have Dt2 : Df P w K mg base CX0 4 "_law_tree" [] (spLTree 2) := df_of Ftr (He.glo_ok X G (c.t.fact 63 (f := .glo "_law_tree") rfl)) (ok_lTree Ftr (by decide) D4 Dt1) fun _ _ _ _ _ _ us hl => match us, hl with | [_, _, _], _ => rfl
  have Dt3 : Df P w K mg base CX0 5 "_law_tree" [] (spLTree 3) := df_of Ftr (He.glo_ok X G (c.t.fact 63 (f := .glo "_law_tree") rfl)) (ok_lTree Ftr (by decide) D4 Dt2) fun _ _ _ _ _ _ us hl => match us, hl with | [_, _, _], _ => rfl
  have Dt4 : Df P w K mg base CX0 6 "_law_tree" [] (spLTree 4) := df_of Ftr (He.glo_ok X G (c.t.fact 63 (f := .glo "_law_tree") rfl)) (ok_lTree Ftr (by decide) D4 Dt3) fun _ _ _ _ _ _ us hl => match us, hl with | [_, _, _], _ => rfl
  have Dt5 : Df P w K mg base CX0 7 "_law_tree" [] (spLTree 5) := df_of Ftr (He.glo_ok X G (c.t.fact 63 (f := .glo "_law_tree") rfl)) (ok_lTree Ftr (by decide) D4 Dt4) fun _ _ _ _ _ _ us hl => match us, hl with | [_, _, _], _ => rfl
  have Dpl0 : Df P w K mg base CX0 5 "_law_planned" [] (spPlannedX (He.ga K "Plan") (He.ga K "Entry") 0) := df_of Fpl (He.glo_ok X G (c.t.fact 64 (f := .glo "_law_planned") rfl)) (ok_plannedX0 Fpl) fun _ _ _ _ _ _ us hl => match us, hl with | [_, _], _ => rfl
  have Dpl1 : Df P w K mg base CX0 6 "_law_planned" [] (spPlannedX (He.ga K "Plan") (He.ga K "Entry") 1) := df_of Fpl (He.glo_ok X G (c.t.fact 64 (f := .glo "_law_planned") rfl)) (ok_plannedX Fpl (by decide) gPlan Ddo Das Dpl0) fun _ _ _ _ _ _ us hl => match us, hl with | [_, _], _ => rfl
  have Dpl2 : Df P w K mg base CX0 7 "_law_planned" [] (spPlannedX (He.ga K "Plan") (He.ga K "Entry") 2) := df_of Fpl (He.glo_ok X G (c.t.fact 64 (f := .glo "_law_planned") rfl)) (ok_plannedX Fpl (by decide) gPlan Ddo Das Dpl1) fun _ _ _ _ _ _ us hl => match us, hl with | [_, _], _ => rfl
  have Dpl3 : Df P w K mg base CX0 8 "_law_planned" [] (spPlannedX (He.ga K "Plan") (He.ga K "Entry") 3) := df_of Fpl (He.glo_ok X G (c.t.fact 64 (f := .glo "_law_planned") rfl)) (ok_plannedX Fpl (by decide) gPlan Ddo Das Dpl2) fun _ _ _ _ _ _ us hl => match us, hl with | [_, _], _ => rfl
  have Dpl4 : Df P w K mg base CX0 9 "_law_planned" [] (spPlannedX (He.ga K "Plan") (He.ga K "Entry") 4) := df_of Fpl (He.glo_ok X G (c.t.fact 64 (f := .glo "_law_planned") rfl)) (ok_plannedX Fpl (by decide) gPlan Ddo Das Dpl3) fun _ _ _ _ _ _ us hl => match us, hl with | [_, _], _ => rfl
  have Dpl5 : Df P w K mg base CX0 10 "_law_planned" [] (spPlannedX (He.ga K "Plan") (He.ga K "Entry") 5) := df_of Fpl (He.glo_ok X G (c.t.fact 64 (f := .glo "_law_planned") rfl)) (ok_plannedX Fpl (by decide) gPlan Ddo Das Dpl4) fun _ _ _ _ _ _ us hl => match us, hl with | [_, _], _ => rfl
  have Dsz0 : Df P w K mg base CX0 1 "_law_sizes" [] (spSizes 0) := df_of Fsz (He.glo_ok X G (c.t.fact 65 (f := .glo "_law_sizes") rfl)) (ok_sizes0 Fsz) fun _ _ _ _ _ _ us hl => match us, hl with | [_], _ => rfl
  have Dsz1 : Df P w K mg base CX0 2 "_law_sizes" [] (spSizes 1) := df_of Fsz (He.glo_ok X G (c.t.fact 65 (f := .glo "_law_sizes") rfl)) (ok_sizes Fsz T Dsz0) fun _ _ _ _ _ _ us hl => match us, hl with | [_], _ => rfl
  have Dsz2 : Df P w K mg base CX0 3 "_law_sizes" [] (spSizes 2) := df_of Fsz (He.glo_ok X G (c.t.fact 65 (f := .glo "_law_sizes") rfl)) (ok_sizes Fsz T Dsz1) fun _ _ _ _ _ _ us hl => match us, hl with | [_], _ => rfl
  have Dsz3 : Df P w K mg base CX0 4 "_law_sizes" [] (spSizes 3) := df_of Fsz (He.glo_ok X G (c.t.fact 65 (f := .glo "_law_sizes") rfl)) (ok_sizes Fsz T Dsz2) fun _ _ _ _ _ _ us hl => match us, hl with | [_], _ => rfl
  have Dsz4 : Df P w K mg base CX0 5 "_law_sizes" [] (spSizes 4) := df_of Fsz (He.glo_ok X G (c.t.fact 65 (f := .glo "_law_sizes") rfl)) (ok_sizes Fsz T Dsz3) fun _ _ _ _ _ _ us hl => match us, hl with | [_], _ => rfl
  have Dsz5 : Df P w K mg base CX0 6 "_law_sizes" [] (spSizes 5) := df_of Fsz (He.glo_ok X G (c.t.fact 65 (f := .glo "_law_sizes") rfl)) (ok_sizes Fsz T Dsz4) fun _ _ _ _ _ _ us hl => match us, hl with | [_], _ => rfl
  have Dwo0 : Df P w K mg base CX0 3 "_law_wording" [] (spWording (He.ga K "Entry") 0) := df_of Fwo (He.glo_ok X G (c.t.fact 66 (f := .glo "_law_wording") rfl)) (ok_wording0 Fwo) fun _ _ _ _ _ _ us hl => match us, hl with | [_, _], _ => rfl
  have Dwo1 : Df P w K mg base CX0 4 "_law_wording" [] (spWording (He.ga K "Entry") 1) := df_of Fwo (He.glo_ok X G (c.t.fact 66 (f := .glo "_law_wording") rfl)) (ok_wording Fwo T (by decide) DStE Dwo0) fun _ _ _ _ _ _ us hl => match us, hl with | [_, _], _ => rfl
  have Dwo2 : Df P w K mg base CX0 5 "_law_wording" [] (spWording (He.ga K "Entry") 2) := df_of Fwo (He.glo_ok X G (c.t.fact 66 (f := .glo "_law_wording") rfl)) (ok_wording Fwo T (by decide) DStE Dwo1) fun _ _ _ _ _ _ us hl => match us, hl with | [_, _], _ => rfl
  have Dwo3 : Df P w K mg base CX0 6 "_law_wording" [] (spWording (He.ga K "Entry") 3) := df_of Fwo (He.glo_ok X G (c.t.fact 66 (f := .glo "_law_wording") rfl)) (ok_wording Fwo T (by decide) DStE Dwo2) fun _ _ _ _ _ _ us hl => match us, hl with | [_, _], _ => rfl
  have Dwo4 : Df P w K mg base CX0 7 "_law_wording" [] (spWording (He.ga K "Entry") 4) := df_of Fwo (He.glo_ok X G (c.t.fact 66 (f := .glo "_law_wording") rfl)) (ok_wording Fwo T (by decide) DStE Dwo3) fun _ _ _ _ _ _ us hl => match us, hl with | [_, _], _ => rfl
  have Dwo5 : Df P w K mg base CX0 8 "_law_wording" [] (spWording (He.ga K "Entry") 5) := df_of Fwo (He.glo_ok X G (c.t.fact 66 (f := .glo "_law_wording") rfl)) (ok_wording Fwo T (by decide) DStE Dwo4) fun _ _ _ _ _ _ us hl => match us, hl with | [_, _], _ => rfl
  have Dpr0 : Df P w K mg base CX0 3 "_law_parts_right" [] (spPartsR (He.ga K "Plan") (He.ga K "Entry") 0) := df_of Fpr (He.glo_ok X G (c.t.fact 67 (f := .glo "_law_parts_right") rfl)) (ok_partsR0 Fpr) fun _ _ _ _ _ _ us hl => match us, hl with | [_, _, _], _ => rfl
  have Dpr1 : Df P w K mg base CX0 4 "_law_parts_right" [] (spPartsR (He.ga K "Plan") (He.ga K "Entry") 1) := df_of Fpr (He.glo_ok X G (c.t.fact 67 (f := .glo "_law_parts_right") rfl)) (ok_partsR Fpr T (by decide) Spl Se neEntry DeqE Dp1 Dp2 Dpr0) fun _ _ _ _ _ _ us hl => match us, hl with | [_, _, _], _ => rfl
  have Dpr2 : Df P w K mg base CX0 5 "_law_parts_right" [] (spPartsR (He.ga K "Plan") (He.ga K "Entry") 2) := df_of Fpr (He.glo_ok X G (c.t.fact 67 (f := .glo "_law_parts_right") rfl)) (ok_partsR Fpr T (by decide) Spl Se neEntry DeqE Dp1 Dp2 Dpr1) fun _ _ _ _ _ _ us hl => match us, hl with | [_, _, _], _ => rfl
  have Dpr3 : Df P w K mg base CX0 6 "_law_parts_right" [] (spPartsR (He.ga K "Plan") (He.ga K "Entry") 3) := df_of Fpr (He.glo_ok X G (c.t.fact 67 (f := .glo "_law_parts_right") rfl)) (ok_partsR Fpr T (by decide) Spl Se neEntry DeqE Dp1 Dp2 Dpr2) fun _ _ _ _ _ _ us hl => match us, hl with | [_, _, _], _ => rfl
  have Dpr4 : Df P w K mg base CX0 7 "_law_parts_right" [] (spPartsR (He.ga K "Plan") (He.ga K "Entry") 4) := df_of Fpr (He.glo_ok X G (c.t.fact 67 (f := .glo "_law_parts_right") rfl)) (ok_partsR Fpr T (by decide) Spl Se neEntry DeqE Dp1 Dp2 Dpr3) fun _ _ _ _ _ _ us hl => match us, hl with | [_, _, _], _ => rfl
  have Dpr5 : Df P w K mg base CX0 8 "_law_parts_right" [] (spPartsR (He.ga K "Plan") (He.ga K "Entry") 5) := df_of Fpr (He.glo_ok X G (c.t.fact 67 (f := .glo "_law_parts_right") rfl)) (ok_partsR Fpr T (by decide) Spl Se neEntry DeqE Dp1 Dp2 Dpr4) fun _ _ _ _ _ _ us hl => match us, hl with | [_, _, _], _ => rfl
  obtain ⟨fdpy, Fpy⟩ : ∃ fd, FnP K "_law_played" "_law_played" sPlayed [] (He.ga K "_law_played") fd := c.t.def_ 28
  have Dpy : Df P w K mg base CX0 1 "_law_played" [] (spPlayed K) := df_of Fpy (He.glo_ok X G (c.t.fact 68 (f := .glo "_law_played") rfl)) (ok_played Fpy T) fun _ _ _ _ _ _ us hl => match us, hl with | [_, _], _ => rfl
  obtain ⟨fdan, Fan⟩ : ∃ fd, FnP K "_law_answer" "_law_answer" sAnswer [] (He.ga K "_law_answer") fd := c.t.def_ 29
  have Dan : Df P w K mg base CX0 1 "_law_answer" [] spAnswer := df_of Fan (He.glo_ok X G (c.t.fact 69 (f := .glo "_law_answer") rfl)) (ok_answer Fan T) fun _ _ _ _ _ _ us hl => match us, hl with | [_, _, _], _ => rfl
  obtain ⟨fdH, FH⟩ : ∃ fd, FnP K "_law_heard" "_law_heard" sHeardE [] (He.ga K "_law_heard") fd := c.t.def_ 30
  obtain ⟨x1, x2⟩ := of_decide_eq_true xHe
  have DHe : HearM P w K mg base 8 7 "_law_heard" (THe (He.ga K "BadEntry")) := ok_heardE (k := 7) FH T (He.glo_ok X G (c.t.fact 70 (f := .glo "_law_heard") rfl)) (He.glo_ok X G (c.t.fact 71 (f := .glo "TillError") rfl)) ⟨_, gEB, rfl⟩ hEB x1 x2 (by decide)
  obtain ⟨n12, n13, n23⟩ := of_decide_eq_true xNe
  have ST : TbsS [(cTA K (He.ga K "law")).2, (cTA K (He.ga K "_law_play_right")).2, (cTA K (He.ga K "_law_refused_right")).2] [((cTA K (He.ga K "law")).2, qLaw), ((cTA K (He.ga K "_law_refused_right")).2, qRefR)] (cTA K (He.ga K "_law_play_right")).2 := tbs80 n12 n13 n23
  obtain ⟨fdYr, FYr⟩ : ∃ fd, FnP K "_law_play_right" "_law_play_right" sPlayR [] (He.ga K "_law_play_right") fd := c.t.def_ 31
  have DPy : DfA P w K mg base CX0 9 "_law_play_right" [] (spPlayR (He.ga K "Plan") (He.ga K "Entry") [(cTA K (He.ga K "law")).2, (cTA K (He.ga K "_law_play_right")).2, (cTA K (He.ga K "_law_refused_right")).2] [((cTA K (He.ga K "law")).2, qLaw), ((cTA K (He.ga K "_law_refused_right")).2, qRefR)] (cTA K (He.ga K "_law_play_right")).2 qPlayR qIn) := dfA_of FYr (He.glo_ok X G (c.t.fact 72 (f := .glo "_law_play_right") rfl)) (ok_playR FYr T Spl ST D4 D5 Dpy Dan DHe DPg TB1) fun _ _ _ _ _ _ us hl => match us, hl with | [_, _, _, _], _ => rfl
  obtain ⟨fdRr, FRr⟩ : ∃ fd, FnP K "_law_refused_right" "_law_refused_right" sRefR [] (He.ga K "_law_refused_right") fd := c.t.def_ 32
  have DRf : DfA P w K mg base CX0 9 "_law_refused_right" [] (spRefPl (He.ga K "Entry") [(cTA K (He.ga K "law")).2, (cTA K (He.ga K "_law_play_right")).2, (cTA K (He.ga K "_law_refused_right")).2] [((cTA K (He.ga K "law")).2, qLaw), ((cTA K (He.ga K "_law_refused_right")).2, qRefR)] (cTA K (He.ga K "_law_play_right")).2 qPlayR qIn) := dfA_of FRr (He.glo_ok X G (c.t.fact 73 (f := .glo "_law_refused_right") rfl)) (ok_refR FRr T Sx Sex Ssx FC ST (by simp) gPlan gStall Ddo Den Das DasK D5 DHe TB2) fun _ _ _ _ _ _ us hl => match us, hl with | [_, _], _ => rfl
  exact ok_law FL T n12 n13 n23 Spl Sx Sex Ssx FC gPlan gStall nePlan D3 D4 DE Dt5 Dpl5 Dln Ddp5 Dsz5 DstP5 Dwo5 DeqP5 Dpr5 Ddo Den Dck TB0 DPy DRf
end Q
open PySem PySem.W PySem.Calls PyProof.Rows
theorem PySem.Challenge.cw_soundtill_k80_plans_made_and_played_holds : PySem.Challenge.rw_soundtill_k80_plans_made_and_played.Holds := by
  w_on; o_law
  refine HandSHeadRun.head_any (r := OpenLaw.row PySem.Challenge.rw_soundtill_k80_plans_made_and_played) (q := view (OpenLaw.row PySem.Challenge.rw_soundtill_k80_plans_made_and_played).prog [80]) (H := Q.hkL) (ob := Q.obL) (M := 12000) (loose := (("_wall" : PySem.Str) :: ("__name__" : PySem.Str) :: ("TillError" : PySem.Str) :: ("BadName" : PySem.Str) :: ("BadMoment" : PySem.Str) :: ("BadSaying" : PySem.Str) :: ("NoTool" : PySem.Str) :: ("BadEntry" : PySem.Str) :: ("BadText" : PySem.Str) :: ("RESERVED" : PySem.Str) :: ("LETTERS" : PySem.Str) :: ("FIGURES" : PySem.Str) :: ("MOST_SIGNS" : PySem.Str) :: ("MOST_FIGURES" : PySem.Str) :: ("MOST_MOMENT" : PySem.Str) :: ("is_integer" : PySem.Str) :: ("is_moment" : PySem.Str) :: ("is_name" : PySem.Str) :: ("moment_in" : PySem.Str) :: ("TRUTHS" : PySem.Str) :: ("MANY_WORDS" : PySem.Str) :: ("Saying" : PySem.Str) :: ("ENTRY_FORMS" : PySem.Str) :: ("MOST_CHECKS" : PySem.Str) :: ("can_stand" : PySem.Str) :: ("need_forms" : PySem.Str) :: ("need_end" : PySem.Str) :: ("lines_of" : PySem.Str) :: ("need_one_line" : PySem.Str) :: ("entry_at" : PySem.Str) :: ("entry_parts" : PySem.Str) :: ("plan_at" : PySem.Str) :: ("branch_at" : PySem.Str) :: ("plan_tree" : PySem.Str) :: ("FORMS" : PySem.Str) :: ("BEGINNINGS" : PySem.Str) :: ("need_name" : PySem.Str) :: ("need_moment" : PySem.Str) :: ("Row" : PySem.Str) :: ("Beginning" : PySem.Str) :: ("Check" : PySem.Str) :: ("Meeting" : PySem.Str) :: ("Begun" : PySem.Str) :: ("SetBy" : PySem.Str) :: ("Found" : PySem.Str) :: ("Trusted" : PySem.Str) :: ("Passed" : PySem.Str) :: ("Failed" : PySem.Str) :: ("Agreed" : PySem.Str) :: ("Differed" : PySem.Str) :: ("Served" : PySem.Str) :: ("Backed" : PySem.Str) :: ("made_meeting" : PySem.Str) :: ("made_row" : PySem.Str) :: ("fits" : PySem.Str) :: ("row_in" : PySem.Str) :: ("Entry" : PySem.Str) :: ("Plan" : PySem.Str) :: ("plan_of" : PySem.Str) :: ("Stall" : PySem.Str) :: ("_law_pen" : PySem.Str) :: ("_law_draw" : PySem.Str) :: ("_law_pick" : PySem.Str) :: ("_law_tree" : PySem.Str) :: ("_law_planned" : PySem.Str) :: ("_law_heard" : PySem.Str) :: ("_law_wording" : PySem.Str) :: ("_law_sizes" : PySem.Str) :: ("_law_played" : PySem.Str) :: ("_law_answer" : PySem.Str) :: ("_law_play_right" : PySem.Str) :: ("_law_refused_right" : PySem.Str) :: ("_law_parts_right" : PySem.Str) :: [])) (d := HandSHeadRun.topDef (OpenLaw.row PySem.Challenge.rw_soundtill_k80_plans_made_and_played).prog 80) (kwd := []) Q.obL_eq
    (by kernel_rfl) (fun s => by kernel_rfl) Q.runL (by kernel_rfl) (by kernel_rfl) (by kernel_rfl) (by rfl) (by first | assumption | decide +kernel) (by decide +kernel) ⟨rfl, rfl, rfl, rfl, rfl, by decide +kernel⟩ ?hw ?hc
  case hw => w_witness2
  case hc =>
    refine Q.walk_ofAT (l := PySem.Challenge.rw_soundtill_k80_plans_made_and_played) (n := 63) (k := 20) (x := "_law_script") (CX := L2.CX0) rfl (by decide) (by kernel_rfl) ⟨rfl, by decide, by decide⟩ ?F (fun _ _ _ _ z => z)
    intro w mg fa h Y G hmg0
    obtain ⟨K, KX, c, dq⟩ := Y
    have hmg : mg ("law" : PySem.Str) = some (.ref fa) := by
      have e : (HandSHeadRun.topDef (OpenLaw.row PySem.Challenge.rw_soundtill_k80_plans_made_and_played).prog 80).name = ("law" : PySem.Str) := by kernel_rfl
      rw [← e]
      exact hmg0
    obtain ⟨ef, fd, hb, hF⟩ := Q.factsL (P := (PySem.Challenge.rw_soundtill_k80_plans_made_and_played).prog) (w := w) KX G hmg c dq
    subst ef
    exact ⟨K, fd, [Q.cTA K (He.ga K "law"), Q.cTA K (He.ga K "_law_play_right"), Q.cTA K (He.ga K "_law_refused_right")], Q.spLaw K [Q.cTA K (He.ga K "law"), Q.cTA K (He.ga K "_law_play_right"), Q.cTA K (He.ga K "_law_refused_right")], KX, (fun r hr => by
      simp only [List.mem_cons, List.not_mem_nil, or_false] at hr
      rcases hr with rfl | rfl | rfl
      · exact c.hd _ (List.mem_of_getElem? (i := 0) rfl)
      · exact c.hd _ (List.mem_of_getElem? (i := 1) rfl)
      · exact c.hd _ (List.mem_of_getElem? (i := 2) rfl)), (fun r hr => by
      simp only [List.mem_cons, List.not_mem_nil, or_false] at hr
      rcases hr with rfl | rfl | rfl
      · exact c.out _ (List.mem_of_getElem? (i := 0) rfl)
      · exact c.out _ (List.mem_of_getElem? (i := 1) rfl)
      · exact c.out _ (List.mem_of_getElem? (i := 2) rfl)), (fun r hr => by
      simp only [List.mem_cons, List.not_mem_nil, or_false] at hr
      rcases hr with rfl | rfl | rfl
      · exact c.empty _ (List.mem_of_getElem? (i := 0) rfl)
      · exact c.empty _ (List.mem_of_getElem? (i := 1) rfl)
      · exact c.empty _ (List.mem_of_getElem? (i := 2) rfl)), hb, fun H a ns hl hO hT hS => ⟨a, ns, rfl, hS, hl, hO, hT, fun _ => rfl⟩,
      fun b0 h1 h2 h3 => hF b0 h1 h2 (h3 _ (List.mem_of_getElem? (i := 0) rfl)) (h3 _ (List.mem_of_getElem? (i := 1) rfl)) (h3 _ (List.mem_of_getElem? (i := 2) rfl))⟩
