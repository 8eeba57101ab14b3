import PyProof.Rows.All
import Wide.All
import OpenK.AllK
import Wide.FinOn
import HandS.ForMost
import HandS.Wide
import HandS.IsInst
import HandS.Property
import HandS.ClsMeth
import HandS.Defaults
import HandS.MakeKw
import HandS.MakeKwOnly
import HandS.FStr
import HandS.Lambda
import HandS.SlotsOwn
import HandS.Evl
import HandS.Walk
import KE.KStateDown
import Lean
import HandS.Text
import PyProof.StrBlock2
import OpenK.KDescr
import KE.GoesEnum
import KE.GoesEnumKw
import KE.GoesZip
import KE.GoesMore
import KE.KUnpackStar
import HandS.Ends
import HandS.Words
import HandS.Head0
import HandS.Head1
import HandS.Head2
import HandS.HeadEnd
import HandS.HeadHook1
import HandS.HeadHook2
import HandS.HeadNt
import HandS.HeadHook4
import KE.KNestM
import HandS.ExcIs
import KE.KOpsOwn
import KE.KExcIs
import HandS.ExcInit
import HandS.ExcOwn
import HandS.ExcField
import HandS.RaiseMore
import HandS.Set
import HandS.SetFor
import HandS.Strs
import HandS.Conv
import HandS.DictComp
import HandS.Star
import HandS.More
import KE.KDictSum
import KE.KSortTupG
import HandS.EndTab
import PyProof.ReprLen
import PyProof.StrLawsRepr
import KE.LtData
import KE.DataCmp
import KE.KCallOwn
import KE.KDictPairs
import HandS.TupLen
import HandS.Flow
import HandS.Style
import HandS.ReplaceLit
import HandS.DictEq
import HandS.ExcValue
import HandS.ListEq
import KE.KSuper
import HandS.HeadHook3
import PyProof.MeetsStr3
import PyProof.WalkInts
import PyProof.ListRange
import PyProof.LongRange
import HandS.SortRule
import PySem.Challenge.RW_soundtill_k81_plans_read
set_option Elab.async false
set_option linter.all false
set_option maxRecDepth 100000
set_option maxHeartbeats 4000000
namespace Q
open PySem PySem.Spec PyProof.Rows L2
/-- nothing is being shown -/
abbrev G0 (A : Around) : Prop := A.guards = some []
theorem g0_deeper {A : Around} {e : Env} (h : G0 A) : G0 (A.deeper e) := h
theorem g0_caller : G0 callerA := rfl
/-- a def's promise where nothing is being shown around it -/
structure FnA (P : Program) (w : World) (K : PySem.W.Frag) (mg : Str → Option Value) (base : Heap) (CX : CXT) (k : Nat) (f : Addr) (fd : FuncData) (ps : List Str) (sp : Sp) : Prop where
  len : ∀ vs H Q E, sp vs H Q E → vs.length = ps.length
  run : ∀ (A : Around) (outer : List Env) (s : Shared) (H : Hp) (args : Args) (us : List Value) (vs : List V) (Q : VK) (E : XK), G0 A → Room k A → Env0 P w K mg base A outer s H →
    BindsTo s fd args (ps.zip us) → Vals vs us → sp vs H Q E → codeAny (model P w) A (.call (.ref f) args) (CR CX outer P w H s Q E) s
section
variable {X : Cx}
def rRepr (K : PySem.W.Frag) : List V → Hp → VK → Prop := fun xs H Q => ∃ (x : V) (d : PyData), xs = [x] ∧ Dp K H x d ∧ d.showable = true ∧ d.depth ≤ 60 ∧ d.shown.length ≤ sizeLine ∧ Q (.str d.shown) H
theorem dp_noDict {K : PySem.W.Frag} {H : Hp} : ∀ (d : PyData) (x : V), Dp K H x d → d.hasDict = false := by
  have key : ∀ (n : Nat) (d : PyData) (x : V), sizeOf d ≤ n → Dp K H x d → d.hasDict = false := by
    intro n
    induction n with
    | zero => intro d x hn h; cases d <;> simp at hn
    | succ n ih =>
      have all : ∀ (ds : List PyData) (vs : List V), sizeOf ds ≤ n → DpAll K H vs ds → PyData.hasDictAll ds = false := by
        intro ds
        induction ds with
        | nil => intro vs _ _; simp only [PyData.hasDictAll]
        | cons d ds ihd =>
          intro vs hs h
          cases h with
          | cons h1 h2 =>
            have s1 : sizeOf d ≤ n := by simp at hs; omega
            have s2 : sizeOf ds ≤ n := by simp at hs; omega
            simp only [PyData.hasDictAll, ih d _ s1 h1, ihd _ s2 h2, Bool.or_self]
      intro d x hn h
      cases h with
      | non => simp only [PyData.hasDict]
      | bl b => simp only [PyData.hasDict]
      | int i => simp only [PyData.hasDict]
      | str x => simp only [PyData.hasDict]
      | lst hs ha => simp only [PyData.hasDict]; exact all _ _ (by simp at hn; omega) ha
      | tup hs ha => simp only [PyData.hasDict]; exact all _ _ (by simp at hn; omega) ha
  exact fun d x h => key (sizeOf d) d x (Nat.le_refl _) h
theorem call_repr (g : G0 X.A) (hu : X.A.units + 64 < cLine) : CallR X (.builtin "repr") (rRepr X.K) := by
  intro pins s σ H xs us Q I r h
  obtain ⟨x, d, rfl, hd, hs, hdp, hz, q⟩ := h
  obtain ⟨u, rfl, ru⟩ := r.one
  have nd := dp_noDict d x hd
  obtain ⟨as, hr⟩ := Dp.reads I d x u hd ru
  cases hd with
  | non =>
    cases (show u = Value.none from ru)
    exact PySem.P.repr_of_none ⟨.str "None", H, I.tok _, ⟨_, rfl⟩, by simpa only [PyData.shown] using q⟩
  | bl b =>
    cases (show u = Value.bool b from ru)
    exact PySem.P.repr_of_bool ⟨.str (if b then "True" else "False"), H, I.tok _, ⟨_, rfl⟩, by simpa only [PyData.shown] using q⟩
  | int i =>
    obtain ⟨t, e⟩ := (show ∃ t, u = Value.int i t from ru)
    cases e
    exact PySem.P.repr_of_int (by simpa [PyData.showable] using hs) ⟨.str (toString i), H, I.tok _, ⟨_, rfl⟩, by simpa only [PyData.shown] using q⟩
  | str z =>
    obtain ⟨t, e⟩ := (show ∃ t, u = Value.str z t from ru)
    cases e
    exact PySem.P.repr_of_str ⟨.str (reprText z), H, I.tok _, ⟨_, rfl⟩, by simpa only [PyData.shown] using q⟩ (by simpa only [PyData.shown] using hz)
  | lst h1 h2 =>
    cases (show u = Value.ref _ from ru)
    exact repr_of_reads' hr hs (PyData.noDict_hsm nd) g (by omega) (fun _ _ e => e) (fun h' u tk hk => ⟨.str _, H, I.kept (t' := tk) hk, ⟨_, rfl⟩, q⟩) hz
  | tup h1 h2 =>
    cases (show u = Value.ref _ from ru)
    exact repr_of_reads' hr hs (PyData.noDict_hsm nd) g (by omega) (fun _ _ e => e) (fun h' u tk hk => ⟨.str _, H, I.kept (t' := tk) hk, ⟨_, rfl⟩, q⟩) hz
end
end Q
namespace Q
open PySem PySem.Spec PyProof.Rows L2
/-- no table of code objects -/
abbrev NoT (o : HO) : Prop := ∀ ps, o ≠ .tbl ps
/-- neither a table nor a thing by its heap -/
def plainB : HO → Bool
  | .tbl _ => false
  | .ext _ => false
  | _ => true
/-- told: as it is, and no table -/
def Gh (G H : Hp) : Prop := Same G H ∧ ∀ a o, G a = some o → NoT o
/-- all but p is as it was -/
def But (p : Addr) (H H' : Hp) : Prop := ∀ b o, b ≠ p → H b = some o → H' b = some o
/-- the entry: the heap, the ghost, the objects of the caller that the def may change -/
structure En where
  H0 : Hp
  G0 : Hp
  P0 : List Addr
  T : List (Addr × Str)
structure Wd (e : En) (G H : Hp) (M : List Addr) : Prop where
  le : Same G H
  mu : ∀ a ∈ M, G a = none ∧ (∃ o, H a = some o) ∧ (e.H0 a = none ∨ a ∈ e.P0)
  nd : M.Nodup
  dom : ∀ a, e.H0 a ≠ none → H a ≠ none
  gr : Same e.G0 G
  fr : ∀ a, e.H0 a ≠ none → G a = e.G0 a
  kp : ∀ a o, a ∉ e.P0 → e.H0 a = some o → H a = some o
  nt : ∀ a o, G a = some o → NoT o
  mt : ∀ a ∈ M, ∀ o, H a = some o → plainB o = true
  tb : LamX.Tabs e.T H
theorem pl_nt {o : HO} (h : plainB o = true) : NoT o := fun ps z => by
  rw [z] at h
  cases h
theorem tabs_but {T : List (Addr × Str)} {H H' : Hp} {p : Addr} {o : HO} (t : LamX.Tabs T H) (b : But p H H') (hp : H p = some o) (pl : plainB o = true) : LamX.Tabs T H' := fun q hq => by
  obtain ⟨ps, h1, h2, h3⟩ := t q hq
  refine ⟨ps, b _ _ (fun z => ?_) h1, h2, fun pos cv hc => ?_⟩
  · rw [z, hp] at h1
    rw [Option.some.inj h1] at pl
    cases pl
  · obtain ⟨c, e1, e2⟩ := h3 pos cv hc
    refine ⟨c, e1, b _ _ (fun z => ?_) e2⟩
    rw [z, hp] at e2
    rw [Option.some.inj e2] at pl
    cases pl
theorem tabs_nil {H : Hp} : LamX.Tabs [] H := fun p hp => by cases hp
theorem Wd.gh {e : En} {G H : Hp} {M : List Addr} (w : Wd e G H M) : Gh G H := ⟨w.le, w.nt⟩
section
variable {e : En} {G H H' : Hp} {M : List Addr} {q p : Addr} {o u : HO}
theorem same_upd (h : H q = none) : Same H (upd H q o) := fun a u e => by
  rw [upd_ne (ne_of_none e h)]
  exact e
theorem some_ne {α : Type} {x : Option α} {y : α} (h : x = some y) : x ≠ none := by rw [h]; exact Option.some_ne_none y
theorem wd_startT {H G : Hp} {P : List Addr} {T : List (Addr × Str)} {M : List Addr} (s : Gh G H) (hp : ∀ a ∈ M, G a = none ∧ ∃ o, H a = some o ∧ plainB o = true) (nd : M.Nodup) (sub : ∀ a ∈ M, a ∈ P) (t : LamX.Tabs T H) : Wd ⟨H, G, P, T⟩ G H M :=
  ⟨s.1, fun a ha => ⟨(hp a ha).1, (hp a ha).2.elim fun o z => ⟨o, z.1⟩, .inr (sub a ha)⟩, nd, fun _ h => h, Same.refl _, fun _ _ => rfl, fun _ _ _ h => h, s.2, fun a ha o h => by
    obtain ⟨_, u, h1, h2⟩ := hp a ha
    rw [h1] at h
    rw [← Option.some.inj h]
    exact h2, t⟩
theorem wd_start {H G : Hp} {P : List Addr} (s : Gh G H) (hp : ∀ a ∈ P, G a = none ∧ ∃ o, H a = some o ∧ plainB o = true) (nd : P.Nodup) : Wd ⟨H, G, P, []⟩ G H P := wd_startT s hp nd (fun _ h => h) tabs_nil
theorem wd_pure {H G : Hp} (s : Gh G H) : Wd ⟨H, G, [], []⟩ G H [] := wd_start s (fun a h => by simp at h) List.nodup_nil
theorem Wd.g (w : Wd e G H M) (h : H q = none) : G q = none := by
  cases z : G q with
  | none => rfl
  | some o => rw [w.le _ _ z] at h; cases h
theorem Wd.nm (w : Wd e G H M) (h : H q = none) {m : Addr} (hm : m ∈ M) : q ≠ m := fun z => by
  obtain ⟨_, ⟨o, ho⟩, _⟩ := w.mu m hm
  rw [← z, h] at ho
  cases ho
theorem Wd.n0 (w : Wd e G H M) (h : H q = none) : e.H0 q = none := by
  cases z : e.H0 q with
  | none => rfl
  | some o => exact absurd h (w.dom q (some_ne z))
/-- a new object, told -/
theorem wd_lay (w : Wd e G H M) (h : H q = none) (no : NoT o := by intro ps z; cases z) : Wd e (upd G q o) (upd H q o) M where
  le := fun a u z => by
    by_cases x : a = q
    · subst x; rw [upd_same] at z ⊢; exact z
    · rw [upd_ne x] at z ⊢; exact w.le _ _ z
  mu := fun a ha => by
    obtain ⟨h1, h2, h3⟩ := w.mu a ha
    have x : a ≠ q := (w.nm h ha).symm
    rw [upd_ne x, upd_ne x]
    exact ⟨h1, h2, h3⟩
  nd := w.nd
  dom := fun a ha => by
    by_cases x : a = q
    · rw [x, upd_same]; simp
    · rw [upd_ne x]; exact w.dom a ha
  gr := fun a u z => same_upd (w.g h) _ _ (w.gr _ _ z)
  fr := fun a ha => by
    have x : a ≠ q := fun z => by rw [z, w.n0 h] at ha; exact ha rfl
    rw [upd_ne x]
    exact w.fr a ha
  kp := fun a u hp z => same_upd h _ _ (w.kp a u hp z)
  nt := fun a u z => by
    by_cases x : a = q
    · rw [x, upd_same] at z
      rw [← Option.some.inj z]
      exact no
    · rw [upd_ne x] at z
      exact w.nt a u z
  mt := fun a ha u z => by
    rw [upd_ne (w.nm h ha).symm] at z
    exact w.mt a ha u z
  tb := w.tb.ext (same_upd h)
/-- a new object, to be changed -/
theorem wd_layM (w : Wd e G H M) (h : H q = none) (no : plainB o = true := by rfl) : Wd e G (upd H q o) (q :: M) where
  le := fun a u z => same_upd h _ _ (w.le _ _ z)
  mu := fun a ha => by
    rcases List.mem_cons.mp ha with x | ha
    · subst x
      exact ⟨w.g h, ⟨o, upd_same⟩, .inl (w.n0 h)⟩
    · obtain ⟨h1, h2, h3⟩ := w.mu a ha
      rw [upd_ne (w.nm h ha).symm]
      exact ⟨h1, h2, h3⟩
  nd := List.nodup_cons.mpr ⟨fun z => w.nm h z rfl, w.nd⟩
  dom := fun a ha => by
    by_cases x : a = q
    · rw [x, upd_same]; simp
    · rw [upd_ne x]; exact w.dom a ha
  gr := w.gr
  fr := w.fr
  kp := fun a u hp z => same_upd h _ _ (w.kp a u hp z)
  nt := w.nt
  mt := fun a ha u z => by
    rcases List.mem_cons.mp ha with x | ha
    · rw [x, upd_same] at z
      rw [← Option.some.inj z]
      exact no
    · rw [upd_ne (w.nm h ha).symm] at z
      exact w.mt a ha u z
  tb := w.tb.ext (same_upd h)
/-- a changed object -/
theorem wd_but (w : Wd e G H M) (hq : q ∈ M) (b : But q H H') (ho : H' q = some o) (no : plainB o = true := by rfl) : Wd e G H' M where
  le := fun a u z => b a u (fun x => by rw [x, (w.mu q hq).1] at z; cases z) (w.le _ _ z)
  mu := fun a ha => by
    obtain ⟨h1, ⟨o1, h2⟩, h3⟩ := w.mu a ha
    refine ⟨h1, ?_, h3⟩
    by_cases x : a = q
    · subst x; exact ⟨_, ho⟩
    · exact ⟨_, b a _ x h2⟩
  nd := w.nd
  dom := fun a ha => by
    by_cases x : a = q
    · rw [x, ho]; simp
    · cases z : H a with
      | none => exact absurd z (w.dom a ha)
      | some u => rw [b a u x z]; simp
  gr := w.gr
  fr := w.fr
  kp := fun a u hp z => by
    have h1 := w.kp a u hp z
    refine b a u (fun x => ?_) h1
    subst x
    rcases (w.mu a hq).2.2 with y | y
    · rw [y] at z; cases z
    · exact hp y
  nt := w.nt
  mt := fun a ha u z => by
    by_cases x : a = q
    · rw [x, ho] at z
      rw [← Option.some.inj z]
      exact no
    · obtain ⟨_, ⟨v, hv⟩, _⟩ := w.mu a ha
      rw [b a v x hv] at z
      rw [← Option.some.inj z]
      exact w.mt a ha v hv
  tb := by
    obtain ⟨_, ⟨v, hv⟩, _⟩ := w.mu q hq
    exact tabs_but w.tb b hv (w.mt q hq v hv)
theorem but_upd : But q H (upd H q o) := fun b u hb h => by rw [upd_ne hb]; exact h
theorem wd_mut (w : Wd e G H M) (hq : q ∈ M) (no : plainB o = true := by rfl) : Wd e G (upd H q o) M := wd_but w hq but_upd upd_same no
theorem wd_same (w : Wd e G H M) (s : Same H H') : Wd e G H' M where
  le := fun a u z => s _ _ (w.le _ _ z)
  mu := fun a ha => by
    obtain ⟨h1, ⟨o1, h2⟩, h3⟩ := w.mu a ha
    exact ⟨h1, ⟨o1, s _ _ h2⟩, h3⟩
  nd := w.nd
  dom := fun a ha => by
    cases z : H a with
    | none => exact absurd z (w.dom a ha)
    | some u => rw [s a u z]; simp
  gr := w.gr
  fr := w.fr
  kp := fun a u hp z => s _ _ (w.kp a u hp z)
  nt := w.nt
  mt := fun a ha u z => by
    obtain ⟨_, ⟨v, hv⟩, _⟩ := w.mu a ha
    rw [s _ _ hv] at z
    rw [← Option.some.inj z]
    exact w.mt a ha v hv
  tb := w.tb.ext s
/-- what is changed no more is told -/
theorem wd_freeze (w : Wd e G H (q :: M)) (h : H q = some o) (h0 : e.H0 q = none) : Wd e (upd G q o) H M ∧ Same G (upd G q o) := by
  have gq := (w.mu q (List.mem_cons_self)).1
  have nq := List.nodup_cons.mp w.nd
  refine ⟨⟨fun a u z => ?_, fun a ha => ?_, nq.2, w.dom, fun a u z => same_upd gq _ _ (w.gr _ _ z), fun a ha => ?_, w.kp, fun a u z => ?_, fun a ha => w.mt a (List.mem_cons_of_mem _ ha), w.tb⟩, same_upd gq⟩
  · by_cases x : a = q
    · subst x; rw [upd_same] at z; rw [← z]; exact h
    · rw [upd_ne x] at z; exact w.le _ _ z
  · obtain ⟨h1, h2, h3⟩ := w.mu a (List.mem_cons_of_mem _ ha)
    rw [upd_ne (show a ≠ q from fun x => nq.1 (by rw [← x]; exact ha))]
    exact ⟨h1, h2, h3⟩
  · have x : a ≠ q := fun z => by rw [z, h0] at ha; exact ha rfl
    rw [upd_ne x]
    exact w.fr a ha
  · by_cases x : a = q
    · rw [x, upd_same] at z
      rw [← Option.some.inj z]
      exact pl_nt (w.mt q List.mem_cons_self o h)
    · rw [upd_ne x] at z
      exact w.nt a u z
theorem wd_drop {M' : List Addr} (w : Wd e G H M) (h : M'.Sublist M) : Wd e G H M' := ⟨w.le, fun a ha => w.mu a (h.subset ha), w.nd.sublist h, w.dom, w.gr, w.fr, w.kp, w.nt, fun a ha => w.mt a (h.subset ha), w.tb⟩
end
/-- a def that changes nothing hands back what P tells: P of the value and the ghost -/
def Ret (G H : Hp) (P : V → Hp → Prop) (Q : VK) : Prop := ∀ v H' G', Same H H' → Gh G' H' → Same G G' → (∀ a, H a ≠ none → G' a = G a) → P v G' → Q v H'
theorem ret_of {G H G' H' : Hp} {M : List Addr} {P : V → Hp → Prop} {Q : VK} {v : V} (k : Ret G H P Q) (w : Wd ⟨H, G, [], []⟩ G' H' M) (p : P v G') : Q v H' :=
  k v H' G' (fun a o h => w.kp a o (by simp) h) w.gh w.gr w.fr p
/-- a call of such a def -/
theorem ret_use {e : En} {G H : Hp} {M : List Addr} {P : V → Hp → Prop} {Q : VK} (w : Wd e G H M) (k : ∀ v G' H', Wd e G' H' M → Same G G' → Same H H' → P v G' → Q v H') : Ret G H P Q := by
  intro v H' G' s1 s2 s3 fr p
  refine k v G' H' ?_ s3 s1 p
  have w1 := wd_same w s1
  refine ⟨s2.1, fun a ha => ?_, w.nd, w1.dom, fun a o h => s3 _ _ (w.gr _ _ h), fun a ha => by rw [fr a (w.dom a ha)]; exact w.fr a ha, w1.kp, s2.2, w1.mt, w1.tb⟩
  obtain ⟨h1, ⟨o, h2⟩, h3⟩ := w.mu a ha
  obtain ⟨_, h4, _⟩ := w1.mu a ha
  exact ⟨by rw [fr a (some_ne h2)]; exact h1, h4, h3⟩
/-- the pen at p, its cells at c, at most n of them begun -/
def PenAt (p c : Addr) (n : Nat) (H : Hp) : Prop := ∃ (at_ : Nat) (g : Int), H p = some (.lst [.ref c, .int at_, .int g]) ∧ at_ ≤ n ∧ 0 ≤ g
theorem PenAt.more {p c : Addr} {n m : Nat} {H : Hp} (P : PenAt p c n H) (h : n ≤ m) : PenAt p c m H := by
  obtain ⟨a, g, h1, h2, h3⟩ := P
  exact ⟨a, g, h1, Nat.le_trans h2 h, h3⟩
theorem PenAt.same {p c : Addr} {n : Nat} {H H' : Hp} (P : PenAt p c n H) (s : Same H H') : PenAt p c n H' := by
  obtain ⟨a, g, h1, h2⟩ := P
  exact ⟨a, g, s _ _ h1, h2⟩
theorem PenAt.but {p c q : Addr} {n : Nat} {H H' : Hp} (P : PenAt p c n H) (b : But q H H') (h : p ≠ q) : PenAt p c n H' := by
  obtain ⟨a, g, h1, h2⟩ := P
  exact ⟨a, g, b _ _ h h1, h2⟩
def Cells (c : Addr) (G : Hp) : Prop := ∃ ns : List Int, G c = some (.lst (ns.map V.int)) ∧ ns.length ≤ 63
theorem Cells.same {c : Addr} {G G' : Hp} (h : Cells c G) (s : Same G G') : Cells c G' := by
  obtain ⟨ns, h1, h2⟩ := h
  exact ⟨ns, s _ _ h1, h2⟩
/-- a def that takes from the pen alone -/
def RetP (p c : Addr) (n : Nat) (G H : Hp) (P : V → Hp → Prop) (Q : VK) : Prop := ∀ v H' G', But p H H' → PenAt p c n H' → Gh G' H' → Same G G' → (∀ a, H a ≠ none → G' a = G a) → P v G' → Q v H'
theorem retP_of {p c : Addr} {n : Nat} {G H G' H' : Hp} {M : List Addr} {P : V → Hp → Prop} {Q : VK} {v : V} (k : RetP p c n G H P Q) (w : Wd ⟨H, G, [p], []⟩ G' H' M) (hp : PenAt p c n H') (h : P v G') : Q v H' :=
  k v H' G' (fun a o hn h => w.kp a o (by simpa using hn) h) hp w.gh w.gr w.fr h
theorem retP_use {p c : Addr} {n : Nat} {e : En} {G H : Hp} {M : List Addr} {P : V → Hp → Prop} {Q : VK} (w : Wd e G H M) (hp : p ∈ M) (k : ∀ v G' H', Wd e G' H' M → Same G G' → But p H H' → PenAt p c n H' → P v G' → Q v H') : RetP p c n G H P Q := by
  intro v H' G' b P' s2 s3 fr p'
  obtain ⟨a, g, h1, h2⟩ := id P'
  have w1 := wd_but w hp b h1
  refine k v G' H' ⟨s2.1, fun a ha => ?_, w.nd, w1.dom, fun a o h => s3 _ _ (w.gr _ _ h), fun a ha => by rw [fr a (w.dom a ha)]; exact w.fr a ha, w1.kp, s2.2, w1.mt, w1.tb⟩ s3 b P' p'
  obtain ⟨h1, ⟨o, h2⟩, h3⟩ := w.mu a ha
  obtain ⟨_, h4, _⟩ := w1.mu a ha
  exact ⟨by rw [fr a (some_ne h2)]; exact h1, h4, h3⟩
theorem same_at {H H' : Hp} {p : Addr} {o : HO} (s : Same H H') (h : H p = some o) : H' p = some o := s _ _ h
theorem but_at {H H' : Hp} {p q : Addr} {o : HO} (s : But q H H') (n : p ≠ q) (h : H p = some o) : H' p = some o := s _ _ n h
theorem wd_at {e : En} {G H : Hp} {M : List Addr} {p : Addr} {o : HO} (w : Wd e G H M) (h : G p = some o) : H p = some o := w.le _ _ h
theorem same_sqL {K : PySem.W.Frag} {H H' : Hp} {p : Addr} {xs : List V} (s : Same H H') (h : SqL K H p xs) : SqL K H' p xs := s.seq h
theorem wd_sqL {e : En} {G H : Hp} {M : List Addr} {K : PySem.W.Frag} {p : Addr} {xs : List V} (w : Wd e G H M) (h : SqL K G p xs) : SqL K H p xs := w.le.seq h
theorem same_sqT {K : PySem.W.Frag} {H H' : Hp} {p : Addr} {xs : List V} (s : Same H H') (h : SqT K H p xs) : SqT K H' p xs := by
  rcases h with (h | ⟨o, h⟩) | h
  · exact .inl (.inl (s _ _ h))
  · exact .inl (.inr ⟨o, s _ _ h⟩)
  · exact .inr h
theorem wd_sqT {e : En} {G H : Hp} {M : List Addr} {K : PySem.W.Frag} {p : Addr} {xs : List V} (w : Wd e G H M) (h : SqT K G p xs) : SqT K H p xs := same_sqT w.le h
theorem same_dpAll {K : PySem.W.Frag} {H H' : Hp} (s : Same H H') : ∀ (n : Nat), (∀ d x, sizeOf d ≤ n → Dp K H x d → Dp K H' x d) ∧ (∀ ds vs, sizeOf ds ≤ n → DpAll K H vs ds → DpAll K H' vs ds) := by
  intro n
  induction n with
  | zero => exact ⟨fun d x hn h => (by cases d <;> simp at hn), fun ds vs hn h => (by cases ds <;> simp at hn)⟩
  | succ n ih =>
    have h1 : ∀ d x, sizeOf d ≤ n + 1 → Dp K H x d → Dp K H' x d := by
      intro d x hn h
      cases h with
      | non => exact .non
      | bl b => exact .bl b
      | int i => exact .int i
      | str x => exact .str x
      | lst hs ha => exact .lst (s.seq hs) (ih.2 _ _ (by simp at hn; omega) ha)
      | tup hs ha => exact .tup (same_sqT s hs) (ih.2 _ _ (by simp at hn; omega) ha)
    refine ⟨h1, fun ds vs hn h => ?_⟩
    cases h with
    | nil => exact .nil
    | cons a b => exact .cons (h1 _ _ (by simp at hn; omega) a) (ih.2 _ _ (by simp at hn; omega) b)
theorem same_dp {K : PySem.W.Frag} {H H' : Hp} (s : Same H H') {x : V} {d : PyData} (h : Dp K H x d) : Dp K H' x d := (same_dpAll s (sizeOf d)).1 d x (Nat.le_refl _) h
theorem same_dpa {K : PySem.W.Frag} {H H' : Hp} (s : Same H H') {xs : List V} {ds : List PyData} (h : DpAll K H xs ds) : DpAll K H' xs ds := (same_dpAll s (sizeOf ds)).2 ds xs (Nat.le_refl _) h
theorem wd_dp {e : En} {G H : Hp} {M : List Addr} {K : PySem.W.Frag} {x : V} {d : PyData} (w : Wd e G H M) (h : Dp K G x d) : Dp K H x d := same_dp w.le h
section
variable {σ : L2.St} {H : Hp} {i : Nat} {v x y z : V} {ta tb tc te : TE} {t u : TT} {ts tl : TA} {D : Ends} {sa sb : TS} {g : TG} {Qv : VK} {Qa : List V → Hp → Prop} {Qb : Bool → Hp → Prop} {r r' : R2} {K : PySem.W.Frag}
theorem r_var (h : σ[i]? = some (some v)) (q : Qv v H) : tVar i σ H Qv := ⟨v, h, q⟩
theorem r_c (q : Qv v H) : tC v σ H Qv := q
theorem r_op (q : ta σ H fun x H1 => tb σ H1 fun y H2 => r x y H2 Qv) : tOp r ta tb σ H Qv := q
theorem r_un {r : V → Hp → VK → Prop} (q : ta σ H fun x H1 => r x H1 Qv) : tUn r ta σ H Qv := q
theorem r_cb {r : List V → Hp → VK → Prop} (q : ts σ H fun vs H1 => r vs H1 Qv) : tCB r ts σ H Qv := q
theorem r_call {sp : Sp} {dvs : List V} {E : XK} (q : ts σ H fun vs H1 => sp (vs ++ dvs) H1 Qv E) : tCall sp dvs E ts σ H Qv := q
theorem r_call0 {sp : Sp} {E : XK} (q : ts σ H fun vs H1 => sp vs H1 Qv E) : tCall sp [] E ts σ H Qv := by
  unfold tCall
  simp only [List.append_nil]
  exact q
theorem r_nil (q : Qa [] H) : tNil σ H Qa := q
theorem r_cons (q : ta σ H fun x H1 => ts σ H1 fun xs H2 => Qa (x :: xs) H2) : tCons ta ts σ H Qa := q
theorem r_seq (q : sa { D with nx := sb D } σ H) : tSeq sa sb D σ H := q
theorem r_asg (q : te σ H fun x H1 => g x σ H1 D.nx) : tAsg te g D σ H := q
theorem r_name {Q : L2.St → Hp → Prop} (q : Q (σ.set i (some v)) H) : gName i v σ H Q := q
theorem r_ret (q : te σ H D.rt) : tRet te D σ H := q
theorem r_next (q : D.nx σ H) : tNext D σ H := q
theorem r_drop (q : te σ H fun _ H1 => D.nx σ H1) : tDrop te D σ H := q
theorem r_ifS (q : t σ H fun b H1 => if b = true then sa D σ H1 else sb D σ H1) : tIfS t sa sb D σ H := q
theorem r_test (q : te σ H fun x H' => ∃ k, x = .bl k ∧ Qb k H') : tTest te σ H Qb := q
theorem r_tB (q : te σ H fun x H' => ∃ k, x = .bl k ∧ Qb k H') : tB te σ H Qb := q
theorem r_exb {P : Bool → Prop} {b : Bool} (q : P b) : ∃ k, V.bl b = .bl k ∧ P k := ⟨b, rfl, q⟩
theorem r_and (q : t σ H fun c H1 => if c = true then u σ H1 Qb else Qb false H1) : tAnd t u σ H Qb := q
theorem r_or (q : t σ H fun c H1 => if c = true then Qb true H1 else u σ H1 Qb) : tOr t u σ H Qb := q
theorem r_not (q : t σ H fun c H1 => Qb (!c) H1) : tNot t σ H Qb := q
theorem r_andV (q : ta σ H fun x H1 => ∃ c, x = .bl c ∧ if c = true then tb σ H1 Qv else Qv (.bl false) H1) : tAndV ta tb σ H Qv := q
theorem r_orV (q : ta σ H fun x H1 => ∃ c, x = .bl c ∧ if c = true then Qv (.bl true) H1 else tb σ H1 Qv) : tOrV ta tb σ H Qv := q
theorem r_notV (q : ta σ H fun x H1 => ∃ c, x = .bl c ∧ Qv (.bl (!c)) H1) : tNotV ta σ H Qv := q
theorem r_ifE (q : t σ H fun c H1 => if c = true then ta σ H1 Qv else tb σ H1 Qv) : tIf t ta tb σ H Qv := q
theorem r_chain (q : ta σ H fun x H1 => tb σ H1 fun y H2 => r x y H2 fun z H3 => ∃ k, z = .bl k ∧ (if k = true then tc σ H3 fun w' H4 => r' y w' H4 Qv else Qv (.bl false) H3)) : tChain r r' ta tb tc σ H Qv := q
theorem r_eq (h : scal x y = true) (q : Qv (.bl (decide (x = y))) H) : rEq x y H Qv := ⟨h, q⟩
theorem r_gSub {to ti : TE} {s : TSet} {Q : L2.St → Hp → Prop} (q : to σ H fun o H1 => ti σ H1 fun i H2 => s o i v H2 fun H3 => Q σ H3) : gSub to ti s v σ H Q := q
/-- a new object is laid, then R of its address -/
def Lay (n : Nat) (o : HO) (R : VK) (H : Hp) : Prop := n ≤ sizeLine ∧ ∀ p, H p = none → R (.ref p) (upd H p o)
theorem r_lay {e : En} {G : Hp} {M : List Addr} {n : Nat} {o : HO} {R : VK} (w : Wd e G H M) (hl : n ≤ sizeLine) (no : NoT o) (k : ∀ p G' H', H p = none → Wd e G' H' M → Same G G' → G' p = some o → Same H H' → R (.ref p) H') : Lay n o R H :=
  ⟨hl, fun p hp => k p _ _ hp (wd_lay w hp no) (same_upd (w.g hp)) upd_same (same_upd hp)⟩
def LayM (n : Nat) (o : HO) (R : VK) (H : Hp) : Prop := Lay n o R H
theorem r_layM {e : En} {G : Hp} {M : List Addr} {n : Nat} {o : HO} {R : VK} (w : Wd e G H M) (hl : n ≤ sizeLine) (no : plainB o = true) (k : ∀ p H', H p = none → Wd e G H' (p :: M) → H' p = some o → Same H H' → (∀ m ∈ M, p ≠ m) → R (.ref p) H') : LayM n o R H :=
  ⟨hl, fun p hp => k p _ hp (wd_layM w hp no) upd_same (same_upd hp) fun m hm => w.nm hp hm⟩
/-- a list that will be changed -/
def tLstM (ts : TA) : TE := tLst ts
theorem pe_lstM {X : Cx} {es : List Expr} {pos : Pos} (h : PA X es ts) : PE X (.List es pos) (tLstM ts) := pe_lst h
theorem r_lstM (q : ts σ H fun xs H1 => LayM xs.length (.lst xs) Qv H1) : tLstM ts σ H Qv := q
theorem r_tup (q : ts σ H fun xs H1 => Lay xs.length (.tup xs) Qv H1) : tTup ts σ H Qv := q
theorem r_lst (q : ts σ H fun xs H1 => Lay xs.length (.lst xs) Qv H1) : tLst ts σ H Qv := q
theorem opr_or {X : Cx} {f : Value → Value → Sem Value} {r1 r2 : R2} (h1 : OpR X f r1) (h2 : OpR X f r2) : OpR X f (fun x y H Q => r1 x y H Q ∨ r2 x y H Q) := fun pins s σ H x y v u Q I rx ry h =>
  h.elim (fun h => h1 pins s σ H x y v u Q I rx ry h) fun h => h2 pins s σ H x y v u Q I rx ry h
theorem cr_or {X : Cx} {f : Value} {r1 r2 : List V → Hp → VK → Prop} (h1 : CallR X f r1) (h2 : CallR X f r2) : CallR X f (fun xs H Q => r1 xs H Q ∨ r2 xs H Q) := fun pins s σ H xs us Q I r h =>
  h.elim (fun h => h1 pins s σ H xs us Q I r h) fun h => h2 pins s σ H xs us Q I r h
def rStr2 (f : Str → Str → V) : R2 := fun x y H Q => ∃ a b, x = .str a ∧ y = .str b ∧ Q (f a b) H
def rAddS : R2 := fun x y H Q => ∃ i j, x = .str i ∧ y = .str j ∧ i.length + j.length ≤ sizeLine ∧ Q (.str (i ++ j)) H
/-- + : ints, texts, lists -/
def rAdd : R2 := fun x y H Q => rI0 (fun i j => .int (i + j)) x y H Q ∨ (rAddS x y H Q ∨ rCat x y H Q)
theorem q_add {X : Cx} : OpR X (binaryOp .Add) rAdd := opr_or op_add (opr_or op_add_str op_cat)
theorem r_addI {a b : Int} (q : Qv (.int (a + b)) H) : rAdd (.int a) (.int b) H Qv := .inl ⟨a, b, rfl, rfl, q⟩
theorem r_addS {a b : Str} (h : a.length + b.length ≤ sizeLine) (q : Qv (.str (a ++ b)) H) : rAdd (.str a) (.str b) H Qv := .inr (.inl ⟨a, b, rfl, rfl, h, q⟩)
theorem r_addL {a b : Addr} {xs zs : List V} (h1 : H a = some (.lst xs)) (h2 : H b = some (.lst zs)) (q : Lay (xs.length + zs.length) (.lst (xs ++ zs)) Qv H) : rAdd (.ref a) (.ref b) H Qv := .inr (.inr ⟨a, b, xs, zs, rfl, rfl, h1, h2, q⟩)
def rSub : R2 := rI0 fun i j => .int (i - j)
theorem q_sub {X : Cx} : OpR X (binaryOp .Sub) rSub := op_sub
theorem r_sub {a b : Int} (q : Qv (.int (a - b)) H) : rSub (.int a) (.int b) H Qv := ⟨a, b, rfl, rfl, q⟩
def rMul : R2 := rI CMul fun i j => .int (i * j)
theorem q_mul {X : Cx} : OpR X (binaryOp .Mult) rMul := op_mul
theorem r_mul {a b : Int} (c : CMul a b) (q : Qv (.int (a * b)) H) : rMul (.int a) (.int b) H Qv := ⟨a, b, rfl, rfl, c, q⟩
def rFdiv : R2 := rI CDivW fun i j => .int (i / j)
theorem q_fdiv {X : Cx} : OpR X (binaryOp .FloorDiv) rFdiv := op_fdivW
theorem r_fdiv {a b : Int} (c : CDivW a b) (q : Qv (.int (a / b)) H) : rFdiv (.int a) (.int b) H Qv := ⟨a, b, rfl, rfl, c, q⟩
def rMod : R2 := rI (fun _ j => 0 < j) fun i j => .int (i % j)
theorem q_mod {X : Cx} : OpR X (binaryOp .Mod) rMod := op_mod
theorem r_mod {a b : Int} (c : 0 < b) (q : Qv (.int (a % b)) H) : rMod (.int a) (.int b) H Qv := ⟨a, b, rfl, rfl, c, q⟩
def rPow : R2 := rI CPow fun i j => .int (i ^ j.toNat)
theorem q_pow {X : Cx} : OpR X (binaryOp .Pow) rPow := op_pow
theorem r_pow {a b : Int} (c : CPow a b) (q : Qv (.int (a ^ b.toNat)) H) : rPow (.int a) (.int b) H Qv := ⟨a, b, rfl, rfl, c, q⟩
/-- comparisons of ints | of texts -/
def rLtX : R2 := fun x y H Q => rI0 (fun i j => .bl (decide (i < j))) x y H Q ∨ rStr2 (fun a b => .bl (decide (a.cps.toList < b.cps.toList))) x y H Q
theorem q_lt {X : Cx} : OpR X (compareOp .Lt) rLtX := opr_or op_lt op_lt_str
theorem r_lt {a b : Int} (q : Qv (.bl (decide (a < b))) H) : rLtX (.int a) (.int b) H Qv := .inl ⟨a, b, rfl, rfl, q⟩
theorem r_ltS {a b : Str} (q : Qv (.bl (decide (a.cps.toList < b.cps.toList))) H) : rLtX (.str a) (.str b) H Qv := .inr ⟨a, b, rfl, rfl, q⟩
def rLeX : R2 := rI0 fun i j => .bl (decide (i ≤ j))
theorem q_le {X : Cx} : OpR X (compareOp .LtE) rLeX := op_le
theorem r_le {a b : Int} (q : Qv (.bl (decide (a ≤ b))) H) : rLeX (.int a) (.int b) H Qv := ⟨a, b, rfl, rfl, q⟩
def rGtX : R2 := rI0 fun i j => .bl (decide (j < i))
theorem q_gt {X : Cx} : OpR X (compareOp .Gt) rGtX := op_gt
theorem r_gt {a b : Int} (q : Qv (.bl (decide (b < a))) H) : rGtX (.int a) (.int b) H Qv := ⟨a, b, rfl, rfl, q⟩
def rGeX : R2 := rI0 fun i j => .bl (decide (j ≤ i))
theorem q_ge {X : Cx} : OpR X (compareOp .GtE) rGeX := op_ge
theorem r_ge {a b : Int} (q : Qv (.bl (decide (b ≤ a))) H) : rGeX (.int a) (.int b) H Qv := ⟨a, b, rfl, rfl, q⟩
/-- == : scalars, data -/
def rEqX (K : PySem.W.Frag) : R2 := fun x y H Q => rEq x y H Q ∨ rEqD K x y H Q
theorem q_eq {X : Cx} (hu : X.A.units + 64 < cLine) : OpR X (compareOp .Eq) (rEqX X.K) := opr_or op_eq (op_eqD hu)
theorem r_eqS (h : scal x y = true) (q : Qv (.bl (decide (x = y))) H) : rEqX K x y H Qv := .inl ⟨h, q⟩
theorem r_eqD {d e : PyData} (h1 : Dp K H x d) (h2 : Dp K H y e) (s1 : SeqAt.shaped d = true) (s2 : SeqAt.shaped e = true) (q : Qv (.bl (PyData.eqv d e)) H) : rEqX K x y H Qv := .inr ⟨d, e, h1, h2, s1, s2, q⟩
def rNeX (K : PySem.W.Frag) : R2 := fun x y H Q => rNe x y H Q ∨ rNeD K x y H Q
theorem q_ne {X : Cx} (hu : X.A.units + 64 < cLine) : OpR X (compareOp .NotEq) (rNeX X.K) := opr_or op_ne (op_neD hu)
theorem r_neS (h : scal x y = true) (q : Qv (.bl (!decide (x = y))) H) : rNeX K x y H Qv := .inl ⟨h, q⟩
theorem r_neD {d e : PyData} (h1 : Dp K H x d) (h2 : Dp K H y e) (s1 : SeqAt.shaped d = true) (s2 : SeqAt.shaped e = true) (q : Qv (.bl (!PyData.eqv d e)) H) : rNeX K x y H Qv := .inr ⟨d, e, h1, h2, s1, s2, q⟩
theorem r_inL {p : Addr} {xs : List V} (h : SqL K H p xs) (f1 : flatV x = true) (f2 : xs.all flatV = true) (q : Qv (.bl (inV x xs)) H) : rIn K false x (.ref p) H Qv := ⟨p, xs, rfl, .inl h, f1, f2, q⟩
theorem r_inT {p : Addr} {xs : List V} (h : SqT K H p xs) (f1 : flatV x = true) (f2 : xs.all flatV = true) (q : Qv (.bl (inV x xs)) H) : rIn K false x (.ref p) H Qv := ⟨p, xs, rfl, .inr h, f1, f2, q⟩
theorem r_ninL {p : Addr} {xs : List V} (h : SqL K H p xs) (f1 : flatV x = true) (f2 : xs.all flatV = true) (q : Qv (.bl (!inV x xs)) H) : rIn K true x (.ref p) H Qv := ⟨p, xs, rfl, .inl h, f1, f2, q⟩
theorem r_ninT {p : Addr} {xs : List V} (h : SqT K H p xs) (f1 : flatV x = true) (f2 : xs.all flatV = true) (q : Qv (.bl (!inV x xs)) H) : rIn K true x (.ref p) H Qv := ⟨p, xs, rfl, .inr h, f1, f2, q⟩
def rIsN : R2 := fun x y H Q => y = .non ∧ Q (.bl (decide (x = .non))) H
theorem q_isN {X : Cx} : OpR X (compareOp .Is) rIsN := op_isN
theorem r_isN (q : Qv (.bl (decide (x = .non))) H) : rIsN x .non H Qv := ⟨rfl, q⟩
def rNotN : R2 := fun x y H Q => y = .non ∧ Q (.bl (!decide (x = .non))) H
theorem q_notN {X : Cx} : OpR X (compareOp .IsNot) rNotN := op_notN
theorem r_notN (q : Qv (.bl (!decide (x = .non))) H) : rNotN x .non H Qv := ⟨rfl, q⟩
theorem q_ix {X : Cx} : IxR X (rIx X.K) := ix_seq
theorem r_ixL {p : Addr} {xs : List V} {k : Int} (h : SqL K H p xs) (e : atI xs k = some v) (q : Qv v H) : rIx K (.ref p) (.int k) H Qv := .inl ⟨p, xs, k, v, rfl, rfl, h, e, q⟩
theorem r_ixT {p : Addr} {xs : List V} {k : Int} (h : SqT K H p xs) (e : atI xs k = some v) (q : Qv v H) : rIx K (.ref p) (.int k) H Qv := .inr (.inl ⟨p, xs, k, v, rfl, rfl, h, e, q⟩)
theorem r_ixS {z : Str} {k : Int} {c : Nat} (h : z.length ≤ sizeLine) (e : atI z.cps.toList k = some c) (q : Qv (.str ⟨#[c]⟩) H) : rIx K (.str z) (.int k) H Qv := .inr (.inr ⟨z, k, c, rfl, rfl, h, e, q⟩)
theorem r_setM {e : En} {G : Hp} {M : List Addr} {p : Addr} {xs : List V} {k : Int} {j : Nat} {Q : Hp → Prop} (w : Wd e G H M) (hm : p ∈ M) (h : H p = some (.lst xs)) (e' : ixN xs.length k = some j)
    (q : ∀ H', Wd e G H' M → H' p = some (.lst (xs.set j v)) → But p H H' → Q H') : rSetL (.ref p) (.int k) v H Q := ⟨p, xs, k, j, rfl, rfl, h, e', q _ (wd_mut w hm) upd_same but_upd⟩
def rInt1 : List V → Hp → VK → Prop := fun xs H Q => (∃ i, xs = [.int i] ∧ Q (.int i) H) ∨ ∃ k, xs = [.bl k] ∧ Q (.int (if k then 1 else 0)) H
theorem q_int {X : Cx} : CallR X (.type "int") rInt1 := call_int1
theorem r_int {a : Int} (q : Qv (.int a) H) : rInt1 [.int a] H Qv := .inl ⟨a, rfl, q⟩
theorem r_intB {b : Bool} (q : Qv (.int (if b then 1 else 0)) H) : rInt1 [.bl b] H Qv := .inr ⟨b, rfl, q⟩
def rAbs : List V → Hp → VK → Prop := fun xs H Q => ∃ i, xs = [.int i] ∧ Q (.int (if i < 0 then -i else i)) H
theorem q_abs {X : Cx} : CallR X (.builtin "abs") rAbs := call_abs
theorem r_abs {a : Int} (q : Qv (.int (if a < 0 then -a else a)) H) : rAbs [.int a] H Qv := ⟨a, rfl, q⟩
def rLenX (K : PySem.W.Frag) : List V → Hp → VK → Prop := fun xs H Q => ∃ x n, xs = [x] ∧ LenV K x H n ∧ Q (.int n) H
theorem q_len {X : Cx} : CallR X (.builtin "len") (rLenX X.K) := call_len
theorem r_lenL {p : Addr} {xs : List V} (h : SqL K H p xs) (q : Qv (.int (xs.length : Nat)) H) : rLenX K [.ref p] H Qv := ⟨_, _, rfl, .inl ⟨xs, h, rfl⟩, q⟩
theorem r_lenT {p : Addr} {xs : List V} (h : SqT K H p xs) (q : Qv (.int (xs.length : Nat)) H) : rLenX K [.ref p] H Qv := ⟨_, _, rfl, .inr ⟨xs, h, rfl⟩, q⟩
theorem r_lenS {z : Str} (h : z.length ≤ sizeLine) (q : Qv (.int (z.length : Nat)) H) : rLenX K [.str z] H Qv := ⟨_, _, rfl, ⟨h, rfl⟩, q⟩
def rListOf (K : PySem.W.Frag) : List V → Hp → VK → Prop := fun xs H Q => ∃ p ys, xs = [.ref p] ∧ (SqL K H p ys ∨ SqT K H p ys) ∧ ∀ l, H l = none → Q (.ref l) (upd H l (.lst ys))
theorem q_list {X : Cx} : CallR X (.type "list") (rListOf X.K) := call_list_of
theorem r_listL {p : Addr} {ys : List V} (h : SqL K H p ys) (q : Lay 0 (.lst ys) Qv H) : rListOf K [.ref p] H Qv := ⟨p, ys, rfl, .inl h, q.2⟩
theorem r_listT {p : Addr} {ys : List V} (h : SqT K H p ys) (q : Lay 0 (.lst ys) Qv H) : rListOf K [.ref p] H Qv := ⟨p, ys, rfl, .inr h, q.2⟩
theorem r_sl {r : V → Option Int → Option Int → Hp → VK → Prop} {t1 t2 : TO} (q : te σ H fun x H1 => t1 σ H1 fun l H2 => t2 σ H2 fun u H3 => r x l u H3 Qv) : tSl r te t1 t2 σ H Qv := q
theorem r_noPart {Q : Option Int → Hp → Prop} (q : Q none H) : tNoPart σ H Q := q
theorem r_part {Q : Option Int → Hp → Prop} (q : te σ H fun x H1 => ∃ i, x = .int i ∧ Q (some i) H1) : tPart te σ H Q := q
theorem r_exi {P : Int → Prop} {a : Int} (q : P a) : ∃ i, V.int a = .int i ∧ P i := ⟨a, rfl, q⟩
theorem r_slL {p : Addr} {xs : List V} {lo hi : Option Int} (h : SqL K H p xs) (q : Lay 0 (.lst (cutV xs lo hi)) Qv H) : rSlL K (.ref p) lo hi H Qv := ⟨p, xs, rfl, h, q.2⟩
theorem r_repr {d : PyData} (h : Dp K H x d) (s : d.showable = true) (dp : d.depth ≤ 60) (sz : d.shown.length ≤ sizeLine) (q : Qv (.str d.shown) H) : rRepr K [x] H Qv := ⟨x, d, rfl, h, s, dp, sz, q⟩
end
theorem dpa_ints {K : PySem.W.Frag} {H : Hp} : ∀ ns : List Int, DpAll K H (ns.map V.int) (ns.map PyData.int)
  | [] => .nil
  | n :: r => .cons (.int n) (dpa_ints r)
theorem canLay_ints : ∀ ns : List Int, PyData.canLayAll0 (ns.map PyData.int) = true
  | [] => by simp [PyData.canLayAll0]
  | n :: r => by simp [PyData.canLayAll0, PyData.canLay0, canLay_ints r]
theorem depth_ints : ∀ ns : List Int, PyData.depthAll (ns.map PyData.int) = 0
  | [] => by simp [PyData.depthAll]
  | n :: r => by simp [PyData.depthAll, PyData.depth, depth_ints r]
theorem shaped_ints (ns : List Int) : SeqAt.shaped (.list (ns.map PyData.int)) = true := by
  simp [SeqAt.shaped, PyData.canLay0, PyData.depth, canLay_ints, depth_ints]
theorem shaped_nil : SeqAt.shaped (.list []) = true := shaped_ints []
theorem eqv_nil (ds : List PyData) : PyData.eqv (.list ds) (.list []) = ds.isEmpty := by
  cases ds <;> simp [PyData.eqv, PyData.eqvAll]
theorem sq_bound {a c : Int} (h0 : 0 ≤ a) (h1 : a ≤ 1048576) (c0 : 0 ≤ c) (c1 : c ≤ 1048576) : 0 ≤ c * a * a ∧ c * a * a ≤ 1152921504606846976 := by
  have e1 : c * a ≤ 1048576 * 1048576 := Int.mul_le_mul c1 h1 h0 (by decide)
  have e0 : 0 ≤ c * a := Int.mul_nonneg c0 h0
  refine ⟨Int.mul_nonneg e0 h0, ?_⟩
  exact Int.le_trans (Int.mul_le_mul e1 h1 h0 (by decide)) (by decide)
theorem mul_bound {m k : Int} (h0 : 0 ≤ m) (h1 : m ≤ 4294967296) (k0 : 0 ≤ k) (k1 : k ≤ 134217728) : 0 ≤ m * k ∧ m * k ≤ 576460752303423488 :=
  ⟨Int.mul_nonneg h0 k0, Int.le_trans (Int.mul_le_mul h1 k1 k0 (by decide)) (by decide)⟩
theorem at_mod {α : Type} {xs : List α} (a : Int) (h : xs ≠ []) : ∃ j v, (a % (xs.length : Int)) = (j : Nat) ∧ xs[j]? = some v ∧ atI xs (a % (xs.length : Int)) = some v := by
  have h0 : 0 < xs.length := by cases xs with
    | nil => exact absurd rfl h
    | cons _ _ => simp
  have h1 := Int.emod_nonneg a (show (xs.length : Int) ≠ 0 by omega)
  have h2 := Int.emod_lt_of_pos a (show (0 : Int) < xs.length by omega)
  obtain ⟨j, e⟩ := Int.eq_ofNat_of_zero_le h1
  have hj : j < xs.length := by omega
  refine ⟨j, xs[j], e, List.getElem?_eq_getElem hj, ?_⟩
  rw [e]
  exact atI_nat (List.getElem?_eq_getElem hj)
theorem at_mod_ints {ns : List Int} (a : Int) (h : ns ≠ []) : ∃ z, atI (ns.map V.int) (a % ((ns.map V.int).length : Int)) = some (V.int z) := by
  obtain ⟨j, v, _, h2, h3⟩ := at_mod (xs := ns.map V.int) a (by simpa using h)
  rw [List.getElem?_map] at h2
  cases e : ns[j]? with
  | none => rw [e] at h2; cases h2
  | some z =>
    rw [e] at h2
    exact ⟨z, by rw [h3]; exact h2.symm⟩
theorem pow_small {m k c a e : Int} (m0 : 0 ≤ m) (m1 : m ≤ 4294967296) (k0 : 0 ≤ k) (k1 : k ≤ 134217728) (c0 : 0 ≤ c) (c1 : c ≤ 1048576) (a0 : 0 ≤ a) (a1 : a ≤ 1048576) (e0 : 0 ≤ e) (e1 : e ≤ 4294967296) : (m * k + c * a * a + e).natAbs < 2 ^ 64 := by
  have h1 := mul_bound m0 m1 k0 k1
  have h2 := sq_bound a0 a1 c0 c1
  omega
theorem cdiv_lit {i j : Int} (h : 0 < j) (h2 : j < 1073741824) : CDivW i j := wide_div (b := 30) h (by omega) (by decide) (by decide)
def spDraw : Sp := fun vs H Q _ => ∃ (G : Hp) (p c : Addr) (n : Nat) (many : Int), vs = [.ref p, .int many] ∧ Gh G H ∧ G p = none ∧ Cells c G ∧ PenAt p c n H ∧ n ≤ 1048576 ∧ 0 < many ∧ many ≤ 10000000000000000000000000000000000000000000000000000000000000000000000 ∧
  RetP p c (n + 1) G H (fun v _ => ∃ d : Int, v = .int d ∧ 0 ≤ d ∧ d < many) Q
theorem u_draw {e : En} {G H : Hp} {M : List Addr} {p c : Addr} {n : Nat} {many : Int} {Q : VK} {E : XK} (w : Wd e G H M) (hm : p ∈ M) (hc : Cells c G) (P : PenAt p c n H) (hn : n ≤ 1048576) (h0 : 0 < many)
    (hb : many ≤ 10000000000000000000000000000000000000000000000000000000000000000000000) (k : ∀ (d : Int) (G' H' : Hp), Wd e G' H' M → Same G G' → But p H H' → PenAt p c (n + 1) H' → 0 ≤ d → d < many → Q (.int d) H') : spDraw [.ref p, .int many] H Q E :=
  ⟨G, p, c, n, many, rfl, w.gh, (w.mu p hm).1, hc, P, hn, h0, hb, retP_use w hm fun v G' H' w' s b P' ⟨d, e, h1, h2⟩ => by subst e; exact k d G' H' w' s b P' h1 h2⟩
theorem cutV_ints (ns : List Int) (lo hi : Option Int) : ∃ ms : List Int, cutV (ns.map V.int) lo hi = ms.map V.int := by
  unfold cutV
  exact ⟨_, by rw [← List.map_drop, ← List.map_take]⟩
/-- the pen is made -/
def spPen (K : PySem.W.Frag) : Sp := fun vs H Q _ => ∃ (G : Hp) (a : Addr) (ns : List Int), vs = [.ref a] ∧ Gh G H ∧ SqL K G a (ns.map V.int) ∧ ns.length ≤ 63 ∧
  ∀ (p c : Addr) (G' H' : Hp), Same H H' → Gh G' H' → Same G G' → (∀ a, H a ≠ none → G' a = G a) → G' p = none → H p = none → Cells c G' → PenAt p c 0 H' → Q (.ref p) H'
theorem wd_grow {e : En} {G H G' H' : Hp} {M : List Addr} {p : Addr} {o : HO} (w : Wd e G H M) (s1 : Same H H') (s2 : Gh G' H') (s3 : Same G G') (fr : ∀ a, H a ≠ none → G' a = G a) (gp : G' p = none) (hp : H p = none) (ho : H' p = some o)
    (no : plainB o = true := by rfl) : Wd e G' H' (p :: M) := by
  have w1 := wd_same w s1
  refine ⟨s2.1, fun a ha => ?_, List.nodup_cons.mpr ⟨fun z => w.nm hp z rfl, w.nd⟩, w1.dom, fun a o h => s3 _ _ (w.gr _ _ h), fun a ha => by rw [fr a (w.dom a ha)]; exact w.fr a ha, w1.kp, s2.2, fun a ha u z => ?_, w1.tb⟩
  · rcases List.mem_cons.mp ha with x | ha
    · subst x
      exact ⟨gp, ⟨o, ho⟩, .inl (w.n0 hp)⟩
    · obtain ⟨h1, ⟨o, h2⟩, h3⟩ := w.mu a ha
      obtain ⟨_, h4, _⟩ := w1.mu a ha
      exact ⟨by rw [fr a (some_ne h2)]; exact h1, h4, h3⟩
  · rcases List.mem_cons.mp ha with x | ha
    · rw [x, ho] at z
      rw [← Option.some.inj z]
      exact no
    · exact w1.mt a ha u z
theorem u_pen {K : PySem.W.Frag} {e : En} {G H : Hp} {M : List Addr} {a : Addr} {ns : List Int} {Q : VK} {E : XK} (w : Wd e G H M) (h : SqL K G a (ns.map V.int)) (hl : ns.length ≤ 63)
    (k : ∀ (p c : Addr) (G' H' : Hp), Wd e G' H' (p :: M) → Same G G' → Same H H' → Cells c G' → PenAt p c 0 H' → Q (.ref p) H') : spPen K [.ref a] H Q E :=
  ⟨G, a, ns, rfl, w.gh, h, hl, fun p c G' H' s1 s2 s3 fr gp hp hc P => by
    obtain ⟨_, _, h1, _⟩ := id P
    exact k p c G' H' (wd_grow w s1 s2 s3 fr gp hp h1) s3 s1 hc P⟩
/-- what can be picked from -/
def IsSq (K : PySem.W.Frag) (G : Hp) (s : V) (xs : List V) : Prop := (∃ l, s = .ref l ∧ (SqL K G l xs ∨ SqT K G l xs)) ∨ ∃ z : Str, s = .str z ∧ z.length ≤ 1000 ∧ xs = z.cps.toList.map fun c => V.str ⟨#[c]⟩
def spPick (K : PySem.W.Frag) : Sp := fun vs H Q _ => ∃ (G : Hp) (p c : Addr) (n : Nat) (s : V) (xs : List V), vs = [.ref p, s] ∧ Gh G H ∧ G p = none ∧ Cells c G ∧ PenAt p c n H ∧ n ≤ 1048576 ∧ IsSq K G s xs ∧ xs ≠ [] ∧ xs.length ≤ 1000000 ∧
  RetP p c (n + 1) G H (fun v _ => v ∈ xs) Q
theorem u_pick {K : PySem.W.Frag} {e : En} {G H : Hp} {M : List Addr} {p c : Addr} {n : Nat} {s : V} {xs : List V} {Q : VK} {E : XK} (w : Wd e G H M) (hm : p ∈ M) (hc : Cells c G) (P : PenAt p c n H) (hn : n ≤ 1048576) (hs : IsSq K G s xs) (h0 : xs ≠ []) (hb : xs.length ≤ 1000000)
    (k : ∀ (v : V) (G' H' : Hp), Wd e G' H' M → Same G G' → But p H H' → PenAt p c (n + 1) H' → v ∈ xs → Q v H') : spPick K [.ref p, s] H Q E :=
  ⟨G, p, c, n, s, xs, rfl, w.gh, (w.mu p hm).1, hc, P, hn, hs, h0, hb, retP_use w hm fun v G' H' w' s b P' h => k v G' H' w' s b P' h⟩
theorem same_ty {K : PySem.W.Frag} {H H' : Hp} {x : V} {t : Value} (s : Same H H') (h : TyX K H x t) : TyX K H' x t := by
  cases h with
  | base b =>
    cases b with
    | non => exact .base .non
    | bl y => exact .base (.bl y)
    | int i => exact .base (.int i)
    | str y => exact .base (.str y)
    | flt y => exact .base (.flt y)
    | lst e => exact .base (.lst (s _ _ e))
    | frz e => exact .base (.frz (s _ _ e))
    | tup e => exact .base (.tup (s _ _ e))
    | dK e => exact .base (.dK (s _ _ e))
    | dT e => exact .base (.dT (s _ _ e))
    | ins e cl ha hn htk hm => exact .base (.ins (s _ _ e) cl ha hn htk hm)
  | byt y => exact .byt y
  | set e => exact .set (s _ _ e)
  | kList e c => exact .kList e c
  | kTuple e c => exact .kTuple e c
  | kDict e c => exact .kDict e c
  | fTuple e => exact .fTuple (s _ _ e)
  | fDict e => exact .fDict (s _ _ e)
theorem r_isi {K : PySem.W.Frag} {H : Hp} {x : V} {n : String} {t : Value} {b : Bool} {Qv : VK} (h : TyX K H x t) (e : PySem.W.kitOne K t (.type n) = some b) (q : Qv (.bl b) H) : rIsi K [x, .ty n] H Qv := ⟨x, .ty n, t, .type n, b, rfl, .ty n, h, e, q⟩
theorem r_isiC {K : PySem.W.Frag} {H : Hp} {x : V} {C : Addr} {t : Value} {b : Bool} {Qv : VK} (h : TyX K H x t) (e : PySem.W.kitOne K t (.ref C) = some b) (q : Qv (.bl b) H) : rIsi K [x, .ref C] H Qv := ⟨x, .ref C, t, .ref C, b, rfl, .own C, h, e, q⟩
end Q
namespace Q
open PySem PySem.Spec PyProof.Rows L2
abbrev FnP (K : PySem.W.Frag) (x qual : Str) (st : Stmt) (dvs : List V) (f : Addr) (fd : FuncData) : Prop := FunD K x qual (defArgs st) (defBody st) (defScope st) dvs [] f fd
structure Df (P : Program) (w : World) (K : PySem.W.Frag) (mg : Str → Option Value) (base : Heap) (CX : CXT) (k : Nat) (x : Str) (dvs : List V) (sp : Sp) : Prop where
  ex : ∃ (f : Addr) (fd : FuncData) (ps : List Str) (ds : List Value), mg x = some (.ref f) ∧ PySem.W.keepIn K (.ref f) = true ∧ Binds K fd ps ds ∧ Vals dvs ds ∧ FnOk P w K mg base CX k f fd ps sp
section
variable {X : Cx} {CX : CXT} {k j : Nat} {sp : Sp} {dvs : List V} {E : XK} {x : Str} {e : Expr} {es : List Expr} {t : TA} {pos p : Pos}
theorem pe_callD (D : Df X.prog X.w X.K X.mg X.base CX k x dvs sp) (hr : Room j X.A) (hx : Passes CX X E) (ha : PA X (e :: es) t) (hj : k ≤ j := by decide) (hg : Gl X x := by rfl)
    (hdb : (x == ("__debug__" : Str)) = false := by decide) (he : starEach (e :: es) X.env = (false, eval e X.env) :: starEach es X.env := by rfl) (hpl : (backTo pos (starEach es X.env)).any (·.1) = false := by rfl) :
    PE X (.Call (.Name x p) (e :: es) [] pos) (tCall sp dvs E t) := by
  obtain ⟨f, fd, ps, ds, h1, h2, h3, h4, h5⟩ := D.ex
  exact pe_call h5 (hr.mono hj) hg h1 h2 h3 h4 hx ha hdb he hpl
end
section
variable {P : Program} {w : World} {K : PySem.W.Frag} {mg : Str → Option Value} {base : Heap} {x qual : Str} {st : Stmt} {f : Addr} {fd : FuncData} {N ps : List Str} {k : Nat} {sp : Sp} {dvs : List V}
/-- a def from which nothing is raised -/
theorem fnP_ok (F : FnP K x qual st dvs f fd) (S : FnScope N ps (defScope st)) (len : ∀ vs H Q E, sp vs H Q E → vs.length = ps.length)
    (body : ∀ (cdv : Value) (A : Around) (outer : List Env) (s : Shared) (H : Hp) (vs : List V) (Q : VK) (E : XK), Room k (A.deeper (envOfC qual (defScope st) s.heap.objs.size f cdv)) → sp vs H Q E →
      ∃ t, PSs (cxOf CX0 P w K mg base N qual (defScope st) f cdv A outer s H E).nox (defBody st) t ∧ t { nx := fun _ H' => Q .non H', rt := Q } (start N vs) H) :
    FnOk P w K mg base CX0 (k + 1) f fd ps sp := FunD.ok F S len fun cdv A outer s H vs Q E hr h => by
  obtain ⟨t, h1, q⟩ := body cdv A outer s H vs Q E hr h
  exact ⟨t, h1.nox, q⟩
theorem fnP_okA (F : FnP K x qual st dvs f fd) (S : FnScope N ps (defScope st)) (len : ∀ vs H Q E, sp vs H Q E → vs.length = ps.length)
    (body : ∀ (cdv : Value) (A : Around) (outer : List Env) (s : Shared) (H : Hp) (vs : List V) (Q : VK) (E : XK), G0 (A.deeper (envOfC qual (defScope st) s.heap.objs.size f cdv)) → Room k (A.deeper (envOfC qual (defScope st) s.heap.objs.size f cdv)) → sp vs H Q E →
      ∃ t, PSs (cxOf CX0 P w K mg base N qual (defScope st) f cdv A outer s H E).nox (defBody st) t ∧ t { nx := fun _ H' => Q .non H', rt := Q } (start N vs) H) :
    FnA P w K mg base CX0 (k + 1) f fd ps sp := by
  obtain ⟨oc, od, dV, kV, doc, pm, an, cdv, ct, osl, rfl, lk, hcd, _, _⟩ := F.ex
  refine ⟨len, fun A outer s H args us vs Q E g hr e0 hb r h => ?_⟩
  refine LamX.run_ofS lk hcd S hr e0 hb r (len _ _ _ _ h) fun hr2 => ?_
  obtain ⟨t, h1, q⟩ := body cdv A outer s H vs Q E (g0_deeper g) hr2 h
  exact ⟨t, h1.nox, q⟩
theorem df_of {CX : CXT} (F : FnP K x qual st [] f fd) (hm : mg x = some (.ref f)) (G : FnOk P w K mg base CX k f fd ps sp)
    (b : ∀ (kV doc pm : Value) (an : Option Addr) (cdv ct : Value) (us : List Value), us.length = ps.length → bindArgs (PySem.W.fnOf x qual (defArgs st) (defBody st) (defScope st) .none kV doc pm an cdv ct) ⟨us, []⟩ = pure (ps.zip us)) :
    Df P w K mg base CX k x [] sp := ⟨f, fd, ps, [], hm, F.kp, F.bindsN b, .nil, G⟩
end
end Q
namespace Q
open PySem PySem.Spec PyProof.Rows L2
def ForGo (J : It) (g : TG) (tb : TS) (D : Ends) (σ : L2.St) (H : Hp) : Prop := ∃ W : Nat → Nat → L2.St → Hp → Prop, (∃ m, W 0 m σ H) ∧ ∀ i m σ H, W i m σ H →
  (J.stop i H ∧ D.nx σ H) ∨ (J.go i H ∧ ∃ N : L2.St → Hp → Prop, (∀ σ' H', N σ' H' → ∃ m', m' < m ∧ W (i + 1) m' σ' H') ∧ ∀ x H', J.yld i H x H' → g x σ H' fun σ2 H2 => tb { D with nx := N, ct := N, bk := D.nx } σ2 H2)
theorem r_for {wi : TI} {g : TG} {tb : TS} {D : Ends} {σ : L2.St} {H : Hp} (q : wi σ H fun J H1 => ForGo J g tb D σ H1) : tFor wi g tb D σ H := q
theorem for_go {J : It} {n : Nat} {G : Hp → Prop} {Y : Nat → Hp → V → Hp → Prop} {g : TG} {tb : TS} {D : Ends} {σ : L2.St} {H : Hp} (w : Walk J n G Y) (Pv : Nat → L2.St → Hp → Prop) (h0 : Pv 0 σ H) (hG : ∀ i σ H, i ≤ n → Pv i σ H → G H)
    (hs : ∀ i x σ H H', i < n → Pv i σ H → Y i H x H' → g x σ H' fun σ2 H2 => tb { D with nx := Pv (i + 1), ct := Pv (i + 1), bk := D.nx } σ2 H2) (hd : ∀ σ H, Pv n σ H → D.nx σ H) : ForGo J g tb D σ H := for_it w Pv h0 hG hs hd
def LcGo (J : It) (g : TG) (tt : TT) (te : TE) (vs : List Nat) (σ : L2.St) (Q : VK) (H1 : Hp) : Prop := ∀ D, H1 D = none → ∃ W : Nat → Nat → Hp → Prop, (∃ m, W 0 m (upd H1 D (.lst []))) ∧ ∀ i m H, W i m H →
  (J.stop i H ∧ Q (.ref D) H) ∨ (J.go i H ∧ ∃ Nx : Hp → Prop, (∀ H', Nx H' → ∃ m', m' < m ∧ W (i + 1) m' H') ∧ ∀ x H', J.yld i H x H' → g x (wipe σ vs) H' fun σ2 H2 => wipe σ2 vs = wipe σ vs ∧ tt σ2 H2 fun b H3 =>
    if b = true then te σ2 H3 fun y H4 => ∃ acc, H4 D = some (.lst acc) ∧ acc.length < sizeLine ∧ Nx (upd H4 D (.lst (acc ++ [y]))) else Nx H3)
theorem r_lc {wi : TI} {g : TG} {tt : TT} {te : TE} {vs : List Nat} {σ : L2.St} {H : Hp} {Q : VK} (q : wi σ H fun J H1 => LcGo J g tt te vs σ Q H1) : tLc wi g tt te vs σ H Q := q
/-- a comprehension on its way: D the new list's place, acc what it holds, Gi the ghost -/
def LcP (e : En) (G : Hp) (M : List Addr) (R : Nat → List V → Hp → Hp → Prop) (Dd : Addr) (i : Nat) (H : Hp) : Prop := ∃ acc Gi, Wd e Gi H (Dd :: M) ∧ Same G Gi ∧ H Dd = some (.lst acc) ∧ acc.length ≤ i ∧ R i acc Gi H
def LcAdd (Dd : Addr) (P : Hp → Prop) : VK := fun y H4 => ∃ acc, H4 Dd = some (.lst acc) ∧ acc.length < sizeLine ∧ P (upd H4 Dd (.lst (acc ++ [y])))
def LcT (Dd : Addr) (P : Hp → Prop) (tt : TT) (te : TE) (vs : List Nat) (σ : L2.St) : L2.St → Hp → Prop := fun σ2 H2 => wipe σ2 vs = wipe σ vs ∧ tt σ2 H2 fun b H3 => if b = true then te σ2 H3 (LcAdd Dd P) else P H3
theorem r_lcT {Dd : Addr} {P : Hp → Prop} {tt : TT} {te : TE} {vs : List Nat} {σ σ2 : L2.St} {H : Hp} (h : wipe σ2 vs = wipe σ vs) (q : tt σ2 H fun b H3 => if b = true then te σ2 H3 (LcAdd Dd P) else P H3) : LcT Dd P tt te vs σ σ2 H := ⟨h, q⟩
theorem r_yes {σ : L2.St} {H : Hp} {Q : Bool → Hp → Prop} (q : Q true H) : tYes σ H Q := q
theorem r_lcAdd {e : En} {G Gy H4 : Hp} {M : List Addr} {R : Nat → List V → Hp → Hp → Prop} {Dd : Addr} {i : Nat} {acc : List V} {y : V} (w : Wd e Gy H4 (Dd :: M)) (s : Same G Gy) (h : H4 Dd = some (.lst acc)) (hl : acc.length ≤ i) (hi : i ≤ 1000000)
    (k : ∀ H5, Wd e Gy H5 (Dd :: M) → But Dd H4 H5 → R (i + 1) (acc ++ [y]) Gy H5) : LcAdd Dd (LcP e G M R Dd (i + 1)) y H4 := by
  have w5 := wd_mut (o := .lst (acc ++ [y])) w List.mem_cons_self
  refine ⟨acc, h, Nat.lt_of_le_of_lt (Nat.le_trans hl hi) (by decide), _, Gy, w5, s, upd_same, ?_, k _ w5 but_upd⟩
  rw [List.length_append]
  exact Nat.add_le_add_right hl 1
theorem lc_go {e : En} {G H1 : Hp} {M : List Addr} {J : It} {n : Nat} {Gd : Hp → Prop} {Y : Nat → Hp → V → Hp → Prop} {g : TG} {tt : TT} {te : TE} {vs : List Nat} {σ : L2.St} {Q : VK} (w : Wd e G H1 M) (hw : Walk J n Gd Y) (R : Nat → List V → Hp → Hp → Prop)
    (h0 : ∀ (Dd : Addr) (H : Hp), Wd e G H (Dd :: M) → Same H1 H → (∀ m ∈ M, Dd ≠ m) → R 0 [] G H)
    (hG : ∀ i acc Gi H, Wd e Gi H M → Same G Gi → R i acc Gi H → Gd H)
    (hs : ∀ (Dd : Addr) i acc Gi H x H', i < n → acc.length ≤ i → Wd e Gi H (Dd :: M) → Same G Gi → H Dd = some (.lst acc) → (∀ m ∈ M, Dd ≠ m) → R i acc Gi H → Y i H x H' → g x (wipe σ vs) H' (LcT Dd (LcP e G M R Dd (i + 1)) tt te vs σ))
    (hd : ∀ (p : Addr) acc Gi Gp H, acc.length ≤ n → Wd e Gp H M → Same G Gp → Same Gi Gp → Gp p = some (.lst acc) → R n acc Gi H → Q (.ref p) H) : LcGo J g tt te vs σ Q H1 := by
  intro Dd hD
  have w1 := wd_layM (o := .lst []) w hD
  have nm : ∀ m ∈ M, Dd ≠ m := fun m hm => w.nm hD hm
  refine lc_it hw (LcP e G M R Dd) ⟨[], G, w1, Same.refl _, upd_same, Nat.le_refl _, h0 Dd _ w1 (same_upd hD) nm⟩ (fun i H _ ⟨acc, Gi, w2, s2, _, _, r⟩ => hG i acc Gi H (wd_drop w2 (List.sublist_cons_self _ _)) s2 r) (fun i x H H' hi ⟨acc, Gi, w2, s2, h2, l2, r⟩ y => hs Dd i acc Gi H x H' hi l2 w2 s2 h2 nm r y) fun H ⟨acc, Gi, w2, s2, h2, l2, r⟩ => ?_
  obtain ⟨w3, s3⟩ := wd_freeze w2 h2 (w.n0 hD)
  exact hd Dd acc Gi _ H l2 w3 (s2.trans s3) s3 upd_same r
theorem r_iList {K : PySem.W.Frag} {tl : TE} {σ : L2.St} {H : Hp} {R : It → Hp → Prop} (q : tl σ H fun x H1 => ∃ a, x = .ref a ∧ (∃ xs, SqL K H1 a xs) ∧ R (Itl K a) H1) : iList K tl σ H R := q
theorem r_iTup {K : PySem.W.Frag} {tl : TE} {σ : L2.St} {H : Hp} {R : It → Hp → Prop} (q : tl σ H fun x H1 => ∃ a, x = .ref a ∧ (∃ xs, SqT K H1 a xs) ∧ R (Itt K a) H1) : iTup K tl σ H R := q
theorem r_iListR {K : PySem.W.Frag} {H : Hp} {R : Addr → Prop} {a : Addr} {xs : List V} (h : SqL K H a xs) (q : R a) : ∃ b, V.ref a = .ref b ∧ (∃ xs, SqL K H b xs) ∧ R b := ⟨a, rfl, ⟨xs, h⟩, q⟩
theorem r_iTupR {K : PySem.W.Frag} {H : Hp} {R : Addr → Prop} {a : Addr} {xs : List V} (h : SqT K H a xs) (q : R a) : ∃ b, V.ref a = .ref b ∧ (∃ xs, SqT K H b xs) ∧ R b := ⟨a, rfl, ⟨xs, h⟩, q⟩
theorem r_iStr {te : TE} {σ : L2.St} {H : Hp} {R : It → Hp → Prop} (q : te σ H fun v H1 => ∃ x, v = .str x ∧ R (Its x) H1) : iStr te σ H R := q
theorem r_exs {P : Str → Prop} {a : Str} (q : P a) : ∃ x, V.str a = .str x ∧ P x := ⟨a, rfl, q⟩
theorem r_rng1 {ta : TA} {σ : L2.St} {H : Hp} {R : It → Hp → Prop} (q : ta σ H fun vs H1 => ∃ j : Int, vs = [.int j] ∧ -(2 ^ 62) ≤ j ∧ j < 2 ^ 62 ∧ R (Itr 0 j.toNat) H1) : iRng1 ta σ H R := q
theorem r_rng1R {P : Int → Prop} {j : Int} (h1 : -(2 ^ 62) ≤ j) (h2 : j < 2 ^ 62) (q : P j) : ∃ i : Int, [V.int j] = [.int i] ∧ -(2 ^ 62) ≤ i ∧ i < 2 ^ 62 ∧ P i := ⟨j, rfl, h1, h2, q⟩
theorem r_rng2 {ta : TA} {σ : L2.St} {H : Hp} {R : It → Hp → Prop} (q : ta σ H fun vs H1 => ∃ i j : Int, vs = [.int i, .int j] ∧ (-(2 ^ 62) ≤ i ∧ i < 2 ^ 62 ∧ -(2 ^ 62) ≤ j ∧ j < 2 ^ 62) ∧ R (Itr i (j - i).toNat) H1) : iRng2 ta σ H R := q
theorem r_rng2R {P : Int → Int → Prop} {i j : Int} (h : -(2 ^ 62) ≤ i ∧ i < 2 ^ 62 ∧ -(2 ^ 62) ≤ j ∧ j < 2 ^ 62) (q : P i j) : ∃ a b : Int, [V.int i, V.int j] = [.int a, .int b] ∧ (-(2 ^ 62) ≤ a ∧ a < 2 ^ 62 ∧ -(2 ^ 62) ≤ b ∧ b < 2 ^ 62) ∧ P a b := ⟨i, j, rfl, h, q⟩
theorem r_iEnum {K : PySem.W.Frag} {ta : TA} {σ : L2.St} {H : Hp} {R : It → Hp → Prop} (q : ta σ H fun vs H1 => ∃ a xs, vs = [.ref a] ∧ SqL K H1 a xs ∧ R (Ite K a) H1) : iEnum K ta σ H R := q
theorem r_iEnumR {K : PySem.W.Frag} {H : Hp} {R : Addr → Prop} {a : Addr} {xs : List V} (h : SqL K H a xs) (q : R a) : ∃ b xs, [V.ref a] = [.ref b] ∧ SqL K H b xs ∧ R b := ⟨a, xs, rfl, h, q⟩
def rInSign : R2 := fun x y H Q => ∃ (c : Nat) (z : Str), x = .str ⟨#[c]⟩ ∧ y = .str z ∧ Q (.bl (decide (c ∈ z.cps.toList))) H
theorem q_inSign {X : Cx} : OpR X (compareOp .In) rInSign := op_in_sign
theorem r_inSign {c : Nat} {z : Str} {H : Hp} {Qv : VK} (q : Qv (.bl (decide (c ∈ z.cps.toList))) H) : rInSign (.str ⟨#[c]⟩) (.str z) H Qv := ⟨c, z, rfl, rfl, q⟩
theorem r_all {K : PySem.W.Frag} {H : Hp} {a : Addr} {bs : List Bool} {Qv : VK} (h : SqL K H a (bs.map V.bl)) (q : Qv (.bl (bs.all id)) H) : rAll K [.ref a] H Qv := ⟨a, bs, rfl, h, q⟩
/-- a name of the module -/
def Gc (mg : Str → Option Value) (x : Str) (v : V) : Prop := ∃ u, mg x = some u ∧ RelV v u
theorem pe_gc {X : Cx} {x : Str} {v : V} {pos : Pos} (h : Gc X.mg x v) (hg : Gl X x := by rfl) (hd : (x == ("__debug__" : Str)) = false := by decide) : PE X (.Name x pos) (tC v) := by
  obtain ⟨u, h1, h2⟩ := h
  exact pe_glob hg h1 h2 hd
/-- the built-ins that the texts ask for -/
structure Bi (mg : Str → Option Value) : Prop where
  int : mg "int" = none
  len : mg "len" = none
  abs : mg "abs" = none
  list : mg "list" = none
  range : mg "range" = none
  repr : mg "repr" = none
  str : mg "str" = none
  isinstance : mg "isinstance" = none
  all : mg "all" = none
  any : mg "any" = none
  bool : mg "bool" = none
  tuple : mg "tuple" = none
  sorted : mg "sorted" = none
  set : mg "set" = none
  dict : mg "dict" = none
  enumerate : mg "enumerate" = none
  zip : mg "zip" = none
  min : mg "min" = none
  max : mg "max" = none
  ValueError : mg "ValueError" = none
def isI : V → Bool
  | .int _ => true
  | _ => false
def isB : V → Bool
  | .bl _ => true
  | _ => false
def isS : V → Bool
  | .str _ => true
  | _ => false
/-- what isinstance says of a value, int, bool and str asked -/
structure Kd (K : PySem.W.Frag) (G : Hp) (x : V) (t : Value) : Prop where
  ty : TyX K G x t
  int : PySem.W.kitOne K t (.type "int") = some (isI x || isB x)
  bool : PySem.W.kitOne K t (.type "bool") = some (isB x)
  str : PySem.W.kitOne K t (.type "str") = some (isS x)
section
variable {K : PySem.W.Frag} {G G' : Hp}
theorem Kd.same {x : V} {t : Value} (h : Kd K G x t) (s : Same G G') : Kd K G' x t := ⟨same_ty s h.ty, h.int, h.bool, h.str⟩
theorem kd_int (i : Int) : Kd K G (.int i) (.type "int") := ⟨.base (.int i), kit_ty (show kitB "int" "int" = some true from by decide +kernel), kit_ty (show kitB "int" "bool" = some false from by decide +kernel), kit_ty (show kitB "int" "str" = some false from by decide +kernel)⟩
theorem kd_bl (b : Bool) : Kd K G (.bl b) (.type "bool") := ⟨.base (.bl b), kit_ty (show kitB "bool" "int" = some true from by decide +kernel), kit_ty (show kitB "bool" "bool" = some true from by decide +kernel), kit_ty (show kitB "bool" "str" = some false from by decide +kernel)⟩
theorem kd_str (z : Str) : Kd K G (.str z) (.type "str") := ⟨.base (.str z), kit_ty (show kitB "str" "int" = some false from by decide +kernel), kit_ty (show kitB "str" "bool" = some false from by decide +kernel), kit_ty (show kitB "str" "str" = some true from by decide +kernel)⟩
theorem kd_non : Kd K G .non (.type "NoneType") := ⟨.base .non, kit_ty (show kitB "NoneType" "int" = some false from by decide +kernel), kit_ty (show kitB "NoneType" "bool" = some false from by decide +kernel), kit_ty (show kitB "NoneType" "str" = some false from by decide +kernel)⟩
theorem kd_ref {a : Addr} {n : String} (h : TyX K G (.ref a) (.type n)) (h1 : kitB n "int" = some false) (h2 : kitB n "bool" = some false) (h3 : kitB n "str" = some false) : Kd K G (.ref a) (.type n) := ⟨h, kit_ty h1, kit_ty h2, kit_ty h3⟩
theorem kd_lst {a : Addr} {xs : List V} (h : G a = some (.lst xs)) : Kd K G (.ref a) (.type "list") := kd_ref (.base (.lst h)) (by decide +kernel) (by decide +kernel) (by decide +kernel)
theorem kd_tup {a : Addr} {xs : List V} (h : G a = some (.tup xs)) : Kd K G (.ref a) (.type "tuple") := kd_ref (.base (.tup h)) (by decide +kernel) (by decide +kernel) (by decide +kernel)
theorem kd_dK {a : Addr} {xs : List (Key × V)} (h : G a = some (.dK xs)) : Kd K G (.ref a) (.type "dict") := kd_ref (.base (.dK h)) (by decide +kernel) (by decide +kernel) (by decide +kernel)
end
theorem r_isi_int_int {K : PySem.W.Frag} {H : Hp} {Qv : VK} {i : Int} (q : Qv (.bl true) H) : rIsi K [(.int i), .ty "int"] H Qv := ⟨(.int i), .ty "int", .type "int", .type "int", true, rfl, .ty "int", .base (.int i), kit_ty (by decide +kernel), q⟩
theorem r_isi_int_bool {K : PySem.W.Frag} {H : Hp} {Qv : VK} {i : Int} (q : Qv (.bl false) H) : rIsi K [(.int i), .ty "bool"] H Qv := ⟨(.int i), .ty "bool", .type "int", .type "bool", false, rfl, .ty "bool", .base (.int i), kit_ty (by decide +kernel), q⟩
theorem r_isi_int_str {K : PySem.W.Frag} {H : Hp} {Qv : VK} {i : Int} (q : Qv (.bl false) H) : rIsi K [(.int i), .ty "str"] H Qv := ⟨(.int i), .ty "str", .type "int", .type "str", false, rfl, .ty "str", .base (.int i), kit_ty (by decide +kernel), q⟩
theorem r_isi_int_list {K : PySem.W.Frag} {H : Hp} {Qv : VK} {i : Int} (q : Qv (.bl false) H) : rIsi K [(.int i), .ty "list"] H Qv := ⟨(.int i), .ty "list", .type "int", .type "list", false, rfl, .ty "list", .base (.int i), kit_ty (by decide +kernel), q⟩
theorem r_isi_int_tuple {K : PySem.W.Frag} {H : Hp} {Qv : VK} {i : Int} (q : Qv (.bl false) H) : rIsi K [(.int i), .ty "tuple"] H Qv := ⟨(.int i), .ty "tuple", .type "int", .type "tuple", false, rfl, .ty "tuple", .base (.int i), kit_ty (by decide +kernel), q⟩
theorem r_isi_int_dict {K : PySem.W.Frag} {H : Hp} {Qv : VK} {i : Int} (q : Qv (.bl false) H) : rIsi K [(.int i), .ty "dict"] H Qv := ⟨(.int i), .ty "dict", .type "int", .type "dict", false, rfl, .ty "dict", .base (.int i), kit_ty (by decide +kernel), q⟩
theorem r_isi_bl_int {K : PySem.W.Frag} {H : Hp} {Qv : VK} {b : Bool} (q : Qv (.bl true) H) : rIsi K [(.bl b), .ty "int"] H Qv := ⟨(.bl b), .ty "int", .type "bool", .type "int", true, rfl, .ty "int", .base (.bl b), kit_ty (by decide +kernel), q⟩
theorem r_isi_bl_bool {K : PySem.W.Frag} {H : Hp} {Qv : VK} {b : Bool} (q : Qv (.bl true) H) : rIsi K [(.bl b), .ty "bool"] H Qv := ⟨(.bl b), .ty "bool", .type "bool", .type "bool", true, rfl, .ty "bool", .base (.bl b), kit_ty (by decide +kernel), q⟩
theorem r_isi_bl_str {K : PySem.W.Frag} {H : Hp} {Qv : VK} {b : Bool} (q : Qv (.bl false) H) : rIsi K [(.bl b), .ty "str"] H Qv := ⟨(.bl b), .ty "str", .type "bool", .type "str", false, rfl, .ty "str", .base (.bl b), kit_ty (by decide +kernel), q⟩
theorem r_isi_bl_list {K : PySem.W.Frag} {H : Hp} {Qv : VK} {b : Bool} (q : Qv (.bl false) H) : rIsi K [(.bl b), .ty "list"] H Qv := ⟨(.bl b), .ty "list", .type "bool", .type "list", false, rfl, .ty "list", .base (.bl b), kit_ty (by decide +kernel), q⟩
theorem r_isi_bl_tuple {K : PySem.W.Frag} {H : Hp} {Qv : VK} {b : Bool} (q : Qv (.bl false) H) : rIsi K [(.bl b), .ty "tuple"] H Qv := ⟨(.bl b), .ty "tuple", .type "bool", .type "tuple", false, rfl, .ty "tuple", .base (.bl b), kit_ty (by decide +kernel), q⟩
theorem r_isi_bl_dict {K : PySem.W.Frag} {H : Hp} {Qv : VK} {b : Bool} (q : Qv (.bl false) H) : rIsi K [(.bl b), .ty "dict"] H Qv := ⟨(.bl b), .ty "dict", .type "bool", .type "dict", false, rfl, .ty "dict", .base (.bl b), kit_ty (by decide +kernel), q⟩
theorem r_isi_str_int {K : PySem.W.Frag} {H : Hp} {Qv : VK} {z : Str} (q : Qv (.bl false) H) : rIsi K [(.str z), .ty "int"] H Qv := ⟨(.str z), .ty "int", .type "str", .type "int", false, rfl, .ty "int", .base (.str z), kit_ty (by decide +kernel), q⟩
theorem r_isi_str_bool {K : PySem.W.Frag} {H : Hp} {Qv : VK} {z : Str} (q : Qv (.bl false) H) : rIsi K [(.str z), .ty "bool"] H Qv := ⟨(.str z), .ty "bool", .type "str", .type "bool", false, rfl, .ty "bool", .base (.str z), kit_ty (by decide +kernel), q⟩
theorem r_isi_str_str {K : PySem.W.Frag} {H : Hp} {Qv : VK} {z : Str} (q : Qv (.bl true) H) : rIsi K [(.str z), .ty "str"] H Qv := ⟨(.str z), .ty "str", .type "str", .type "str", true, rfl, .ty "str", .base (.str z), kit_ty (by decide +kernel), q⟩
theorem r_isi_str_list {K : PySem.W.Frag} {H : Hp} {Qv : VK} {z : Str} (q : Qv (.bl false) H) : rIsi K [(.str z), .ty "list"] H Qv := ⟨(.str z), .ty "list", .type "str", .type "list", false, rfl, .ty "list", .base (.str z), kit_ty (by decide +kernel), q⟩
theorem r_isi_str_tuple {K : PySem.W.Frag} {H : Hp} {Qv : VK} {z : Str} (q : Qv (.bl false) H) : rIsi K [(.str z), .ty "tuple"] H Qv := ⟨(.str z), .ty "tuple", .type "str", .type "tuple", false, rfl, .ty "tuple", .base (.str z), kit_ty (by decide +kernel), q⟩
theorem r_isi_str_dict {K : PySem.W.Frag} {H : Hp} {Qv : VK} {z : Str} (q : Qv (.bl false) H) : rIsi K [(.str z), .ty "dict"] H Qv := ⟨(.str z), .ty "dict", .type "str", .type "dict", false, rfl, .ty "dict", .base (.str z), kit_ty (by decide +kernel), q⟩
theorem r_isi_non_int {K : PySem.W.Frag} {H : Hp} {Qv : VK}  (q : Qv (.bl false) H) : rIsi K [.non, .ty "int"] H Qv := ⟨.non, .ty "int", .type "NoneType", .type "int", false, rfl, .ty "int", .base .non, kit_ty (by decide +kernel), q⟩
theorem r_isi_non_bool {K : PySem.W.Frag} {H : Hp} {Qv : VK}  (q : Qv (.bl false) H) : rIsi K [.non, .ty "bool"] H Qv := ⟨.non, .ty "bool", .type "NoneType", .type "bool", false, rfl, .ty "bool", .base .non, kit_ty (by decide +kernel), q⟩
theorem r_isi_non_str {K : PySem.W.Frag} {H : Hp} {Qv : VK}  (q : Qv (.bl false) H) : rIsi K [.non, .ty "str"] H Qv := ⟨.non, .ty "str", .type "NoneType", .type "str", false, rfl, .ty "str", .base .non, kit_ty (by decide +kernel), q⟩
theorem r_isi_non_list {K : PySem.W.Frag} {H : Hp} {Qv : VK}  (q : Qv (.bl false) H) : rIsi K [.non, .ty "list"] H Qv := ⟨.non, .ty "list", .type "NoneType", .type "list", false, rfl, .ty "list", .base .non, kit_ty (by decide +kernel), q⟩
theorem r_isi_non_tuple {K : PySem.W.Frag} {H : Hp} {Qv : VK}  (q : Qv (.bl false) H) : rIsi K [.non, .ty "tuple"] H Qv := ⟨.non, .ty "tuple", .type "NoneType", .type "tuple", false, rfl, .ty "tuple", .base .non, kit_ty (by decide +kernel), q⟩
theorem r_isi_non_dict {K : PySem.W.Frag} {H : Hp} {Qv : VK}  (q : Qv (.bl false) H) : rIsi K [.non, .ty "dict"] H Qv := ⟨.non, .ty "dict", .type "NoneType", .type "dict", false, rfl, .ty "dict", .base .non, kit_ty (by decide +kernel), q⟩
theorem kt_list_int {K : PySem.W.Frag} : PySem.W.kitOne K (.type "list") (.type "int") = some false := kit_ty (by decide +kernel)
theorem kt_list_bool {K : PySem.W.Frag} : PySem.W.kitOne K (.type "list") (.type "bool") = some false := kit_ty (by decide +kernel)
theorem kt_list_str {K : PySem.W.Frag} : PySem.W.kitOne K (.type "list") (.type "str") = some false := kit_ty (by decide +kernel)
theorem kt_list_list {K : PySem.W.Frag} : PySem.W.kitOne K (.type "list") (.type "list") = some true := kit_ty (by decide +kernel)
theorem kt_list_tuple {K : PySem.W.Frag} : PySem.W.kitOne K (.type "list") (.type "tuple") = some false := kit_ty (by decide +kernel)
theorem kt_list_dict {K : PySem.W.Frag} : PySem.W.kitOne K (.type "list") (.type "dict") = some false := kit_ty (by decide +kernel)
theorem kt_tuple_int {K : PySem.W.Frag} : PySem.W.kitOne K (.type "tuple") (.type "int") = some false := kit_ty (by decide +kernel)
theorem kt_tuple_bool {K : PySem.W.Frag} : PySem.W.kitOne K (.type "tuple") (.type "bool") = some false := kit_ty (by decide +kernel)
theorem kt_tuple_str {K : PySem.W.Frag} : PySem.W.kitOne K (.type "tuple") (.type "str") = some false := kit_ty (by decide +kernel)
theorem kt_tuple_list {K : PySem.W.Frag} : PySem.W.kitOne K (.type "tuple") (.type "list") = some false := kit_ty (by decide +kernel)
theorem kt_tuple_tuple {K : PySem.W.Frag} : PySem.W.kitOne K (.type "tuple") (.type "tuple") = some true := kit_ty (by decide +kernel)
theorem kt_tuple_dict {K : PySem.W.Frag} : PySem.W.kitOne K (.type "tuple") (.type "dict") = some false := kit_ty (by decide +kernel)
theorem kt_dict_int {K : PySem.W.Frag} : PySem.W.kitOne K (.type "dict") (.type "int") = some false := kit_ty (by decide +kernel)
theorem kt_dict_bool {K : PySem.W.Frag} : PySem.W.kitOne K (.type "dict") (.type "bool") = some false := kit_ty (by decide +kernel)
theorem kt_dict_str {K : PySem.W.Frag} : PySem.W.kitOne K (.type "dict") (.type "str") = some false := kit_ty (by decide +kernel)
theorem kt_dict_list {K : PySem.W.Frag} : PySem.W.kitOne K (.type "dict") (.type "list") = some false := kit_ty (by decide +kernel)
theorem kt_dict_tuple {K : PySem.W.Frag} : PySem.W.kitOne K (.type "dict") (.type "tuple") = some false := kit_ty (by decide +kernel)
theorem kt_dict_dict {K : PySem.W.Frag} : PySem.W.kitOne K (.type "dict") (.type "dict") = some true := kit_ty (by decide +kernel)
theorem sz_m {n : Nat} (h : n ≤ 1000000) : n ≤ sizeLine := Nat.le_trans h (by decide)
theorem ite_nt {A B : Prop} (a : A) : if (!false) = true then A else B := by
  rw [if_pos (by decide)]
  exact a
theorem ite_nf {A B : Prop} (b : B) : if (!true) = true then A else B := by
  rw [if_neg (by decide)]
  exact b
theorem ite_d {p : Prop} [Decidable p] {A B : Prop} (h1 : p → A) (h2 : ¬ p → B) : if decide p = true then A else B := ite2 (fun h => h1 (of_decide_eq_true h)) fun h => h2 fun q => h (decide_eq_true q)
theorem ite_nd {p : Prop} [Decidable p] {A B : Prop} (h1 : ¬ p → A) (h2 : p → B) : if (!decide p) = true then A else B := by
  by_cases h : p
  · rw [decide_eq_true h]; exact ite_nf (h2 h)
  · rw [decide_eq_false h]; exact ite_nt (h1 h)
theorem ite_b {b : Bool} {A B : Prop} (h1 : b = true → A) (h2 : b = false → B) : if b = true then A else B := ite2 h1 fun h => h2 (Bool.eq_false_iff.mpr h)
theorem ite_nb {b : Bool} {A B : Prop} (h1 : b = false → A) (h2 : b = true → B) : if (!b) = true then A else B := by
  cases b with
  | true => exact ite_nf (h2 rfl)
  | false => exact ite_nt (h1 rfl)
theorem atI_0 {α : Type} (c : α) (r : List α) : atI (c :: r) 0 = some c := atI_nat (j := 0) rfl
theorem take_snoc {α : Type} {l : List α} {i : Nat} {x : α} (h : l[i]? = some x) : l.take (i + 1) = l.take i ++ [x] := by
  rw [List.take_add_one, h]
  rfl
theorem take_map_snoc {α β : Type} {l : List α} {i : Nat} {x : α} (f : α → β) (h : l[i]? = some x) : (l.take (i + 1)).map f = (l.take i).map f ++ [f x] := by
  rw [take_snoc h, List.map_append]
  rfl
end Q
namespace Q
open PySem PySem.Spec PyProof.Rows L2
abbrev zLetters : Str := "abcdefghijklmnopqrstuvwxyz"
abbrev zFigures : Str := "0123456789"
def resS : List Str := ["begun", "setby", "found", "trusted", "passed", "failed", "agreed", "differed", "served", "backed", "sound", "unsound", "sure", "never", "open", "none", "record", "lot", "menu", "wanted"]
def resV : List V := resS.map V.str
def letB (c : Nat) : Bool := decide (c ∈ zLetters.cps.toList)
def figB (c : Nat) : Bool := decide (c ∈ zFigures.cps.toList)
def headB : List Nat → Bool
  | c :: _ => letB c
  | [] => false
def nmOk (z : Str) : Bool := (decide (1 ≤ z.length) && decide (z.length ≤ 8)) && (!inV (.str z) resV && (headB z.cps.toList && z.cps.toList.all fun c => letB c || figB c))
def nameV : V → Bool
  | .str z => nmOk z
  | _ => false
def momV (x : V) (l : Int) : Bool := match x with
  | .int i => decide (l ≤ i) && decide (i ≤ 1000000000000000000000000000000)
  | _ => false
structure Nm (K : PySem.W.Frag) (mg : Str → Option Value) : Prop where
  RESERVED : ∃ a, Gc mg "RESERVED" (.ref a) ∧ ∀ H, SqT K H a resV
  LETTERS : Gc mg "LETTERS" (.str zLetters)
  FIGURES : Gc mg "FIGURES" (.str zFigures)
  MOST_SIGNS : Gc mg "MOST_SIGNS" (.int 8)
  MOST_MOMENT : Gc mg "MOST_MOMENT" (.int 1000000000000000000000000000000)
def spIsInt (K : PySem.W.Frag) : Sp := fun vs H Q _ => ∃ (G : Hp) (x : V) (t : Value), vs = [x] ∧ Gh G H ∧ Kd K G x t ∧ Ret G H (fun v _ => v = .bl (isI x)) Q
def spMoment (K : PySem.W.Frag) : Sp := fun vs H Q _ => ∃ (G : Hp) (x : V) (t : Value) (l : Int), vs = [x, .int l] ∧ Gh G H ∧ Kd K G x t ∧ Ret G H (fun v _ => v = .bl (momV x l)) Q
def spIsName (K : PySem.W.Frag) : Sp := fun vs H Q _ => ∃ (G : Hp) (x : V) (t : Value), vs = [x] ∧ Gh G H ∧ Kd K G x t ∧ (∀ z, x = .str z → z.length ≤ 1000000) ∧ Ret G H (fun v _ => v = .bl (nameV x)) Q
section
variable {K : PySem.W.Frag} {e : En} {G H : Hp} {M : List Addr} {x : V} {t : Value} {Q : VK} {E : XK}
theorem u_isInt (w : Wd e G H M) (h : Kd K G x t) (k : ∀ G' H', Wd e G' H' M → Same G G' → Same H H' → Q (.bl (isI x)) H') : spIsInt K [x] H Q E :=
  ⟨G, x, t, rfl, w.gh, h, ret_use w fun v G' H' w' s1 s2 p => by subst p; exact k G' H' w' s1 s2⟩
theorem u_moment {l : Int} (w : Wd e G H M) (h : Kd K G x t) (k : ∀ G' H', Wd e G' H' M → Same G G' → Same H H' → Q (.bl (momV x l)) H') : spMoment K [x, .int l] H Q E :=
  ⟨G, x, t, l, rfl, w.gh, h, ret_use w fun v G' H' w' s1 s2 p => by subst p; exact k G' H' w' s1 s2⟩
theorem u_isName (w : Wd e G H M) (h : Kd K G x t) (hz : ∀ z, x = .str z → z.length ≤ 1000000) (k : ∀ G' H', Wd e G' H' M → Same G G' → Same H H' → Q (.bl (nameV x)) H') : spIsName K [x] H Q E :=
  ⟨G, x, t, rfl, w.gh, h, hz, ret_use w fun v G' H' w' s1 s2 p => by subst p; exact k G' H' w' s1 s2⟩
end
end Q
namespace Q
open PySem PySem.Spec PyProof.Rows L2
section
variable {X : Cx} {CX : CXT} {k : Nat} {C f : Addr} {fd : FuncData} {ps : List Str} {sp : Sp} {E : XK}
theorem run_under {pins : List (Addr × Obj)} {σ : L2.St} {H : Hp} {s : Shared} {Q : VK} {us : List Value} {vs : List V} {A' : Around} (F : FnOk X.prog X.w X.K X.mg X.base CX k f fd ps sp) (hr : Room k A')
    (e0 : Env0 X.prog X.w X.K X.mg X.base A' X.stack s H) (hb : Binds X.K fd ps []) (hx : Passes CX X E) (I : Inv X pins σ H s) (r : Vals vs us) (h : sp vs H Q E) :
    wpAny (model X.prog X.w) A' (call (.ref f) us) (EP X pins σ Q) X.xe s := by
  have hl : (us ++ []).length = ps.length := by
    rw [List.append_nil, ← r.length]
    exact F.len _ _ _ _ h
  have hbb := hb s us I.kIn hl
  rw [List.append_nil] at hbb
  refine wpAny_call (codeAny_mono (F.run A' X.stack s H ⟨us, []⟩ us vs Q E hr e0 hbb r h) fun o s' hq => ?_)
  match o, hq with
  | .error e, hq => exact hx pins σ H s e s' I hq
  | .ok (.ret u), hq => exact I.after hq
  | .ok .next, hq => exact hq.elim
  | .ok .brk, hq => exact hq.elim
  | .ok .cont, hq => exact hq.elim
/-- x == y by the def of x's class -/
def rEqI (K : PySem.W.Frag) (C : Addr) (sp : Sp) (E : XK) : R2 := fun x y H Q => ∃ a dx fs t, x = .ref a ∧ H a = some (.ins C dx fs) ∧ TyX K H y t ∧ PySem.W.notFirst K C t = true ∧ sp [x, y] H Q E
theorem q_eqI (hs : PySem.W.findIn X.K (.ref C) "__eq__" = some (some (.ref f))) (hf : PySem.W.isFn X.K (.ref f) = true) (F : FnOk X.prog X.w X.K X.mg X.base CX k f fd ps sp) (hr : Room k X.A) (hb : Binds X.K fd ps []) (hx : Passes CX X E) :
    OpR X (compareOp .Eq) (rEqI X.K C sp E) := by
  intro pins s σ H x y v u Q I rx ry h
  obtain ⟨a, dx, fs, t, rfl, ea, ty, hn, q⟩ := h
  cases (show v = Value.ref a from rx)
  obtain ⟨mA, O, _, _, _, _⟩ := ins_get I.hok ea
  obtain ⟨od, J, _⟩ := O.look
  obtain ⟨P, Z, p, _⟩ := kit_of I ry ty
  obtain ⟨m, hF⟩ := I.fr
  have key : wpAny (model X.prog X.w) X.A (richCompare .Eq (.ref a) u) (EP X pins σ Q) X.xe s := by
    refine PySem.W.cmp_K (op := .Eq) (tb := t) hr.units0 hF I.ok.mod.kin J (Z.ty _ _ I.kIn p) hn hs hf ?_
    refine wpAny_mono (run_under (us := [.ref a, u]) (vs := [.ref a, y]) F hr I.env0 hb hx I (.cons rfl (.cons ry .nil)) q) (fun w s' z => ?_) fun _ _ x => x
    obtain ⟨z', H', I', rz, qz⟩ := z
    exact SlX.cmpback rz ⟨z', H', I', rz, qz⟩
  exact key
theorem r_eqI {K : PySem.W.Frag} {H : Hp} {a : Addr} {dx : Addr} {fs : List (Str × V)} {y : V} {t : Value} {Qv : VK} (h : H a = some (.ins C dx fs)) (ty : TyX K H y t) (n : PySem.W.notFirst K C t = true) (q : sp [.ref a, y] H Qv E) :
    rEqI K C sp E (.ref a) y H Qv := ⟨a, dx, fs, t, rfl, h, ty, n, q⟩
theorem ifBound_b {K : PySem.W.Frag} {M : Model} {A : Around} {E : Value → Shared → Prop} {s : Shared} {x C : Addr} {ox : Obj} {od : Option Obj} {name : Str} {id : String} {args : List Value} {Q : Option Value → Shared → Prop} (X : K.In s.heap)
    (I : PySem.W.InstAt s.heap x ox C od) (hs : PySem.W.findIn K (.ref C) name = some (some (.builtin id))) (hb : ∀ self, bindSpecial (.builtin id) self = pure (.builtin id, [self]))
    (h : wpAny M A (call (.builtin id) (.ref x :: args)) (fun v => Q (some v)) E s) : wpAny M A (callSpecialIfBound? (.ref x) name args) Q E s := by
  simp only [callSpecialIfBound?, bindSpecialIfBound?]
  refine wpAny_holding (wpAny_bind (wpAny_bind (wpAny_bind (I.type.here ((PySem.W.looks_findIn X hs).here ?_)))))
  refine wpAny_bind (wpAny_askSetting (wpAny_ite ?_))
  have fin : wpAny M A (call (.builtin id) ([.ref x] ++ args) >>= fun v => pure (some v)) Q E s := wpAny_bind (wpAny_mono h (fun v s' h' => wpAny_pure h') fun _ _ h' => h')
  split
  · exact wpAny_bind ((PySem.W.Looks.of_pure (hb _)).here (wpAny_pure (by exact fin)))
  · exact wpAny_tryCatch (wpAny_bind ((PySem.W.Looks.of_pure (hb _)).here (wpAny_pure (by exact fin))))
theorem cmp_b {K : PySem.W.Frag} {prog : Program} {w : World} {A : Around} {E : Value → Shared → Prop} {s : Shared} {x C : Addr} {b tb : Value} {ox : Obj} {od : Option Obj} {op : CmpOp} {id : String} {Q : Value → Shared → Prop}
    (hu : A.units < cLine) (X : K.In s.heap) (I : PySem.W.InstAt s.heap x ox C od) (hb : PySem.W.Looks (model prog w) s.heap (typeOf b) tb) (hn : PySem.W.notFirst K C tb = true)
    (hs : PySem.W.findIn K (.ref C) (cmpInfo op).2.1 = some (some (.builtin id))) (hbd : ∀ self, bindSpecial (.builtin id) self = pure (.builtin id, [self]))
    (h : wpAny (model prog w) A (call (.builtin id) [.ref x, b]) (PySem.W.CmpBack Q) E s) : wpAny (model prog w) A (richCompare op (.ref x) b) Q E s := by
  have one : wpAny (model prog w) A (tryCompare (.ref x) (cmpInfo op).2.1 b) (fun r s' => ∃ v, r = some v ∧ Q v s') E s := by
    unfold tryCompare
    refine wpAny_bind (ifBound_b X I hs hbd (wpAny_mono h (fun v s' hv => ?_) fun _ _ e => e))
    cases v <;> first | exact hv.elim | exact wpAny_pure ⟨_, rfl, hv⟩
  unfold richCompare
  simp only [oneThing_ref]
  refine wpAny_holding (wpAny_bind (wpAny_cRoomFor hu ?_))
  refine wpAny_bind (I.type.here (wpAny_bind (hb.here ?_)))
  split
  · rename_i q
    have e : PySem.W.subIn K tb (.ref C) = some false := by
      rcases Bool.or_eq_true_iff.mp hn with e | e
      · rw [beq_iff_eq.mp e] at q; simp at q
      · exact beq_iff_eq.mp e
    refine wpAny_bind ((PySem.W.looks_subIn X e).here ?_)
    simp only [Bool.false_eq_true, if_false]
    refine wpAny_bind (wpAny_mono one (fun r s' z => ?_) fun _ _ e => e)
    obtain ⟨v, rfl, hq⟩ := z
    exact wpAny_pure hq
  · refine wpAny_bind (wpAny_pure ?_)
    simp only [Bool.false_eq_true, if_false]
    refine wpAny_bind (wpAny_mono one (fun r s' z => ?_) fun _ _ e => e)
    obtain ⟨v, rfl, hq⟩ := z
    exact wpAny_pure hq
/-- x != y where the class has an own == alone -/
def rNeI (K : PySem.W.Frag) (C : Addr) (sp : Sp) (E : XK) : R2 := fun x y H Q => ∃ a dx fs t, x = .ref a ∧ H a = some (.ins C dx fs) ∧ TyX K H y t ∧ PySem.W.notFirst K C t = true ∧ sp [x, y] H (fun v H' => ∃ b, v = .bl b ∧ Q (.bl (!b)) H') E
theorem q_neI (hne : PySem.W.findIn X.K (.ref C) "__ne__" = some (some (.builtin "object.__ne__"))) (hm : PySem.W.mroIn X.K C (.type "object") = some true) (hs : PySem.W.findIn X.K (.ref C) "__eq__" = some (some (.ref f))) (hf : PySem.W.isFn X.K (.ref f) = true)
    (F : FnOk X.prog X.w X.K X.mg X.base CX k f fd ps sp) (hr : Room (k + 1) X.A) (hb : Binds X.K fd ps []) (hx : Passes CX X E) :
    OpR X (compareOp .NotEq) (rNeI X.K C sp E) := by
  intro pins s σ H x y v u Q I rx ry h
  obtain ⟨a, dx, fs, t, rfl, ea, ty, hn, q⟩ := h
  cases (show v = Value.ref a from rx)
  obtain ⟨mA, O, _, _, _, _⟩ := ins_get I.hok ea
  obtain ⟨od, J, _⟩ := O.look
  obtain ⟨P, Z, p, _⟩ := kit_of I ry ty
  obtain ⟨m, hF⟩ := I.fr
  have hr1 : Room k X.A.in1 := hr.in1
  have key : wpAny (model X.prog X.w) X.A (richCompare .NotEq (.ref a) u) (EP X pins σ Q) X.xe s := by
    refine cmp_b (op := .NotEq) (tb := t) hr.units0 I.kIn J (Z.ty _ _ I.kIn p) hn hne PySem.F.slot_object_ne.bind ?_
    refine wpAny_call (codeAny_call_builtin PySem.F.slot_object_ne.plain PySem.F.cmpEntry_ne (PySem.W.check_slot (i := "object.__ne__") (owner := "object") (n := "__ne__") PySem.F.cmpKind_ne PySem.F.cmpSplit_ne (J.type.andThen (PySem.W.looks_mroIn I.kIn hm)) (PySem.F.cmpArgs_ne _ _) ?_))
    unfold Builtin.«object.__ne__»
    refine wpAny_bind (m := slotArgs "__ne__" 1 _) (wpAny_pure ?_)
    refine wpAny_bind (m := cRoomFor _ _) (wpAny_cRoomFor hr1.units0 ?_)
    refine wpAny_bind (m := callSpecialIfBound? (.ref a) (Str.ofString "__eq__") [u]) (PySem.W.ifBound_K I.kIn J hs hf ?_)
    refine wpAny_mono (run_under (us := [.ref a, u]) (vs := [.ref a, y]) F hr1 I.env0.in1 hb hx I (.cons rfl (.cons ry .nil)) q) (fun w s' z => ?_) fun _ _ x => x
    obtain ⟨z', H', I', rz, b, e, qz⟩ := z
    subst e
    cases (show w = Value.bool b from rz)
    refine wpAny_bind (m := truthy (.bool b)) (wpAny_truthy_bool ?_)
    exact wpAny_pure ⟨.bl (!b), H', I', rfl, qz⟩
  exact key
theorem r_neI {K : PySem.W.Frag} {H : Hp} {a : Addr} {dx : Addr} {fs : List (Str × V)} {y : V} {t : Value} {Qv : VK} (h : H a = some (.ins C dx fs)) (ty : TyX K H y t) (n : PySem.W.notFirst K C t = true) (q : sp [.ref a, y] H (fun v H' => ∃ b, v = .bl b ∧ Qv (.bl (!b)) H') E) :
    rNeI K C sp E (.ref a) y H Qv := ⟨a, dx, fs, t, rfl, h, ty, n, q⟩
/-- str(x) by the class's own def -/
def rStrI (C : Addr) (sp : Sp) (E : XK) : List V → Hp → VK → Prop := fun xs H Q => ∃ a dx fs, xs = [.ref a] ∧ H a = some (.ins C dx fs) ∧ sp [.ref a] H (fun v H' => ∃ z, v = .str z ∧ Q v H') E
theorem q_strI (hs : PySem.W.findIn X.K (.ref C) "__str__" = some (some (.ref f))) (hf : PySem.W.isFn X.K (.ref f) = true) (F : FnOk X.prog X.w X.K X.mg X.base CX k f fd ps sp) (hr : Room (k + 2) X.A) (hb : Binds X.K fd ps []) (hx : Passes CX X E) :
    CallR X (.type "str") (rStrI C sp E) := by
  intro pins s σ H xs us Q I r h
  obtain ⟨a, dx, fs, rfl, ea, q⟩ := h
  obtain ⟨u, rfl, ru⟩ := r.one
  cases (show u = Value.ref a from ru)
  obtain ⟨mA, O, _, _, _, _⟩ := ins_get I.hok ea
  obtain ⟨od, J, _⟩ := O.look
  have hr2 : Room k X.A.in1.in1 := (show Room (k + 1) X.A.in1 from Room.in1 hr).in1
  refine PySem.W.kso_call hr2.units0 I.kIn J hs hf ?_
  refine wpAny_mono (run_under (us := [.ref a]) (vs := [.ref a]) F hr2 I.env0.in1.in1 hb hx I (.cons rfl .nil) q) (fun w s' z => ?_) fun _ _ x => x
  obtain ⟨z', H', I', rz, y, e, qz⟩ := z
  subst e
  obtain ⟨t, e⟩ := (show ∃ t, w = Value.str y t from rz)
  subst e
  exact ⟨.str y, H', I', ⟨t, rfl⟩, qz⟩
theorem r_strI {H : Hp} {a : Addr} {dx : Addr} {fs : List (Str × V)} {Qv : VK} (h : H a = some (.ins C dx fs)) (q : sp [.ref a] H (fun v H' => ∃ z, v = .str z ∧ Qv v H') E) : rStrI C sp E [.ref a] H Qv := ⟨a, dx, fs, rfl, h, q⟩
end
/-- o.m(k = v, ..): m keywords -/
def tMethK (C : Addr) (m : Str) (n : Nat) (sp : Sp) (E : XK) (ta : TE) (tk : TA) (gV : List V → List V → List V) : TE := fun σ H Q => ta σ H fun x H1 => ∃ a dx fs, x = .ref a ∧ H1 a = some (.ins C dx fs) ∧ fs.lookup m = none ∧
  tk σ H1 fun zs H2 => zs.length = n ∧ sp (gV [x] zs) H2 Q E
end Q
namespace Q
open PySem PySem.Spec PyProof.Rows L2
def FldK (K : PySem.W.Frag) (f : Str) (x : V) (H : Hp) (Q : VK) : Prop := ∃ a C dx fs v, x = .ref a ∧ H a = some (.ins C dx fs) ∧ Cls K C ∧ NoAttr K C f ∧ fs.lookup f = some v ∧ Q v H
def SetK (K : PySem.W.Frag) (f : Str) (y x : V) (H : Hp) (R : Hp → Prop) : Prop := ∃ a C dx fs, x = .ref a ∧ H a = some (.ins C dx fs) ∧ Cls K C ∧ NoAttr K C f ∧ fs.length < 1000 ∧ R (upd H a (.ins C dx (putF f y fs)))
section
variable {K : PySem.W.Frag} {f : Str} {ta tv : TE} {σ : L2.St} {H G : Hp} {Qv : VK} {D : Ends} {a C dx : Addr} {fs : List (Str × V)} {v y : V} {e : En} {M : List Addr}
theorem r_tFld (q : ta σ H fun x H1 => FldK K f x H1 Qv) : tFld K ta f σ H Qv := q
theorem r_fld (h : H a = some (.ins C dx fs)) (c : Cls K C) (n : NoAttr K C f) (l : fs.lookup f = some v) (q : Qv v H) : FldK K f (.ref a) H Qv := ⟨a, C, dx, fs, v, rfl, h, c, n, l, q⟩
theorem r_sFld (q : tv σ H fun y H1 => ta σ H1 fun x H2 => SetK K f y x H2 fun H3 => D.nx σ H3) : sFld K ta tv f D σ H := q
theorem r_setF {R : Hp → Prop} (w : Wd e G H M) (hm : a ∈ M) (h : H a = some (.ins C dx fs)) (c : Cls K C) (n : NoAttr K C f) (l : fs.length < 1000)
    (q : ∀ H', Wd e G H' M → H' a = some (.ins C dx (putF f y fs)) → But a H H' → R H') : SetK K f y (.ref a) H R := ⟨a, C, dx, fs, rfl, h, c, n, l, q _ (wd_mut w hm) upd_same but_upd⟩
/-- a property is read -/
def PropK (C : Addr) (sp : Sp) (dvs : List V) (E : XK) (x : V) (H : Hp) (Q : VK) : Prop := ∃ a dx fs, x = .ref a ∧ H a = some (.ins C dx fs) ∧ sp (.ref a :: dvs) H Q E
theorem r_tProp {sp : Sp} {dvs : List V} {E : XK} (q : ta σ H fun x H1 => PropK C sp dvs E x H1 Qv) : tProp C sp dvs E ta σ H Qv := q
theorem r_prop {sp : Sp} {dvs : List V} {E : XK} (h : H a = some (.ins C dx fs)) (q : sp (.ref a :: dvs) H Qv E) : PropK C sp dvs E (.ref a) H Qv := ⟨a, dx, fs, rfl, h, q⟩
/-- a method is called -/
def MethGo (C : Addr) (m : Str) (x : V) (H : Hp) (R : Addr → Prop) : Prop := ∃ a dx fs, x = .ref a ∧ H a = some (.ins C dx fs) ∧ fs.lookup m = none ∧ R a
theorem r_tMeth {m : Str} {sp : Sp} {dvs : List V} {E : XK} {t : TA} (q : ta σ H fun x H1 => MethGo C m x H1 fun _ => t σ H1 fun vs H2 => sp (x :: (vs ++ dvs)) H2 Qv E) : tMeth C m sp dvs E ta t σ H Qv := by
  have key : ∀ (x : V) (H1 : Hp), MethGo C m x H1 (fun _ => t σ H1 fun vs H2 => sp (x :: (vs ++ dvs)) H2 Qv E) = (∃ a dx fs, x = .ref a ∧ H1 a = some (.ins C dx fs) ∧ fs.lookup m = none ∧ t σ H1 fun vs H2 => sp (x :: (vs ++ dvs)) H2 Qv E) := fun _ _ => rfl
  simp only [key] at q
  exact q
theorem r_meth {m : Str} {R : Addr → Prop} (h : H a = some (.ins C dx fs)) (l : fs.lookup m = none) (q : R a) : MethGo C m (.ref a) H R := ⟨a, dx, fs, rfl, h, l, q⟩
def MethGoK (C : Addr) (m : Str) (x : V) (H : Hp) (R : Prop) : Prop := ∃ a dx fs, x = .ref a ∧ H a = some (.ins C dx fs) ∧ fs.lookup m = none ∧ R
theorem r_tMethK {m : Str} {sp : Sp} {n : Nat} {E : XK} {tk : TA} {gV : List V → List V → List V} (q : ta σ H fun x H1 => MethGoK C m x H1 (tk σ H1 fun zs H2 => zs.length = n ∧ sp (gV [x] zs) H2 Qv E)) : tMethK C m n sp E ta tk gV σ H Qv := q
theorem r_methK {m : Str} {R : Prop} (h : H a = some (.ins C dx fs)) (l : fs.lookup m = none) (q : R) : MethGoK C m (.ref a) H R := ⟨a, dx, fs, rfl, h, l, q⟩
/-- an instance is made -/
def MakeGo (C : Addr) (sp : Sp) (vs : List V) (E : XK) (H : Hp) (Q : VK) : Prop := ∀ x dx, H x = none → H dx = none → dx ≠ x → sp (.ref x :: vs) (upd (upd H dx (.own x)) x (.ins C dx [])) (fun v H2 => v = .non ∧ Q (.ref x) H2) E
theorem r_tMake {sp : Sp} {dvs : List V} {E : XK} {t : TA} (q : t σ H fun vs H1 => MakeGo C sp (vs ++ dvs) E H1 Qv) : tMake C sp dvs E t σ H Qv := q
theorem make_go {sp : Sp} {vs : List V} {E : XK} (w : Wd e G H M)
    (k : ∀ x dx G' H', H x = none → (∀ m ∈ M, x ≠ m) → Same G G' → Same H H' → Wd e G' H' (x :: M) → H' x = some (.ins C dx []) → e.H0 x = none → sp (.ref x :: vs) H' (fun v H2 => v = .non ∧ Qv (.ref x) H2) E) : MakeGo C sp vs E H Qv := by
  intro x dx hx hd ne
  have w1 := wd_lay (o := .own x) w hd
  have hx1 : upd H dx (.own x) x = none := by rw [upd_ne ne.symm]; exact hx
  exact k x dx _ _ hx (fun m hm => w.nm hx hm) (same_upd (w.g hd)) ((same_upd hd).trans (same_upd hx1)) (wd_layM w1 hx1) upd_same (w.n0 hx)
end
theorem dp_map {K : PySem.W.Frag} {H : Hp} {α : Type} (f : α → V) (g : α → PyData) (h : ∀ x, Dp K H (f x) (g x)) : ∀ l : List α, DpAll K H (l.map f) (l.map g)
  | [] => .nil
  | x :: r => .cons (h x) (dp_map f g h r)
theorem r_tBM {K : PySem.W.Frag} {T : String} {r : V → List V → Hp → VK → Prop} {to : TE} {t : TA} {σ : L2.St} {H : Hp} {Qv : VK} (q : to σ H fun x H1 => tyV K T x H1 ∧ t σ H1 fun xs H2 => r x xs H2 Qv) : tBM K T r to t σ H Qv := q
theorem r_appM {e : En} {G H : Hp} {M : List Addr} {l : Addr} {xs : List V} {y : V} {Qv : VK} (w : Wd e G H M) (hm : l ∈ M) (h : H l = some (.lst xs)) (hl : xs.length < sizeLine) (q : ∀ H', Wd e G H' M → H' l = some (.lst (xs ++ [y])) → But l H H' → Qv .non H') :
    rAppend (.ref l) [y] H Qv := ⟨l, xs, y, rfl, rfl, h, hl, q _ (wd_mut w hm) upd_same but_upd⟩
structure SyC (K : PySem.W.Frag) (C : Addr) : Prop where
  c : Cls K C
  n1 : NoAttr K C "tool"
  n2 : NoAttr K C "moment"
  n3 : NoAttr K C "is_sound"
  n4 : NoAttr K C "face"
  ca : PySem.W.findIn K (.ref C) "__class__" = some (some (.builtin "object.__class__"))
  cn : PySem.W.specialIn K (.builtin "object.__class__") "__get__" = some (some (.builtin "getset_descriptor.__get__"))
  ct : PySem.W.takesIn K (.builtin "object.__class__") = some true
  cm : PySem.W.mroIn K C (.type "object") = some true
  me : PySem.W.kitOne K (.ref C) (.ref C) = some true
  non : PySem.W.kitOne K (.type "NoneType") (.ref C) = some false
  int : PySem.W.kitOne K (.type "int") (.ref C) = some false
  bl : PySem.W.kitOne K (.type "bool") (.ref C) = some false
  str : PySem.W.kitOne K (.type "str") (.ref C) = some false
  lst : PySem.W.kitOne K (.type "list") (.ref C) = some false
  tup : PySem.W.kitOne K (.type "tuple") (.ref C) = some false
  dK : PySem.W.kitOne K (.type "dict") (.ref C) = some false
  fme : PySem.W.notFirst K C (.ref C) = true
  fnon : PySem.W.notFirst K C (.type "NoneType") = true
  fint : PySem.W.notFirst K C (.type "int") = true
  fbl : PySem.W.notFirst K C (.type "bool") = true
  fstr : PySem.W.notFirst K C (.type "str") = true
  flst : PySem.W.notFirst K C (.type "list") = true
  ftup : PySem.W.notFirst K C (.type "tuple") = true
  fdK : PySem.W.notFirst K C (.type "dict") = true
def faceD (z : Str) (i : Int) (b : Bool) : PyData := .tuple [.str z, .int i, .bool b]
/-- name and moment as they must be -/
def Right (z : Str) (i : Int) : Prop := nmOk z = true ∧ 0 ≤ i ∧ i ≤ 1000000000000000000000000000000
def SayAt (C : Addr) (G : Hp) (a : Addr) (z : Str) (i : Int) (b : Bool) : Prop := Right z i ∧ ∃ dx fc, G a = some (.ins C dx [("tool", .str z), ("moment", .int i), ("is_sound", .bl b), ("face", .ref fc)]) ∧ G fc = some (.tup [.str z, .int i, .bl b])
theorem SayAt.same {C a : Addr} {G G' : Hp} {z : Str} {i : Int} {b : Bool} (h : SayAt C G a z i b) (s : Same G G') : SayAt C G' a z i b := by
  obtain ⟨r, dx, fc, h1, h2⟩ := h
  exact ⟨r, dx, fc, s _ _ h1, s _ _ h2⟩
theorem nmOk_len {z : Str} (h : nmOk z = true) : z.length ≤ 8 := by
  unfold nmOk at h
  rw [Bool.and_eq_true, Bool.and_eq_true] at h
  exact of_decide_eq_true h.1.2
theorem Right.name {z : Str} {i : Int} (h : Right z i) : nameV (.str z) = true := h.1
theorem Right.mom {z : Str} {i : Int} (h : Right z i) : momV (.int i) 0 = true := by
  show (decide (0 ≤ i) && decide (i ≤ 1000000000000000000000000000000)) = true
  rw [decide_eq_true h.2.1, decide_eq_true h.2.2]
  rfl
theorem Right.len {z : Str} {i : Int} (h : Right z i) : z.length ≤ 8 := nmOk_len h.1
/-- what == of a saying with y answers -/
def EqTo (K : PySem.W.Frag) (C : Addr) (G : Hp) (z : Str) (i : Int) (b : Bool) (y : V) (r : Bool) : Prop := (∃ t, TyX K G y t ∧ PySem.W.kitOne K t (.ref C) = some false ∧ r = false) ∨
  ∃ (c : Addr) (z' : Str) (i' : Int) (b' : Bool), y = .ref c ∧ SayAt C G c z' i' b' ∧ r = PyData.eqv (faceD z i b) (faceD z' i' b')
def sayText (z : Str) (i : Int) (b : Bool) : Str := Str.empty ++ z ++ Str.ofString " " ++ Str.ofString (toString i) ++ Str.ofString " " ++ (if b then Str.ofString "sound" else Str.ofString "unsound")
section
variable {K : PySem.W.Frag} {C a c : Addr} {e : En} {G H : Hp} {M : List Addr} {z z' : Str} {i i' : Int} {b b' r : Bool} {y : V} {Q : VK} {E : XK}
theorem SyC.ty (S : SyC K C) (h : SayAt C G a z i b) : TyX K G (.ref a) (.ref C) := by
  obtain ⟨_, dx, fc, h1, _⟩ := h
  exact .base (.ins h1 S.c S.ca S.cn S.ct S.cm)
theorem EqTo.non (S : SyC K C) : EqTo K C G z i b .non false := .inl ⟨_, .base .non, S.non, rfl⟩
theorem EqTo.int (S : SyC K C) {j : Int} : EqTo K C G z i b (.int j) false := .inl ⟨_, .base (.int j), S.int, rfl⟩
theorem EqTo.bl (S : SyC K C) {j : Bool} : EqTo K C G z i b (.bl j) false := .inl ⟨_, .base (.bl j), S.bl, rfl⟩
theorem EqTo.str (S : SyC K C) {j : Str} : EqTo K C G z i b (.str j) false := .inl ⟨_, .base (.str j), S.str, rfl⟩
theorem EqTo.lst (S : SyC K C) {l : Addr} {xs : List V} (h : G l = some (.lst xs)) : EqTo K C G z i b (.ref l) false := .inl ⟨_, .base (.lst h), S.lst, rfl⟩
theorem EqTo.tup (S : SyC K C) {l : Addr} {xs : List V} (h : G l = some (.tup xs)) : EqTo K C G z i b (.ref l) false := .inl ⟨_, .base (.tup h), S.tup, rfl⟩
end
theorem nmOk_str {z : Str} (h : nmOk z = true) : PyData.strOk z = true := by
  unfold nmOk at h
  rw [Bool.and_eq_true, Bool.and_eq_true, Bool.and_eq_true, Bool.and_eq_true] at h
  have h1 := h.2.2.2
  unfold PyData.strOk
  rw [Array.all_eq_true_iff_forall_mem]
  intro c hc
  have h2 := List.all_eq_true.mp h1 c (Array.mem_toList_iff.mpr hc)
  have l1 : ∀ c ∈ zLetters.cps.toList, c < 0x110000 := by decide
  have l2 : ∀ c ∈ zFigures.cps.toList, c < 0x110000 := by decide
  rcases Bool.or_eq_true_iff.mp h2 with h3 | h3
  · exact decide_eq_true (l1 c (of_decide_eq_true h3))
  · exact decide_eq_true (l2 c (of_decide_eq_true h3))
theorem lenZ {i : Int} (h0 : 0 ≤ i) (h1 : i ≤ 1000000000000000000000000000000) : (Str.ofString (toString i)).length ≤ 31 := toString_length_le h0 (by decide) (Int.lt_of_le_of_lt h1 (by decide))
theorem logZ {i : Int} (h0 : 0 ≤ i) (h1 : i ≤ 1000000000000000000000000000000) : i.natAbs.log2 < 1920 := by
  by_cases z : i.natAbs = 0
  · rw [z]; decide
  · refine (Nat.log2_lt z).mpr (Nat.lt_of_le_of_lt (m := 1000000000000000000000000000000) (by omega) ?_)
    exact Nat.lt_of_lt_of_le (m := 2 ^ 100) (by decide) (Nat.pow_le_pow_right (by decide) (by decide))
section
variable {te : TE} {ts : List TE} {acc y : Str} {i : Int} {σ : L2.St} {H : Hp} {Q : Str → Hp → Prop} {Qv : VK}
def FmtK (x : V) (H : Hp) (Q : VK) : Prop := (∃ y : Str, x = .str y ∧ y.length ≤ sizeLine ∧ Q (.str y) H) ∨ ∃ i : Int, x = .int i ∧ i.natAbs.log2 < 1920 ∧ Q (.str (toString i)) H
theorem r_tFmt (q : te σ H fun x H1 => FmtK x H1 Qv) : tFmt te σ H Qv := q
theorem r_fmtS (h : y.length ≤ sizeLine) (q : Qv (.str y) H) : FmtK (.str y) H Qv := .inl ⟨y, rfl, h, q⟩
theorem r_fmtI (h : i.natAbs.log2 < 1920) (q : Qv (.str (toString i)) H) : FmtK (.int i) H Qv := .inr ⟨i, rfl, h, q⟩
theorem r_jnil (q : Q acc H) : tJs [] acc σ H Q := q
def JK (acc : Str) (x : V) (R : Str → Prop) : Prop := ∃ y : Str, x = .str y ∧ (acc ++ y).length ≤ sizeLine ∧ R (acc ++ y)
theorem r_jcons (q : te σ H fun x H1 => JK acc x fun s => tJs ts s σ H1 Q) : tJs (te :: ts) acc σ H Q := q
theorem r_jk {R : Str → Prop} (h : (acc ++ y).length ≤ sizeLine) (q : R (acc ++ y)) : JK acc (.str y) R := ⟨y, rfl, h, q⟩
end
end Q
namespace Q
open PySem PySem.Spec PyProof.Rows L2
section
variable {P : Program} {w : World} {K : PySem.W.Frag} {mg : Str → Option Value} {base : Heap} {CX : CXT} {k : Nat}
theorem kbn_of {x qual : Str} {params : Arguments} {body : List Stmt} {scope : Scope} {kws : List (Str × V)} {f : Addr} {fd : FuncData} {ps : List Str} (F : FunD K x qual params body scope [] kws f fd) (n : Nat) (ks : List Str) (g : {α : Type} → List α → List α → List α)
    (hrel : ∀ {vs zs : List V} {us ws : List Value}, Vals vs us → Vals zs ws → Vals (g vs zs) (g us ws))
    (h : ∀ (kV doc pm : Value) (an : Option Addr) (cdv ct : Value) (us ws : List Value), us.length = n → ws.length = ks.length →
      bindArgs (PySem.W.fnOf x qual params body scope .none kV doc pm an cdv ct) ⟨us, ks.zip ws⟩ = pure (ps.zip (g us ws))) : KBn K fd ps n ks (fun us ws => g us ws) (fun vs zs => g vs zs) := by
  obtain ⟨oc, od, dV, kV, doc, pm, an, cdv, ct, osl, rfl, lk, hcd, hD, hK⟩ := F.ex
  rcases hD with ⟨_, rfl⟩ | ⟨e, _⟩
  · exact ⟨fun s us ws X l1 l2 => .of_eq (h kV doc pm an cdv ct us ws l1 l2), fun r1 r2 => hrel r1 r2⟩
  · exact absurd rfl e
variable (P w K mg base CX k)
structure MkD (x : Str) (C : Addr) (dvs : List V) (sp : Sp) : Prop where
  ex : ∃ (f : Addr) (fd : FuncData) (ps : List Str) (ds : List Value), mg x = some (.ref C) ∧ Mk K C f ∧ Binds K fd ps ds ∧ Vals dvs ds ∧ FnOk P w K mg base CX k f fd ps sp
structure PrD (C : Addr) (m : Str) (sp : Sp) : Prop where
  ex : ∃ (p g : Addr) (fd : FuncData) (ps : List Str), Cls K C ∧ PropOf K C m p g ∧ Binds K fd ps [] ∧ FnOk P w K mg base CX k g fd ps sp
/-- a special def: ==, str -/
structure SpD (C : Addr) (m : Str) (sp : Sp) : Prop where
  ex : ∃ (f : Addr) (fd : FuncData) (ps : List Str), PySem.W.findIn K (.ref C) m = some (some (.ref f)) ∧ PySem.W.isFn K (.ref f) = true ∧ Binds K fd ps [] ∧ FnOk P w K mg base CX k f fd ps sp
end
section
variable {X : Cx} {CX : CXT} {k j n : Nat} {C : Addr} {sp : Sp} {dvs : List V} {E : XK} {x m : Str} {o e : Expr} {es : List Expr} {t tk : TA} {ta : TE} {pos p apos : Pos} {pl : Sem Bool} {ks : List Str} {kws : List Keyword} {gV : List V → List V → List V}
theorem pe_makeD (D : MkD X.prog X.w X.K X.mg X.base CX k x C dvs sp) (hr : Room j X.A) (hx : Passes CX X E) (ha : PA X (e :: es) t) (hj : k + 1 ≤ j := by decide) (hg : Gl X x := by rfl)
    (hdb : (x == ("__debug__" : Str)) = false := by decide) (he : starEach (e :: es) X.env = (false, eval e X.env) :: starEach es X.env := by rfl) (hpl : (backTo pos (starEach es X.env)).any (·.1) = false := by rfl) :
    PE X (.Call (.Name x p) (e :: es) [] pos) (tMake C sp dvs E t) := by
  obtain ⟨f, fd, ps, ds, h1, h2, h3, h4, h5⟩ := D.ex
  exact pe_make h2 h5 (hr.mono hj) hg h1 h3 h4 hx ha hdb he hpl
theorem pe_propD (he : PE X e ta) (D : PrD X.prog X.w X.K X.mg X.base CX k C m sp) (hr : Room j X.A) (hx : Passes CX X.nox E) (hj : k + 1 ≤ j := by decide)
    (hab : attributeBase e m X.env (eval e X.env) = eval e X.env := by rfl) : PE X (.Attribute e m pos) (tProp C sp [] E ta) := by
  obtain ⟨p, g, fd, ps, h1, h2, h3, h5⟩ := D.ex
  exact pe_prop he h1 h2 h5 (hr.mono hj) h3 .nil hx hab
theorem q_eqD (D : SpD X.prog X.w X.K X.mg X.base CX k C "__eq__" sp) (hr : Room j X.A) (hx : Passes CX X E) (hj : k ≤ j := by decide) : OpR X (compareOp .Eq) (rEqI X.K C sp E) := by
  obtain ⟨f, fd, ps, h1, h2, h3, h4⟩ := D.ex
  exact q_eqI h1 h2 h4 (hr.mono hj) h3 hx
theorem q_neD (hne : PySem.W.findIn X.K (.ref C) "__ne__" = some (some (.builtin "object.__ne__"))) (hm : PySem.W.mroIn X.K C (.type "object") = some true) (D : SpD X.prog X.w X.K X.mg X.base CX k C "__eq__" sp) (hr : Room j X.A) (hx : Passes CX X E)
    (hj : k + 1 ≤ j := by decide) : OpR X (compareOp .NotEq) (rNeI X.K C sp E) := by
  obtain ⟨f, fd, ps, h1, h2, h3, h4⟩ := D.ex
  exact q_neI hne hm h1 h2 h4 (hr.mono hj) h3 hx
theorem q_strD (D : SpD X.prog X.w X.K X.mg X.base CX k C "__str__" sp) (hr : Room j X.A) (hx : Passes CX X E) (hj : k + 2 ≤ j := by decide) : CallR X (.type "str") (rStrI C sp E) := by
  obtain ⟨f, fd, ps, h1, h2, h3, h4⟩ := D.ex
  exact q_strI h1 h2 h4 (hr.mono hj) h3 hx
end
theorem u_moment0 {K : PySem.W.Frag} {e : En} {G H : Hp} {M : List Addr} {x : V} {t : Value} {Q : VK} {E : XK} {l : Int} (w : Wd e G H M) (h : Kd K G x t) (k : ∀ G' H', Wd e G' H' M → Same G G' → Same H H' → Q (.bl (momV x l)) H') :
    spMoment K ([x] ++ [.int l]) H Q E := u_moment w h k
theorem r_tyL {K : PySem.W.Frag} {H : Hp} {p : Addr} {xs : List V} {R : Prop} (h : SqL K H p xs) (q : R) : tyV K "list" (.ref p) H ∧ R := ⟨.inl ⟨rfl, xs, h⟩, q⟩
theorem EqTo.same {K : PySem.W.Frag} {C : Addr} {G G' : Hp} {z : Str} {i : Int} {b r : Bool} {y : V} (h : EqTo K C G z i b y r) (s : Same G G') : EqTo K C G' z i b y r := by
  rcases h with ⟨t, h1, h2, h3⟩ | ⟨c, z', i', b', h1, h2, h3⟩
  · exact .inl ⟨t, same_ty s h1, h2, h3⟩
  · exact .inr ⟨c, z', i', b', h1, h2.same s, h3⟩
end Q
namespace Q
open PySem PySem.Spec PyProof.Rows L2
/-- a property's getter -/
def getterOf (K : PySem.W.Frag) (p : Addr) : Addr := match PySem.W.recIn K p "property" with
  | some (.ref g :: _) => g
  | _ => 0
def propB (K : PySem.W.Frag) (C : Addr) (f : Str) : Bool := He.eqO (PySem.W.findIn K (.ref C) f) (some (some (.ref (He.ma K C f)))) && (He.eqO (PySem.W.specialIn K (.ref (He.ma K C f)) "__get__") (some (some (.builtin "property.__get__"))) &&
  (decide (PySem.W.takesIn K (.ref (He.ma K C f)) = some true) && (match PySem.W.recIn K (He.ma K C f) "property" with
    | some (.ref _ :: _) => true
    | _ => false)))
theorem propB_ok {K : PySem.W.Frag} {C : Addr} {f : Str} (h : propB K C f = true) : PropOf K C f (He.ma K C f) (getterOf K (He.ma K C f)) := by
  obtain ⟨h1, h⟩ := He.ba h
  obtain ⟨h2, h⟩ := He.ba h
  obtain ⟨h3, h4⟩ := He.ba h
  refine ⟨He.eqO_ok h1, He.eqO_ok h2, of_decide_eq_true h3, ?_⟩
  unfold getterOf
  split at h4
  · rename_i g rest e
    exact ⟨rest, by rw [e]⟩
  · cases h4
end Q
namespace Q
open PySem PySem.Spec PyProof.Rows L2
/-- at a: an exception of the class cls, its dict d -/
def ExK (cls : Value) (d : Option Addr) (a : Addr) : HO := .ext fun h => ∃ (oe : Obj) (vs : Array Value), h.get? a = some oe ∧ Zc cls d oe ∧ oe.data = .fields vs
theorem exK_nt {cls : Value} {d : Option Addr} {a : Addr} : NoT (ExK cls d a) := fun ps z => by
  have y : HO.ext _ = HO.tbl ps := z
  cases y
section
variable {X : Cx} {pins : List (Addr × Obj)} {σ : L2.St} {H : Hp} {s : Shared} {a : Addr} {oe : Obj} {cls : Value} {d : Option Addr}
theorem exK_at (I : Inv X pins σ H s) (e : H a = some (ExK cls d a)) : ∃ (oe : Obj) (vs : Array Value), s.heap.get? a = some oe ∧ Zc cls d oe ∧ oe.data = .fields vs := by
  have x : ObjOk X.prog X.w H s.heap a (.ext fun h => ∃ (oe : Obj) (vs : Array Value), h.get? a = some oe ∧ Zc cls d oe ∧ oe.data = .fields vs) := I.hok a _ e
  exact x.1
/-- a pinned exception is told from now on -/
theorem track_exc {vs : Array Value} (I : Inv X ((a, oe) :: pins) σ H s) (hz : Zc cls d oe) (hd : oe.data = .fields vs) (far : ∀ o, X.s_0.heap.get? a = some o → X.H_0 a = none → a ∉ X.ex → False) (apart : ∀ p ∈ X.pn ++ pins, p.1 ≠ a) :
    Inv X pins σ (upd H a (ExK cls d a)) s := by
  obtain ⟨here, fresh, offL, _, _⟩ := I.pin (a, oe) (List.mem_append_right _ List.mem_cons_self)
  have told : ∀ {b : Addr} {u : HO}, H b = some u → b ≠ a := fun {b u} z y => by
    rw [y, fresh] at z
    cases z
  have cells : ∀ y c, X.env.cells.lookup y = some c → c ≠ a := fun y c z y2 => by
    obtain ⟨v, o, ho, hv⟩ := I.cell y c z
    rw [y2] at ho
    obtain rfl := Option.some.inj (ho.symm.trans here)
    rw [hd] at hv
    cases hv
  have bs : Un X.fs X.ex X.H_0 (upd H a (ExK cls d a)) X.s_0.heap s.heap := by
    refine ⟨I.base.keep, I.base.slot, fun b o z n nx => ?_, I.base.there, fun b xs z => ?_, fun b o u z => ?_, fun b ps z => ?_⟩
    · by_cases y : b = a
      · rw [y] at z n nx
        exact (far o z n nx).elim
      · rw [upd_ne y]
        exact I.base.free b o z n nx
    · have t := I.base.tups b xs z
      rw [upd_ne (told t)]
      exact t
    · have t := I.base.frzs b o u z
      rw [upd_ne (told t)]
      exact t
    · obtain ⟨more, t⟩ := I.base.tbls b ps z
      refine ⟨more, ?_⟩
      rw [upd_ne (told t)]
      exact t
  refine ⟨I.ok, I.os, I.bare, bs, I.loc, I.cell, ?_, fun y c z => ?_, fun p hp => ?_, fun b u z => ?_, I.len⟩
  · rw [upd_ne offL.symm]
    exact I.free
  · rw [upd_ne (cells y c z)]
    exact I.freeC y c z
  · have hp2 : p ∈ X.pn ++ ((a, oe) :: pins) := by
      rcases List.mem_append.mp hp with q | q
      · exact List.mem_append_left _ q
      · exact List.mem_append_right _ (List.mem_cons_of_mem _ q)
    obtain ⟨q1, q2, q3⟩ := I.pin p hp2
    exact ⟨q1, by rw [upd_ne (apart p hp)]; exact q2, q3⟩
  · by_cases y : b = a
    · rw [y, upd_same] at z
      rw [y, ← Option.some.inj z]
      refine ⟨⟨oe, vs, here, hz, hd⟩, ⟨oe, here⟩, fun h1 h2 q k => ?_⟩
      obtain ⟨o2, v2, r1, r2⟩ := q
      exact ⟨o2, v2, k _ r1, r2⟩
    · rw [upd_ne y] at z
      refine (I.hok b u z).stay (fun c v _ q => q) (fun c q => ?_) fun c xs q => ?_
      · rw [upd_ne (told q)]
        exact q
      · rw [upd_ne (told q)]
        exact q
end
end Q
namespace Q
open PySem PySem.Spec PyProof.Rows L2
/-- e.f of an exception | of an instance -/
def FldX (K : PySem.W.Frag) (f : Str) (x : V) (H : Hp) (Q : VK) : Prop := ∃ (a C dd : Addr) (fs : List (Str × V)) (v : V), x = .ref a ∧ H a = some (ExK (.ref C) (some dd) a) ∧ H dd = some (.xd fs) ∧ XfC K C ∧ PySem.W.findIn K (.ref C) f = some none ∧ fs.lookup f = some v ∧ Q v H
def tFldX (K : PySem.W.Frag) (f : Str) (te : TE) : TE := fun σ H Q => te σ H fun x H1 => FldX K f x H1 Q
theorem pe_xv {X : Cx} {e : Expr} {te : TE} {pos : Pos} {f : Str} (he : PE X e te) (hb : attributeBase e f X.env (eval e X.env) = eval e X.env := by rfl) : PE X (.Attribute e f pos) (tFldX X.K f te) := by
  refine ⟨fun pins s σ H Q I h => ?_⟩
  refine attr_of hb (thn (he.run pins s σ H _ I h) fun u s1 told => ?_)
  obtain ⟨x, H1, I1, rx, a, C, dd, fs, v, ex, ea, ed, T, no, l, q⟩ := told
  subst ex
  obtain rfl : u = Value.ref a := rx
  obtain ⟨oe, vs, here, z, hd⟩ := exK_at I1 ea
  obtain ⟨mA, names, rel⟩ := (show ObjOk X.prog X.w H1 s1.heap dd (.xd fs) from I1.hok dd _ ed)
  obtain ⟨od, ho, looks⟩ := lookIn_ns names
  obtain ⟨u, hu, ru⟩ := RelO.some_of (v := v) (o := mA f) (by rw [← l]; exact rel f)
  have J : PySem.W.InstAt s1.heap a oe C (some od) := by
    refine ⟨here, z.1, ?_, ?_⟩
    · unfold PySem.W.notCls
      rw [hd] <;> rfl
    · rw [z.2]
      exact ho
  refine HandSPX.exc_get I1.kIn J T.ga T.gg T.exC (PySem.W.findObj_own T.hdC no rfl ?_) (handed_of ru) ⟨v, H1, I1.tok _, ru, q⟩
  rw [looks, hu]
section
variable {K : PySem.W.Frag} {f : Str} {te : TE} {σ : L2.St} {H : Hp} {Qv : VK} {a C dd : Addr} {fs : List (Str × V)} {v : V}
theorem r_tFldX (q : te σ H fun x H1 => FldX K f x H1 Qv) : tFldX K f te σ H Qv := q
theorem r_fldX (h : H a = some (ExK (.ref C) (some dd) a)) (hd : H dd = some (.xd fs)) (T : XfC K C) (n : PySem.W.findIn K (.ref C) f = some none) (l : fs.lookup f = some v) (q : Qv v H) : FldX K f (.ref a) H Qv := ⟨a, C, dd, fs, v, rfl, h, hd, T, n, l, q⟩
end
/-- isinstance of a kept exception -/
def rIsK (K : PySem.W.Frag) : List V → Hp → VK → Prop := fun xs H Q => ∃ (a C : Addr) (d : Option Addr) (c : V) (cv : Value) (b : Bool), xs = [.ref a, c] ∧ H a = some (ExK (.ref C) d a) ∧ (∀ dd, d = some dd → ∃ fs, H dd = some (.xd fs)) ∧ (∀ u, RelV c u → u = cv) ∧ ExcC K C ∧ PySem.W.kitOne K (.ref C) cv = some b ∧ Q (.bl b) H
theorem call_isK {X : Cx} : CallR X (.builtin "isinstance") (rIsK X.K) := by
  intro pins s σ H xs us Q I r h
  obtain ⟨a, C, d, c, cv, b, rfl, ea, dd, hcv, T, e, q⟩ := h
  obtain ⟨u1, u2, rfl, r1, r2⟩ := r.two
  cases (show u1 = Value.ref a from r1)
  obtain rfl := hcv _ r2
  obtain ⟨oe, vs, here, z, hd⟩ := exK_at I ea
  have nc : PySem.W.notCls oe = true := by
    unfold PySem.W.notCls
    rw [hd] <;> rfl
  have J : ∃ od, PySem.W.InstAt s.heap a oe C od := by
    cases d with
    | none => exact ⟨none, here, z.1, nc, by rw [z.2]; trivial⟩
    | some d0 =>
      obtain ⟨fs, ed⟩ := dd d0 rfl
      obtain ⟨mA, names, _⟩ := (show ObjOk X.prog X.w H s.heap d0 (.xd fs) from I.hok d0 _ ed)
      obtain ⟨od, ho, _⟩ := lookIn_ns names
      exact ⟨some od, here, z.1, nc, by rw [z.2]; exact ho⟩
  obtain ⟨od, J⟩ := J
  have hcl : (PySem.W.clsIn X.K C).isSome = true := by
    obtain ⟨cd, hc, _⟩ := PySem.W.any_some T.hd
    rw [hc]
    rfl
  exact PySem.W.kia_one (PySem.W.kitx_exc hcl T.hg T.hk T.hs T.ha T.hn T.ht T.hm) I.kIn J e (fun z => nomatch z) fun tk => ⟨.bl b, H, I.kept (t' := tk) fun _ _ z => z, rfl, q⟩
def rIsU (K : PySem.W.Frag) : List V → Hp → VK → Prop := fun xs H Q => rIsi K xs H Q ∨ rIsK K xs H Q
theorem q_isi {X : Cx} : CallR X (.builtin "isinstance") (rIsU X.K) := cr_or call_isi call_isK
section
variable {K : PySem.W.Frag} {H : Hp} {a C D dd : Addr} {fs : List (Str × V)} {b : Bool} {Qv : VK}
theorem r_isuK (h : H a = some (ExK (.ref C) (some dd) a)) (hd : H dd = some (.xd fs)) (T : ExcC K C) (e : PySem.W.kitOne K (.ref C) (.ref D) = some b) (q : Qv (.bl b) H) : rIsU K [.ref a, .ref D] H Qv :=
  .inr ⟨a, C, some dd, .ref D, .ref D, b, rfl, h, fun d0 z => ⟨fs, by rw [← Option.some.inj z]; exact hd⟩, fun _ z => z, T, e, q⟩
theorem r_isuT {n : String} (h : H a = some (ExK (.ref C) (some dd) a)) (hd : H dd = some (.xd fs)) (T : ExcC K C) (e : PySem.W.kitOne K (.ref C) (.type n) = some b) (q : Qv (.bl b) H) : rIsU K [.ref a, .ty n] H Qv :=
  .inr ⟨a, C, some dd, .ty n, .type n, b, rfl, h, fun d0 z => ⟨fs, by rw [← Option.some.inj z]; exact hd⟩, fun _ z => z, T, e, q⟩
end
structure ErD (P : Program) (w : World) (K : PySem.W.Frag) (mg : Str → Option Value) (base : Heap) (x : Str) (C : Addr) (sp : Sp) : Prop where
  ex : ∃ (fI : Addr) (fd : FuncData) (ps : List Str), OexC K C ∧ PySem.W.findIn K (.ref C) "__init__" = some (some (.ref fI)) ∧ PySem.W.typeIn K (.ref fI) = some (.type "function") ∧ mg x = some (.ref C) ∧ Binds K fd ps [] ∧ FnOk P w K mg base CX0 1 fI fd ps sp
def tRaise (C : Addr) (sp : Sp) (ta : TA) (W : WX) : TS := fun _ σ H => tMkO C sp [] ta σ H fun cls d H' => W cls d σ H'
section
variable {X : Cx} {W : WX} {j : Nat} {C : Addr} {sp : Sp} {x : Str} {e : Expr} {es : List Expr} {ta : TA} {p pos pos2 : Pos}
theorem ps_raiseD (hc : X.calm = true) (tk : Takes X W) (D : ErD X.prog X.w X.K X.mg X.base x C sp) (hr : Room j X.A) (ha : PA X (e :: es) ta) (hj : 2 ≤ j := by decide) (hg : Gl X x := by rfl)
    (hdb : (x == ("__debug__" : Str)) = false := by decide) (he : starEach (e :: es) X.env = (false, eval e X.env) :: starEach es X.env := by rfl) (hpl : (backTo pos (starEach es X.env)).any (·.1) = false := by rfl) :
    PS X (.Raise (some (.Call (.Name x p) (e :: es) [] pos)) none pos2) (tRaise C sp ta W) := by
  obtain ⟨fI, fd, ps, h1, h2, h3, h4, h5, h6⟩ := D.ex
  exact ps_raise hc tk (pmk_oex (dvs := []) (ds := []) h1 h2 h3 h6 (hr.mono hj) h5 .nil pass0 hg h4 ha hdb he hpl)
end
def MkOGo (C : Addr) (sp : Sp) (vs : List V) (H : Hp) (Q : XK) : Prop := vs.length ≤ 1000 ∧ ∀ a, H a = none → sp (.ref a :: (vs ++ [])) (upd H a (exo a C none))
  (fun v H2 => v = .non ∧ ∃ (d : Addr) (fs : List (Str × V)), H2 a = some (exo a C (some d)) ∧ H2 d = some (exd d fs) ∧ H d = none ∧ Q (.ref C) (some d) (upd (L2.del H2 a) d (.xd fs))) (fun _ _ _ => False)
theorem r_tRaise {C : Addr} {sp : Sp} {ta : TA} {W : WX} {D : Ends} {σ : L2.St} {H : Hp} (q : ta σ H fun vs H1 => MkOGo C sp vs H1 fun cls d H' => W cls d σ H') : tRaise C sp ta W D σ H := q
def spErr2 (C : Addr) (f g : Str) : Sp := fun vs H Q _ => ∃ (a : Addr) (v u : V), vs = [.ref a, v, u] ∧ H a = some (exo a C none) ∧ ∀ dx, H dx = none → dx ≠ a → Q .non (upd (upd (upd H dx (exd dx [(f, v)])) a (exo a C (some dx))) dx (exd dx [(g, u), (f, v)]))
theorem heap_left' {H : Hp} {a dx : Addr} {o o' u u' x : HO} (ha : H a = none) (ne : dx ≠ a) : upd (L2.del (upd (upd (upd (upd H a o) dx u) a o') dx u') a) dx x = upd H dx x := by
  funext b
  by_cases h1 : b = dx
  · rw [h1, upd_same, upd_same]
  · rw [upd_ne h1, upd_ne h1]
    by_cases h2 : b = a
    · rw [h2, del_same, ha]
    · rw [del_ne h2, upd_ne h1, upd_ne h2, upd_ne h1, upd_ne h2]
section
variable {e : En} {G H : Hp} {M : List Addr} {C : Addr} {f g : Str} {v u : V} {Q : XK}
theorem u_raise2 (w : Wd e G H M) (k : ∀ d G' H', Wd e G' H' M → Same G G' → Same H H' → G' d = some (.xd [(g, u), (f, v)]) → Q (.ref C) (some d) H') : MkOGo C (spErr2 C f g) [v, u] H Q := by
  refine ⟨Nat.le_of_ble_eq_true rfl, fun a ha => ⟨a, v, u, rfl, upd_same, fun dx hd ne => ⟨rfl, dx, [(g, u), (f, v)], ?_, upd_same, ?_, ?_⟩⟩⟩
  · rw [upd_ne ne.symm, upd_same]
  · rw [upd_ne ne] at hd
    exact hd
  · rw [upd_ne ne] at hd
    rw [heap_left' ha ne]
    exact k dx _ _ (wd_lay w hd) (same_upd (w.g hd)) (same_upd hd) upd_same
end
section
variable {P : Program} {w : World} {K : PySem.W.Frag} {mg : Str → Option Value} {base : Heap} {x qual : Str} {st : Stmt} {f : Addr} {fd : FuncData} {N ps : List Str} {k : Nat} {sp : Sp} {dvs : List V}
theorem fnP_okX (F : FnP K x qual st dvs f fd) (S : FnScope N ps (defScope st)) (len : ∀ vs H Q E, sp vs H Q E → vs.length = ps.length)
    (body : ∀ (cdv : Value) (A : Around) (outer : List Env) (s : Shared) (H : Hp) (vs : List V) (Q : VK) (E : XK), Room k (A.deeper (envOfC qual (defScope st) s.heap.objs.size f cdv)) → sp vs H Q E →
      ∃ t, PSs (cxOf (L2.CX P w) P w K mg base N qual (defScope st) f cdv A outer s H E) (defBody st) t ∧ t { nx := fun _ H' => Q .non H', rt := Q } (start N vs) H) :
    FnOk P w K mg base (L2.CX P w) (k + 1) f fd ps sp := FunD.ok F S len body
end
abbrev takesD {P : Program} {w : World} {K : PySem.W.Frag} {mg : Str → Option Value} {base : Heap} {N : List Str} {qual : Str} {sc : Scope} {f : Addr} {cdv : Value} {A : Around} {outer : List Env} {s : Shared} {H : Hp} {E : XK} :
    Takes (cxOf (L2.CX P w) P w K mg base N qual sc f cdv A outer s H E) (fun cls d _ H' => E cls d H') := takes_of rfl rfl rfl rfl
theorem passD {P : Program} {w : World} {K : PySem.W.Frag} {mg : Str → Option Value} {base : Heap} {N : List Str} {qual : Str} {sc : Scope} {f : Addr} {cdv : Value} {A : Around} {outer : List Env} {s : Shared} {H : Hp} {E : XK} :
    Passes (L2.CX P w) (cxOf (L2.CX P w) P w K mg base N qual sc f cdv A outer s H E) E := passes_call (W := fun cls d _ H' => E cls d H') (takes_of rfl rfl rfl rfl) fun _ _ _ _ h => h
theorem ok_err2 {P : Program} {w : World} {K : PySem.W.Frag} {mg : Str → Option Value} {base : Heap} {C : Addr} {qual fl1 fl2 : Str} {st : Stmt} {f : Addr} {fd : FuncData} (F : FnP K "__init__" qual st [] f fd) (S : FnScope [("self" : Str), fl1, fl2] [("self" : Str), fl1, fl2] (defScope st)) (T : OexC K C)
    (no1 : PySem.W.findIn K (.ref C) fl1 = some none) (no2 : PySem.W.findIn K (.ref C) fl2 = some none)
    (body : ∀ X : Cx, X.N = [("self" : Str), fl1, fl2] → X.env.scope = defScope st → PSs X (defBody st) (tSeq (tOst X.K fl1 (tVar 0) (tVar 1)) (tOst X.K fl2 (tVar 0) (tVar 2)))) : FnOk P w K mg base CX0 1 f fd [("self" : Str), fl1, fl2] (spErr2 C fl1 fl2) := by
  refine fnP_ok F S (fun vs H Q E h => ?_) (fun cdv A outer s H vs Q E hr h => ?_)
  · obtain ⟨a, v, u, rfl, _⟩ := h
    rfl
  · obtain ⟨a, v, u, rfl, ha, k⟩ := h
    refine ⟨_, body _ rfl rfl, ?_⟩
    refine ⟨v, rfl, .ref a, rfl, a, C, rfl, T, no1, .inl ⟨ha, fun dx hd ne => ?_⟩⟩
    refine ⟨u, rfl, .ref a, rfl, a, C, rfl, T, no2, .inr ⟨dx, [(fl1, v)], upd_same, ?_, Nat.le_of_ble_eq_true rfl, k dx hd ne⟩⟩
    rw [upd_ne ne, upd_same]
end Q
namespace Q
open PySem PySem.Spec PyProof.Rows L2
end Q
namespace Q
open PySem PySem.Spec PyProof.Rows L2
theorem app_list (a b : Str) : (a ++ b).cps.toList = a.cps.toList ++ b.cps.toList := by
  show (a.cps ++ b.cps).toList = _
  simp
theorem len_list (a : Str) : a.length = a.cps.toList.length := by simp [Str.length]
/-- a letter, then letters and figures, m at most -/
def NmPre (z : Str) (m : Nat) : Prop := ∃ c r, z.cps.toList = c :: r ∧ letB c = true ∧ (∀ d ∈ r, (letB d || figB d) = true) ∧ z.length ≤ m
theorem NmPre.one {c : Nat} (h : c ∈ zLetters.cps.toList) : NmPre ⟨#[c]⟩ 1 := ⟨c, [], rfl, decide_eq_true h, fun _ h => (by cases h), Nat.le_refl _⟩
theorem NmPre.more {z : Str} {m k : Nat} (h : NmPre z m) (hk : m ≤ k) : NmPre z k := by
  obtain ⟨a, r, e1, e2, e3, e4⟩ := h
  exact ⟨a, r, e1, e2, e3, Nat.le_trans e4 hk⟩
theorem NmPre.ok {z : Str} (h : NmPre z 8) (n : inV (.str z) resV = false) : nmOk z = true := by
  obtain ⟨a, r, e1, e2, e3, e4⟩ := h
  have l1 : 1 ≤ z.length := by
    rw [len_list, e1]
    simp
  unfold nmOk
  rw [n, decide_eq_true l1, decide_eq_true e4, e1]
  have all : (a :: r).all (fun c => letB c || figB c) = true := by
    rw [List.all_cons, e2, Bool.true_or, Bool.true_and]
    exact List.all_eq_true.mpr e3
  rw [all]
  show (true && true && (!false && (letB a && true))) = true
  rw [e2]
  rfl
theorem cut1 {z : Str} {c : Nat} {r : List Nat} (h : z.cps.toList = c :: r) : (cutS z (some 1) none).cps.toList = r := by
  have l : z.length = r.length + 1 := by
    rw [len_list, h]
    simp
  unfold cutS
  rw [h]
  have s1 : HT.sIx z.length 0 (some 1) = 1 := by
    have := HT.sIx_nat z.length 0 1
    rw [show (some (1 : Int)) = some ((1 : Nat) : Int) from rfl, this]
    omega
  rw [s1, HT.sIx_none, l]
  simp
theorem x_free {z : Str} {r : List Nat} (h : z.cps.toList = 120 :: r) : inV (.str z) resV = false := by
  unfold inV
  rw [List.any_eq_false]
  intro y hy
  obtain ⟨s, hs, rfl⟩ := List.mem_map.mp hy
  have no : ∀ s ∈ resS, s.cps.toList.head? ≠ some 120 := by decide
  show ¬ (s == z) = true
  intro e
  have e2 : s = z := eq_of_beq e
  have n := no s hs
  rw [e2, h] at n
  exact n rfl
theorem NmPre.x {z : Str} (h : NmPre z 8) : nmOk (Str.ofString "x" ++ cutS z (some 1) none) = true := by
  obtain ⟨a, r, e1, e2, e3, e4⟩ := h
  have hx : (Str.ofString "x" ++ cutS z (some 1) none).cps.toList = 120 :: r := by
    rw [app_list, cut1 e1]
    rfl
  have lz : z.length = r.length + 1 := by
    rw [len_list, e1]
    simp
  refine NmPre.ok ⟨120, r, hx, by decide, e3, ?_⟩ (x_free hx)
  rw [len_list, hx]
  simp
  omega
theorem r_slS {z : Str} {lo hi : Option Int} {H : Hp} {Qv : VK} (h : z.length ≤ sizeLine) (q : Qv (.str (cutS z lo hi)) H) : rSlS (.str z) lo hi H Qv := ⟨z, rfl, h, q⟩
end Q
namespace Q
open PySem PySem.Spec PyProof.Rows L2
/-- what is known of an error's class that is heard -/
structure HdC (K : PySem.W.Frag) (C : Addr) (f : Str) : Prop where
  x : XfC K C
  e : ExcC K C
  n : PySem.W.findIn K (.ref C) f = some none
  v : PySem.W.kitOne K (.ref C) (.type "ValueError") = some true
end Q
namespace Q
open PySem PySem.Spec PyProof.Rows L2
/-- C.m is a static method: its record at p, its def at g -/
structure CStat (K : PySem.W.Frag) (C : Addr) (mc : Value) (m : Str) (p g : Addr) : Prop where
  at_ : PySem.W.findCls K (.ref C) mc m = some (.get (.builtin "staticmethod.__get__") (.ref p) .none (.ref C))
  rc : ∃ rest, PySem.W.recIn K p "staticmethod" = some (.ref g :: rest)
  kp : PySem.W.keepIn K (.ref g) = true
structure StD (P : Program) (w : World) (K : PySem.W.Frag) (mg : Str → Option Value) (base : Heap) (CX : CXT) (k : Nat) (C : Addr) (m : Str) (sp : Sp) : Prop where
  ex : ∃ (mc : Value) (p g : Addr) (fd : FuncData) (ps : List Str), ClX.CRead K C mc ∧ CStat K C mc m p g ∧ Binds K fd ps [] ∧ FnOk P w K mg base CX k g fd ps sp
def StatGo (C : Addr) (x : V) (R : Prop) : Prop := x = .ref C ∧ R
def tStat (C : Addr) (sp : Sp) (E : XK) (ta : TE) (t : TA) : TE := fun σ H Q => ta σ H fun x H1 => StatGo C x (t σ H1 fun vs H2 => sp vs H2 Q E)
def tStatK (C : Addr) (n : Nat) (sp : Sp) (E : XK) (ta : TE) (t : TA) (gV : List V → List V → List V) : TE := fun σ H Q => ta σ H fun x H1 => StatGo C x (t σ H1 fun zs H2 => zs.length = n ∧ sp (gV [] zs) H2 Q E)
section
variable {X : Cx} {CX : CXT} {k j : Nat} {C p g : Addr} {mc : Value} {sp : Sp} {E : XK} {o e : Expr} {es : List Expr} {m : Str} {pos apos : Pos} {ta : TE} {t : TA} {pl : Sem Bool} {ks : List Str} {kws : List Keyword} {gV : List V → List V → List V}
theorem get_stat {pins : List (Addr × Obj)} {σ : L2.St} {H : Hp} {s : Shared} {A : Around} {Ex : Value → Shared → Prop} {Q : Value × List Value → Shared → Prop} (I : Inv X pins σ H s) (r : ClX.CRead X.K C mc) (c : CStat X.K C mc m p g)
    (h : ∀ s', Inv X pins σ H s' → Q (.ref g, []) s') : wpAny (model X.prog X.w) A (getMethod (.ref C) m pl) Q Ex s := by
  obtain ⟨rest, hp⟩ := c.rc
  refine PySem.W.method_cls I.kIn r.ga (PySem.W.cls_bind I.kIn r.rd c.at_ ?_)
  exact wpAny_call (PySem.W.sm_get (s := { s with toks := s.toks + 1 }) I.kIn hp (PySem.W.handed_on rfl (h _ (I.tok _))))
theorem pe_statD (he : PE X o ta) (D : StD X.prog X.w X.K X.mg X.base CX k C m sp) (hr : Room j X.A) (hx : Passes CX X E) (ha : PA X (e :: es) t) (hj : k ≤ j := by decide)
    (hst : starEach (e :: es) X.env = (false, eval e X.env) :: starEach es X.env := by rfl) (hpl : (backTo pos (starEach es X.env)).any (·.1) = false := by rfl)
    (ht : eval (.Call (.Attribute o m apos) (e :: es) [] pos) X.env = (do
      let ov ← eval o X.env
      standAt apos.atName
      let (f, first) ← holding [ov] (getMethod ov m pl)
      callWith pos f first (backTo pos (starEach (e :: es) X.env)) (backToKw pos (keywordEach [] X.env))) := by rfl) : PE X (.Call (.Attribute o m apos) (e :: es) [] pos) (tStat C sp E ta t) := by
  obtain ⟨mc, p, g, fd, ps, r, c, hb, F⟩ := D.ex
  refine ⟨fun pins s σ H Q I h => ?_⟩
  refine PySem.W.methodCall_KW (pl := pl) (thn (he.run pins s σ H _ I h) fun u s1 told => ?_) ht
  obtain ⟨x, H1, I1, rx, ex, q⟩ := told
  subst ex
  obtain rfl : u = Value.ref C := rx
  refine get_stat I1 r c fun s2 I2 => ?_
  refine PySem.W.callWith_K (first := []) (h₀ := X.base) I2.ok.mod.kin c.kp (thn (ha.run pos pins s2 σ H1 _ I2 q) fun us s3 told => ?_) hst hpl
  obtain ⟨vs, H2, I3, rv, q2⟩ := told
  exact ⟨I3.kIn, run_under (us := us) (vs := vs) F (hr.mono hj) I3.env0 hb hx I3 rv q2⟩
end
section
variable {C : Addr} {sp : Sp} {E : XK} {ta : TE} {t : TA} {σ : L2.St} {H : Hp} {Qv : VK} {n : Nat} {gV : List V → List V → List V}
theorem r_tStat (q : ta σ H fun x H1 => StatGo C x (t σ H1 fun vs H2 => sp vs H2 Qv E)) : tStat C sp E ta t σ H Qv := q
theorem r_tStatK (q : ta σ H fun x H1 => StatGo C x (t σ H1 fun zs H2 => zs.length = n ∧ sp (gV [] zs) H2 Qv E)) : tStatK C n sp E ta t gV σ H Qv := q
theorem r_stat {R : Prop} (q : R) : StatGo C (.ref C) R := ⟨rfl, q⟩
end
end Q
namespace Q
open PySem PySem.Spec PyProof.Rows L2
mutual
inductive Dq (K : PySem.W.Frag) (H : Hp) : V → PyData → Prop
  | non : Dq K H .non .none
  | bl (b : Bool) : Dq K H (.bl b) (.bool b)
  | int (i : Int) : Dq K H (.int i) (.int i)
  | str (x : Str) : Dq K H (.str x) (.str x)
  | lst {a : Addr} {xs : List V} {ds : List PyData} (h : SqL K H a xs) (r : DqAll K H xs ds) : Dq K H (.ref a) (.list ds)
  | tup {a : Addr} {xs : List V} {ds : List PyData} (h : SqT K H a xs) (r : DqAll K H xs ds) : Dq K H (.ref a) (.tuple ds)
  | dic {a : Addr} {kvs : List (Key × V)} {ds : List (PyData × PyData)} (h : Rd H a (.dK kvs)) (k : DqAll K H (kvs.map fun p => kV p.1) (ds.map (·.1))) (r : DqAll K H (kvs.map (·.2)) (ds.map (·.2))) : Dq K H (.ref a) (.dict ds)
inductive DqAll (K : PySem.W.Frag) (H : Hp) : List V → List PyData → Prop
  | nil : DqAll K H [] []
  | cons {v : V} {vs : List V} {d : PyData} {ds : List PyData} (h : Dq K H v d) (r : DqAll K H vs ds) : DqAll K H (v :: vs) (d :: ds)
end
theorem sz_fst : ∀ ds : List (PyData × PyData), sizeOf (ds.map (·.1)) ≤ sizeOf ds
  | [] => by simp
  | (a, b) :: r => by
    have := sz_fst r
    simp at this ⊢
    omega
theorem sz_snd : ∀ ds : List (PyData × PyData), sizeOf (ds.map (·.2)) ≤ sizeOf ds
  | [] => by simp
  | (a, b) :: r => by
    have := sz_snd r
    simp at this ⊢
    omega
theorem rd_same {H H' : Hp} {a : Addr} {u : HO} (s : Same H H') (h : Rd H a u) : Rd H' a u := h.elim (fun e => .inl (s _ _ e)) fun ⟨o, e⟩ => .inr ⟨o, s _ _ e⟩
theorem same_dqAll {K : PySem.W.Frag} {H H' : Hp} (s : Same H H') : ∀ (n : Nat), (∀ d x, sizeOf d ≤ n → Dq K H x d → Dq K H' x d) ∧ (∀ ds vs, sizeOf ds ≤ n → DqAll K H vs ds → DqAll K H' vs ds) := by
  intro n
  induction n with
  | zero => exact ⟨fun d x hn h => (by cases d <;> simp at hn), fun ds vs hn h => (by cases ds <;> simp at hn)⟩
  | succ n ih =>
    have h1 : ∀ d x, sizeOf d ≤ n + 1 → Dq K H x d → Dq K H' x d := by
      intro d x hn h
      cases h with
      | non => exact .non
      | bl b => exact .bl b
      | int i => exact .int i
      | str x => exact .str x
      | lst hs ha => exact .lst (s.seq hs) (ih.2 _ _ (by simp at hn; omega) ha)
      | tup hs ha => exact .tup (same_sqT s hs) (ih.2 _ _ (by simp at hn; omega) ha)
      | dic h k r =>
        rename_i ds
        have h1 := sz_fst ds
        have h2 := sz_snd ds
        exact .dic (rd_same s h) (ih.2 _ _ (by simp at hn; omega) k) (ih.2 _ _ (by simp at hn; omega) r)
    refine ⟨h1, fun ds vs hn h => ?_⟩
    cases h with
    | nil => exact .nil
    | cons a b => exact .cons (h1 _ _ (by simp at hn; omega) a) (ih.2 _ _ (by simp at hn; omega) b)
theorem same_dq {K : PySem.W.Frag} {H H' : Hp} (s : Same H H') {x : V} {d : PyData} (h : Dq K H x d) : Dq K H' x d := (same_dqAll s (sizeOf d)).1 d x (Nat.le_refl _) h
end Q
namespace Q
open PySem PySem.Spec PyProof.Rows L2
section
variable {P : Program} {w : World} {K : PySem.W.Frag} {mg mb : Str → Option Value} {CX : CXT} {k : Nat} {fa a : Addr} {fd : FuncData} {x : Str} {sp : Sp} {s₁ : Shared} {vs : List Value} {ns : List Int} {cs : List (Addr × Addr)}
abbrev emptyT : Obj := { cls := .none, data := .fields #[] }
def isTab (cs : List (Addr × Addr)) (b : Addr) : Prop := ∃ p ∈ cs, p.2 = b
theorem from_heapT (Hh : Hp) (KX : K.In s₁.heap) (hns : s₁.heap.Ns mainGlobals mg) (hb : s₁.heap.Ns builtinsNs mb)
    (hbb : ∀ y : Str, y ≠ "__name__" → mb y = bootBuiltins y) (hlim : s₁.heap.NoLimit) (hg : s₁.gens = #[])
    (bmain : ∃ (bm : Addr) (ob : Obj), mg "__builtins__" = some (.ref bm) ∧ bm ≠ builtinsNs ∧ s₁.heap.get? bm = some ob ∧ ob.cls = .type "module" ∧ ob.dict = some builtinsNs ∧ ob.data = .plain)
    (hobj : s₁.heap.get? a = some { cls := .type "list", data := .seq vs.toArray }) (hr : Room k callerA)
    (hd : ∀ p ∈ cs, PySem.W.codeHdIn K p.1 p.2 = true) (off : ∀ p ∈ cs, K.lookup p.2 = none) (empty : ∀ p ∈ cs, s₁.heap.get? p.2 = some emptyT)
    (F : ∀ b0 : Heap, K.In b0 → b0.Ns mainGlobals mg → (∀ p ∈ cs, LamX.TabB b0 mg p.1 p.2) → FnA P w K mg b0 CX k fa fd [x] sp)
    (hbind : ∀ (s : Shared) (u : Value), BindsTo s fd ⟨[u], []⟩ [(x, u)]) (told : HOk P w Hh s₁.heap)
    (only : ∀ b, Hh b = none ∨ isTab cs b ∨ ∃ o xs, Hh b = some (.frz o (.lst xs))) (tabs : ∀ p ∈ cs, Hh p.2 = some (.tbl #[]))
    (hsp : sp [.ref a] Hh (fun v _ => v = .bl true) fun _ _ _ => False) (hCX : ∀ e s', CX [] Hh s₁ (fun _ _ _ => False) e s' → False)
    (alone : ∀ b, Hh b ≠ none → b = a ∨ isTab cs b) (apart : Hh a ≠ none → K.lookup a = none) :
    codeAny (model P w) callerA (.call (.ref fa) ⟨[.ref a], []⟩) (fun r t => r = .ok (.ret (.bool true)) ∧ OldK s₁.heap t.heap ∧ t.os = s₁.os ∧ AllBare t.gens) s₁ := by
  let base := hidT s₁.heap Hh
  have seen : ∀ {b : Addr} {o : Obj}, s₁.heap.get? b = some o → Hh b = none → base.get? b = some o := fun z n => hidT_get z n
  have other : ∀ {b : Addr} {o : Obj}, s₁.heap.get? b = some o → (∀ us n, o.data ≠ .seq us n) → o.data ≠ .fields #[] → Hh b = none := by
    intro b o z n1 n2
    by_cases q : Hh b = none
    · exact q
    · rcases alone b q with e | ⟨p, hp, e⟩
      · rw [e, hobj] at z
        obtain rfl := Option.some.inj z
        exact absurd rfl (n1 _ _)
      · rw [← e, empty p hp] at z
        obtain rfl := Option.some.inj z
        exact absurd rfl n2
  have dicts : ∀ {b : Addr} {o : Obj} {es : Array DictEntry} {ep : Nat}, s₁.heap.get? b = some o → o.data = .dict es ep → Hh b = none := fun {b o es ep} z d =>
    other z (fun us n y => by rw [d] at y; cases y) fun y => by rw [d] at y; cases y
  have names : ∀ {b : Addr} {m : Str → Option Value}, s₁.heap.Ns b m → base.Ns b m := by
    rintro b m ⟨o, es, ep, z, d, r⟩
    exact ⟨o, es, ep, seen z (dicts z d), d, r⟩
  have inB : K.In base := by
    intro b o z
    refine seen (KX b o z) ?_
    by_cases q : Hh b = none
    · exact q
    · rcases alone b q with e | ⟨p, hp, e⟩
      · rw [e] at z q
        rw [apart q] at z
        cases z
      · rw [← e, off p hp] at z
        cases z
  obtain ⟨mc, l1, l2⟩ := hlim
  have md : Mod K mg base := ⟨inB, names hns, ⟨mb, names hb, hbb⟩, ⟨mc, names l1, l2⟩⟩
  have TB : ∀ p ∈ cs, LamX.TabB base mg p.1 p.2 := by
    intro p hp
    have notG : mainGlobals ≠ p.2 := fun e => by
      obtain ⟨o, es, ep, z, d, _⟩ := hns
      rw [e, empty p hp] at z
      obtain rfl := Option.some.inj z
      cases d
    obtain ⟨bm, ob, b1, b2, b3, b4, b5, b6⟩ := bmain
    have bg : bm ≠ mainGlobals := fun e => by
      obtain ⟨o, es, ep, z, d, _⟩ := hns
      rw [e, z] at b3
      obtain rfl := Option.some.inj b3
      rw [d] at b6
      cases b6
    have bp : bm ≠ p.2 := fun e => by
      rw [e, empty p hp] at b3
      obtain rfl := Option.some.inj b3
      cases b6
    have bo : base.get? bm = some ob := seen b3 (other b3 (fun us n y => by rw [b6] at y; cases y) fun y => by rw [b6] at y; cases y)
    exact ⟨PySem.W.codeHd_of_K inB (hd p hp), ⟨bm, ob, b1, b2, bg, bp, bo, b4, b5, b6⟩, notG⟩
  have env : Env0 P w K mg base callerA [] s₁ Hh := by
    refine ⟨rfl, md, fun b o z => of_hidT z, Nat.le_of_eq (hidT_size _ _), trivial, fun b z => ?_, told, .of_eq hg⟩
    exact absurd (show b ∈ ([] : List Addr) from z) (by simp)
  have go := (F base inB (names hns) TB).run callerA [] s₁ Hh ⟨[.ref a], []⟩ [.ref a] [.ref a] _ _ g0_caller hr env (hbind s₁ (.ref a)) (.cons rfl .nil) hsp
  refine codeAny_mono go fun r t h => ?_
  match r, h with
  | .error e, h => exact (hCX e t h).elim
  | .ok .next, h => exact h.elim
  | .ok .brk, h => exact h.elim
  | .ok .cont, h => exact h.elim
  | .ok (.ret u), h =>
    obtain ⟨v, H', os, bare, un, told', ru, q⟩ := h
    have q' : v = .bl true := q
    subst q'
    obtain rfl : u = Value.bool true := ru
    have grown : ∀ p ∈ cs, ∃ more : Array Value, t.heap.get? p.2 = some { cls := .none, data := .fields more } := by
      intro p hp
      obtain ⟨more, y⟩ := un.tbls p.2 #[] (tabs p hp)
      exact ⟨_, told' p.2 _ y⟩
    have stays : ∀ b o, ¬ isTab cs b → s₁.heap.get? b = some o → t.heap.get? b = some o := by
      intro b o nt z
      by_cases n : Hh b = none
      · exact un.keep b o z n (by intro y; exact absurd (show b ∈ ([] : List Addr) from y) (by simp)) (by simp)
      · rcases only b with y | y | ⟨ob, xs, y⟩
        · exact absurd y n
        · exact absurd y nt
        · obtain ⟨e1, _⟩ := told b _ y
          obtain ⟨e2, _⟩ := told' b _ (un.frzs b ob _ y)
          rw [z] at e1
          obtain rfl := Option.some.inj e1
          exact e2
    refine ⟨rfl, ⟨fun b o z => ?_, fun b o z => ?_⟩, os, bare⟩
    · by_cases tb : isTab cs b
      · obtain ⟨p, hp, e⟩ := tb
        subst e
        obtain ⟨more, hm⟩ := grown p hp
        rw [empty p hp] at z
        obtain rfl := Option.some.inj z
        have code := (PySem.W.codeHd_of_K KX (hd p hp)).tab (empty p hp)
        exact .inr (.inl ⟨code.isCodeTable, rfl, #[], more, rfl, by rw [Array.empty_append]; exact hm⟩)
      · exact .inl (stays b o tb z)
    · by_cases tb : isTab cs b
      · obtain ⟨p, hp, e⟩ := tb
        subst e
        obtain ⟨more, hm⟩ := grown p hp
        exact ⟨_, hm⟩
      · exact ⟨o, stays b o tb z⟩
/-- nothing but the script and the tables is told -/
def OnlyT (cs : List (Addr × Addr)) (H : Hp) : Prop := ∀ b, H b = none ∨ isTab cs b ∨ ∃ o xs, H b = some (.frz o (.lst xs))
theorem end_AT (KX : K.In s₁.heap) (hns : s₁.heap.Ns mainGlobals mg) (hb : s₁.heap.Ns builtinsNs mb)
    (hbb : ∀ y : Str, y ≠ "__name__" → mb y = bootBuiltins y) (hlim : s₁.heap.NoLimit) (hg : s₁.gens = #[])
    (bmain : ∃ (bm : Addr) (ob : Obj), mg "__builtins__" = some (.ref bm) ∧ bm ≠ builtinsNs ∧ s₁.heap.get? bm = some ob ∧ ob.cls = .type "module" ∧ ob.dict = some builtinsNs ∧ ob.data = .plain)
    (hobj : s₁.heap.get? a = some { cls := .type "list", data := .seq vs.toArray }) (hi : IntsAre vs ns) (hl : ns.length ≤ sizeLine) (hr : Room k callerA)
    (hd : ∀ p ∈ cs, PySem.W.codeHdIn K p.1 p.2 = true) (off : ∀ p ∈ cs, K.lookup p.2 = none) (empty : ∀ p ∈ cs, s₁.heap.get? p.2 = some emptyT)
    (F : ∀ b0 : Heap, K.In b0 → b0.Ns mainGlobals mg → (∀ p ∈ cs, LamX.TabB b0 mg p.1 p.2) → FnA P w K mg b0 CX k fa fd [x] sp)
    (hbind : ∀ (s : Shared) (u : Value), BindsTo s fd ⟨[u], []⟩ [(x, u)])
    (hsp : ∀ Hh : Hp, OnlyT cs Hh → (∀ p ∈ cs, Hh p.2 = some (.tbl #[])) → SqL K Hh a (ns.map V.int) → sp [.ref a] Hh (fun v _ => v = .bl true) fun _ _ _ => False)
    (hCX : ∀ Hh e s', CX [] Hh s₁ (fun _ _ _ => False) e s' → False) :
    codeAny (model P w) callerA (.call (.ref fa) ⟨[.ref a], []⟩) (fun r t => r = .ok (.ret (.bool true)) ∧ OldK s₁.heap t.heap ∧ t.os = s₁.os ∧ AllBare t.gens) s₁ := by
  have rv := vals_ints hi
  have nv := hi.length
  have dec : ∀ b, Decidable (isTab cs b) := fun b => Classical.propDecidable _
  have notA : ¬ isTab cs a := fun ⟨p, hp, e⟩ => by
    have z := empty p hp
    rw [e, hobj] at z
    have y : Data.seq vs.toArray _ = Data.fields #[] := congrArg Obj.data (Option.some.inj z)
    cases y
  let H0 : Hp := fun b => @ite _ (isTab cs b) (dec b) (some (.tbl #[])) none
  have on : ∀ b, isTab cs b → H0 b = some (.tbl #[]) := fun b h => if_pos h
  have no : ∀ b, ¬ isTab cs b → H0 b = none := fun b h => if_neg h
  have tabOk : ∀ (Hh : Hp) b, isTab cs b → ObjOk P w Hh s₁.heap b (.tbl #[]) := fun Hh b ⟨p, hp, e⟩ => by
    rw [← e]
    exact empty p hp
  by_cases q : ∃ o, K.lookup a = some o
  · obtain ⟨o, lk⟩ := q
    have z := KX a o lk
    rw [hobj] at z
    obtain rfl := Option.some.inj z
    have only : OnlyT cs H0 := fun b => by
      by_cases n : isTab cs b
      · exact .inr (.inl n)
      · exact .inl (no b n)
    refine from_heapT H0 KX hns hb hbb hlim hg bmain hobj hr hd off empty F hbind (fun b u y => ?_) only (fun p hp => on _ ⟨p, hp, rfl⟩) (hsp _ only (fun p hp => on _ ⟨p, hp, rfl⟩) (.inr ⟨_, vs.toArray, _, lk, rfl, rfl, rfl, ?_, ?_⟩)) (hCX _) (fun b y => ?_) fun y => absurd (no a notA) y
    · by_cases n : isTab cs b
      · rw [on b n] at y
        rw [← Option.some.inj y]
        exact tabOk _ b n
      · rw [no b n] at y
        cases y
    · rw [List.size_toArray, nv]; exact hl
    · simpa using rv
    · by_cases n : isTab cs b
      · exact .inr n
      · exact absurd (no b n) y
  · have lk : K.lookup a = none := by
      cases z : K.lookup a with
      | none => rfl
      | some o => exact absurd ⟨o, z⟩ q
    let Hh : Hp := upd H0 a (.frz { cls := .type "list", data := .seq vs.toArray } (.lst (ns.map V.int)))
    have at_a : Hh a = some (.frz { cls := .type "list", data := .seq vs.toArray } (.lst (ns.map V.int))) := upd_same
    have atT : ∀ p ∈ cs, Hh p.2 = some (.tbl #[]) := fun p hp => by
      show upd H0 a _ p.2 = _
      rw [upd_ne (fun e => notA ⟨p, hp, e⟩)]
      exact on _ ⟨p, hp, rfl⟩
    have atO : ∀ b, b ≠ a → Hh b = H0 b := fun b n => upd_ne n
    have only : OnlyT cs Hh := fun b => by
      by_cases n : b = a
      · exact .inr (.inr ⟨_, _, by rw [n]; exact at_a⟩)
      · by_cases m : isTab cs b
        · exact .inr (.inl m)
        · exact .inl (by rw [atO b n]; exact no b m)
    refine from_heapT Hh KX hns hb hbb hlim hg bmain hobj hr hd off empty F hbind (fun b u y => ?_) only atT (hsp _ only atT (.inl (.inr ⟨_, at_a⟩))) (hCX _) (fun b y => ?_) fun _ => lk
    · by_cases n : b = a
      · rw [n, at_a] at y
        obtain rfl := Option.some.inj y
        rw [n]
        exact ⟨hobj, by rw [List.length_map]; exact hl, vs, _, rv, hobj⟩
      · rw [atO b n] at y
        by_cases m : isTab cs b
        · rw [on b m] at y
          rw [← Option.some.inj y]
          exact tabOk _ b m
        · rw [no b m] at y
          cases y
    · by_cases n : b = a
      · exact .inl n
      · rw [atO b n] at y
        by_cases m : isTab cs b
        · exact .inr m
        · exact absurd (no b m) y
end
theorem walk_ofAT {l : PySem.W.OpenLaw} {n k : Nat} {q : Program} {loose : List Str} {XP : (Str → Option Value) → Heap → Prop} {YP : World → Heap → Prop} {d : DefRec} {CX : CXT} {x : Str}
    (hn : l.most = some n) (hn2 : n ≤ sizeLine) (hdf : d.params.defaults = []) (hr : Room k callerA)
    (F : ∀ (w : World) (mg : Str → Option Value) (fa : Addr) (h : Heap), YP w h → h.Ns mainGlobals mg → mg d.name = some (.ref fa) →
      ∃ (K : PySem.W.Frag) (fd : FuncData) (cs : List (Addr × Addr)) (sp : Sp), K.In h ∧ (∀ p ∈ cs, PySem.W.codeHdIn K p.1 p.2 = true) ∧ (∀ p ∈ cs, K.lookup p.2 = none) ∧ (∀ p ∈ cs, h.get? p.2 = some emptyT) ∧ (∀ (s : Shared) (u : Value), BindsTo s fd ⟨[u], []⟩ [(x, u)]) ∧
        (∀ (Hh : Hp) (a : Addr) (ns : List Int), ns.length ≤ n → OnlyT cs Hh → (∀ p ∈ cs, Hh p.2 = some (.tbl #[])) → SqL K Hh a (ns.map V.int) → sp [.ref a] Hh (fun v _ => v = .bl true) fun _ _ _ => False) ∧
        ∀ b0 : Heap, K.In b0 → b0.Ns mainGlobals mg → (∀ p ∈ cs, LamX.TabB b0 mg p.1 p.2) → FnA l.prog w K mg b0 CX k fa fd [x] sp)
    (hCX : ∀ (Hh : Hp) (s : Shared) (e : Value) (s' : Shared), CX [] Hh s (fun _ _ _ => False) e s' → False) :
    PySem.W.WalkO q loose XP YP l.row.toRowW d [] (fun f vs => PySem.call f vs) := by
  refine Att.attach_call hn hdf fun w s₀ s₁ mg mb fa o pm cd doc a vs ns G Y ho hd hcd hmg hobj hints hlen hg => ?_
  obtain ⟨K, fd, cs, sp, KX, h1, h2, h3, hb, hsp, hF⟩ := F w mg fa _ Y G.T.g hmg
  refine end_AT KX G.T.g G.T.b G.T.builtins G.T.nolimit hg G.T.bmain hobj hints (Nat.le_trans hlen hn2) hr h1 h2 h3 hF hb ?_ fun Hh e s' => hCX Hh s₁ e s'
  exact fun Hh hO hT hS => hsp Hh a ns hlen hO hT hS
def codeA (K : PySem.W.Frag) (f : Addr) : Addr := match K.lookup f with
  | some ⟨_, _, .func fd, _⟩ => (match fd.code with
    | .ref c => c
    | _ => 0)
  | _ => 0
/-- the code object of the def at f, its table -/
def cTA (K : PySem.W.Frag) (f : Addr) : Addr × Addr := (codeA K f, He.tabOf K (codeA K f))
def tabsQ (g : Addr → Option Obj) (tf : List (PySem.W.Frag → Addr)) (K : PySem.W.Frag) : Bool := tf.all fun p => PySem.W.codeHdIn K (cTA K (p K)).1 (cTA K (p K)).2 && (match g (cTA K (p K)).2 with
  | some o => He.emptyTab o
  | none => false)
abbrev AlR : Type := He.AlD × Bool
structure SaysR (fa : List He.Fa) (fn : List He5.DefA) (tf : List (PySem.W.Frag → Addr)) (ex : PySem.W.Frag → Bool) (h : Heap) (K : PySem.W.Frag) : Prop where
  t : He5.SaysA fa fn K
  more : ex K = true
  hd : ∀ p ∈ tf, PySem.W.codeHdIn K (cTA K (p K)).1 (cTA K (p K)).2 = true
  out : ∀ p ∈ tf, K.lookup (cTA K (p K)).2 = none
  empty : ∀ p ∈ tf, h.get? (cTA K (p K)).2 = some emptyT
end Q
namespace Q
open PySem PySem.Spec PyProof.Rows L2
theorem passX0 {X : Cx} {P : Program} {w : World} : Passes (L2.CX P w) X E0 := fun _ _ _ _ _ _ _ h => by
  obtain ⟨_, _, _, _, _, _, _, _, _, _, _, _, z⟩ := h
  exact z.elim
/-- an instance is made by keywords -/
def MakeGoK (C : Addr) (sp : Sp) (gV : List V → List V → List V) (vs zs : List V) (E : XK) (H : Hp) (Q : VK) : Prop := ∀ x dx, H x = none → H dx = none → dx ≠ x → sp (gV (.ref x :: vs) zs) (upd (upd H dx (.own x)) x (.ins C dx [])) (fun v H2 => v = .non ∧ Q (.ref x) H2) E
theorem r_tMakeK {C : Addr} {n m : Nat} {sp : Sp} {gV : List V → List V → List V} {E : XK} {t tk : TA} {σ : L2.St} {H : Hp} {Q : VK} (q : t σ H fun vs H1 => tk σ H1 fun zs H2 => vs.length = n ∧ zs.length = m ∧ MakeGoK C sp gV vs zs E H2 Q) : tMakeK C n m sp gV E t tk σ H Q := q
/-- an odd value, told: its data, its kinds -/
structure Odd (K : PySem.W.Frag) (G : Hp) (v : V) (d : PyData) : Prop where
  dq : Dq K G v d
  kd : ∃ t, Kd K G v t
  sh : d.showable = true
  dp : d.depth ≤ 10
  sz : d.shown.length ≤ 1000
  st : ∀ s, v = .str s → s.length ≤ 1000
theorem Odd.same {K : PySem.W.Frag} {G G' : Hp} {v : V} {d : PyData} (h : Odd K G v d) (s : Same G G') : Odd K G' v d := ⟨same_dq s h.dq, h.kd.elim fun t k => ⟨t, k.same s⟩, h.sh, h.dp, h.sz, h.st⟩
end Q
namespace Q
open PySem PySem.Spec PyProof.Rows L2
section
variable {H : Hp} {Qv : VK} {σ : L2.St}
theorem r_dnewK (q : Lay 0 (.dK []) Qv H) : tDNewK σ H Qv := q.2
theorem r_rep {l : Addr} {k : Int} {xs : List V} (h : H l = some (.lst xs)) (h1 : -(2 ^ 63) ≤ k) (h2 : k < 2 ^ 63) (hz : xs.length * k.toNat ≤ sizeLine) (q : Lay 0 (.lst (List.replicate k.toNat xs).flatten) Qv H) : rRep (.ref l) (.int k) H Qv :=
  ⟨l, k, xs, rfl, rfl, h, h1, h2, hz, q.2⟩
theorem r_neg {a : Int} (q : Qv (.int (-a)) H) : rU (fun i => .int (-i)) (.int a) H Qv := ⟨a, rfl, q⟩
end
section
variable {K : PySem.W.Frag} {G : Hp}
theorem odd_str {z : Str} (h1 : (PyData.str z).shown.length ≤ 1000) (h2 : z.length ≤ 1000) : Odd K G (.str z) (.str z) := ⟨.str z, ⟨_, kd_str z⟩, rfl, by simp [PyData.depth], h1, fun s e => by cases e; exact h2⟩
theorem odd_int {i : Int} (h1 : (PyData.int i).shown.length ≤ 1000) (h2 : (PyData.int i).showable = true) : Odd K G (.int i) (.int i) := ⟨.int i, ⟨_, kd_int i⟩, h2, by simp [PyData.depth], h1, fun s e => by cases e⟩
end
end Q
namespace Q
open PySem PySem.Spec PyProof.Rows L2
theorem shownAll_map : ∀ ds : List PyData, PyData.shownAll ds = ds.map PyData.shown
  | [] => by simp [PyData.shownAll]
  | d :: r => by simp [PyData.shownAll, shownAll_map r]
theorem sh_list (ds : List PyData) {m : Nat} (h : (ds.map fun d => d.shown.length).sum ≤ m) : (PyData.list ds).shown.length ≤ m + 2 * ds.length + 3 := by
  have z := listText_len_le (PyData.shownAll ds)
  rw [shownAll_map, List.map_map, List.length_map] at z
  have e : (PyData.list ds).shown = listText (ds.map PyData.shown) := by rw [← shownAll_map]; simp [PyData.shown]
  rw [e]
  exact Nat.le_trans z (by have h' : (List.map ((fun x : Str => x.length) ∘ PyData.shown) ds).sum ≤ m := h; omega)
theorem sh_tup (ds : List PyData) {m : Nat} (h : (ds.map fun d => d.shown.length).sum ≤ m) : (PyData.tuple ds).shown.length ≤ m + 2 * ds.length + 3 := by
  have z := tupleText_len_le (PyData.shownAll ds)
  rw [shownAll_map, List.map_map, List.length_map] at z
  have e : (PyData.tuple ds).shown = tupleText (ds.map PyData.shown) := by rw [← shownAll_map]; simp [PyData.shown]
  rw [e]
  exact Nat.le_trans z (by have h' : (List.map ((fun x : Str => x.length) ∘ PyData.shown) ds).sum ≤ m := h; omega)
theorem sh_str {z : Str} {i : Int} (r : Right z i) : (PyData.str z).shown.length ≤ 82 := by
  have h := nmOk_str r.1
  unfold PyData.strOk at h
  rw [Array.all_eq_true_iff_forall_mem] at h
  have b := StrLaws.reprText_len z fun c hc => by
    have y := of_decide_eq_true (h c (Array.mem_toList_iff.mp hc))
    exact Nat.lt_trans y (by decide)
  have e : (PyData.str z).shown = reprText z := by simp [PyData.shown]
  have l := r.len
  rw [e]
  omega
end Q
namespace Q
open PySem PySem.Spec PyProof.Rows L2
inductive Dues (G : Hp) : List V → List (Str × V) → Prop
  | nil : Dues G [] []
  | cons {l : Addr} {s : Str} {u : V} {xs : List V} {ks : List (Str × V)} (h : G l = some (.tup [.str s, u])) (r : Dues G xs ks) : Dues G (.ref l :: xs) ((s, u) :: ks)
theorem Dues.same {G G' : Hp} {xs : List V} {ks : List (Str × V)} (h : Dues G xs ks) (s : Same G G') : Dues G' xs ks := by
  induction h with
  | nil => exact .nil
  | cons h _ ih => exact .cons (s _ _ h) ih
theorem Dues.snoc {G : Hp} {xs : List V} {ks : List (Str × V)} {l : Addr} {s : Str} {u : V} (r : Dues G xs ks) (h : G l = some (.tup [.str s, u])) : Dues G (xs ++ [.ref l]) (ks ++ [(s, u)]) := by
  induction r with
  | nil => exact .cons h .nil
  | cons h2 _ ih => exact .cons h2 ih
theorem Dues.len {G : Hp} {xs : List V} {ks : List (Str × V)} (r : Dues G xs ks) : xs.length = ks.length := by
  induction r with
  | nil => rfl
  | cons _ _ ih => simp [ih]
theorem Dues.get {G : Hp} {xs : List V} {ks : List (Str × V)} (r : Dues G xs ks) : ∀ {j : Nat} {x : V}, xs[j]? = some x → ∃ l s u, x = .ref l ∧ ks[j]? = some (s, u) ∧ G l = some (.tup [.str s, u]) := by
  induction r with
  | nil => intro j x h; simp at h
  | cons h2 _ ih =>
    intro j x h
    cases j with
    | zero => exact ⟨_, _, _, (Option.some.inj h).symm, rfl, h2⟩
    | succ j => exact ih (by simpa using h)
/-- what a law expects to be shown: None, or the first of the due -/
structure DueD (K : PySem.W.Frag) (G : Hp) (o : Option (Str × V)) (D : PyData) : Prop where
  non : o = none → D = .none
  som : ∀ s u, o = some (s, u) → ∃ d, Dq K G u d ∧ D = .tuple [.str s, d]
  sh : D.showable = true
  dp : D.depth ≤ 60
  sz : D.shown.length ≤ sizeLine
theorem DueD.same {K : PySem.W.Frag} {G G' : Hp} {o : Option (Str × V)} {D : PyData} (h : DueD K G o D) (s : Same G G') : DueD K G' o D :=
  ⟨h.non, fun a u e => (h.som a u e).elim fun d x => ⟨d, same_dq s x.1, x.2⟩, h.sh, h.dp, h.sz⟩
theorem PenAt.ext {p c : Addr} {n : Nat} {H H1 : Hp} (P : PenAt p c n H) (x : LamX.ExtN H H1) : PenAt p c n H1 := by
  obtain ⟨a, g, h1, h2, h3⟩ := P
  exact ⟨a, g, x _ _ h1 (fun ps z => by cases z), h2, h3⟩
theorem gh_of {c t : Addr} {H : Hp} (only : OnlyT [(c, t)] H) : Gh (L2.del H t) H := by
  have off : ∀ a o, L2.del H t a = some o → a ≠ t := fun a o z y => by
    rw [y, del_same] at z
    cases z
  refine ⟨fun a o z => ?_, fun a o z => ?_⟩
  · rw [del_ne (off a o z)] at z
    exact z
  · have n := off a o z
    rw [del_ne n] at z
    rcases only a with y | ⟨p, hp, y⟩ | ⟨u, xs, y⟩
    · rw [y] at z; cases z
    · rw [List.mem_singleton.mp hp] at y
      exact absurd y.symm n
    · rw [y] at z
      cases z
      intro ps q
      cases q
theorem sqL_of {K : PySem.W.Frag} {H : Hp} {a t : Addr} {xs : List V} (h : SqL K H a xs) (ht : H t = some (.tbl #[])) : SqL K (L2.del H t) a xs := by
  have n : (∃ o, H a = some o ∧ ∀ ps, o ≠ .tbl ps) → L2.del H t a = H a := fun ⟨o, z, no⟩ => by
    refine del_ne (fun y => ?_)
    rw [y, ht] at z
    exact no _ (Option.some.inj z).symm
  rcases h with (h | ⟨o, h⟩) | h
  · exact .inl (.inl ((n ⟨_, h, fun ps z => by cases z⟩).trans h))
  · exact .inl (.inr ⟨o, (n ⟨_, h, fun ps z => by cases z⟩).trans h⟩)
  · exact .inr h
end Q
namespace Q
open PySem PySem.Spec PyProof.Rows L2
def oexObj (K : PySem.W.Frag) (D : Addr) : Bool := match K.lookup D with
  | some ⟨.type "type", _, .cls r, slots⟩ => (match r.mro, slots.toList with
    | .ref E :: tail, [_, _, _, _, some (.builtin id), _] => decide (E = D) && (decide (id = "ValueError.__new__") && (!r.hasDel && (r.hasDict && PySem.HandSPX.refsVE tail)))
    | _, _ => false)
  | _ => false
def oexB (K : PySem.W.Frag) (D : Addr) : Bool := oexObj K D && (He.eqO (PySem.W.findIn K (.ref D) "__setattr__") (some (some (.builtin "object.__setattr__"))) &&
  (decide (PySem.W.subIn K (.ref D) (.type "BaseException") = some true) && (decide (PySem.W.typeIn K (.ref D) = some (.type "type")) && PySem.W.keepIn K (.ref D))))
theorem oexB_ok {K : PySem.W.Frag} {D : Addr} (h : oexB K D = true) : OexC K D := by
  obtain ⟨h0, h⟩ := He.ba h
  obtain ⟨h1, h⟩ := He.ba h
  obtain ⟨h2, h⟩ := He.ba h
  obtain ⟨h3, h4⟩ := He.ba h
  refine ⟨?_, He.eqO_ok h1, of_decide_eq_true h2, of_decide_eq_true h3, h4⟩
  clear h h1 h2 h3 h4
  unfold oexObj at h0
  split at h0
  · rename_i od r slots lk
    split at h0
    · rename_i E tail s0 s1 s2 s3 id s5 em es
      obtain ⟨g1, g⟩ := He.ba h0
      obtain ⟨g2, g⟩ := He.ba g
      obtain ⟨g3, g⟩ := He.ba g
      obtain ⟨g4, g5⟩ := He.ba g
      have q1 := of_decide_eq_true g1
      have q2 := of_decide_eq_true g2
      subst q1 q2
      cases r
      simp only [Bool.not_eq_true'] at g3
      dsimp only at em g3 g4
      subst em g3 g4
      have sl : slots = #[s0, s1, s2, s3, some (.builtin "ValueError.__new__"), s5] := Array.toList_inj.mp es
      subst sl
      exact ⟨_, _, _, _, _, _, _, _, _, _, _, _, _, _, _, lk, g5⟩
    · cases h0
  · cases h0
def hdB (K : PySem.W.Frag) (D : Addr) (f : Str) : Bool := xfB K D && (He.eqO (PySem.W.findIn K (.ref D) "__class__") (some (some (.builtin "object.__class__"))) && (He.eqO (PySem.W.findIn K (.ref D) f) (some none) &&
  decide ((PySem.W.specialIn K (.builtin "object.__class__") "__get__" = some (some (.builtin "getset_descriptor.__get__")) ∧ PySem.W.takesIn K (.builtin "object.__class__") = some true) ∧ PySem.W.mroIn K D (.type "object") = some true ∧ PySem.W.kitOne K (.ref D) (.type "ValueError") = some true)))
theorem hdB_ok {K : PySem.W.Frag} {D : Addr} {f : Str} (h : hdB K D f = true) : HdC K D f := by
  obtain ⟨h0, h⟩ := He.ba h
  obtain ⟨h1, h⟩ := He.ba h
  obtain ⟨h2, h3⟩ := He.ba h
  obtain ⟨⟨a, b⟩, c, d⟩ := of_decide_eq_true h3
  have x := xfB_ok h0
  exact ⟨x, ⟨x.ga, x.gg, x.exC, x.hdC, He.eqO_ok h1, a, b, c⟩, He.eqO_ok h2, d⟩
def readB (K : PySem.W.Frag) (D : Addr) : Bool := PySem.W.readsIn K D (.type "type") && He.eqO (PySem.W.specialIn K (.ref D) "__getattribute__") (some (some (.builtin "type.__getattribute__")))
theorem readB_ok {K : PySem.W.Frag} {D : Addr} (h : readB K D = true) : ClX.CRead K D (.type "type") := by
  obtain ⟨h0, h1⟩ := He.ba h
  exact ⟨h0, He.eqO_ok h1⟩
def statB (K : PySem.W.Frag) (D : Addr) (m : Str) : Bool := He5.wrapB K D "staticmethod" "staticmethod.__get__" m && PySem.W.keepIn K (.ref (He5.wf K D "staticmethod" m))
theorem statB_ok {K : PySem.W.Frag} {D : Addr} {m : Str} (h : statB K D m = true) : CStat K D (.type "type") m (He.ma K D m) (He5.wf K D "staticmethod" m) := by
  obtain ⟨h0, h1⟩ := He.ba h
  obtain ⟨h2, h3⟩ := He5.wrapB_ok h0
  exact ⟨h2, h3, h1⟩
theorem isFn_ty {K : PySem.W.Frag} {v : Value} (h : PySem.W.isFn K v = true) : PySem.W.typeIn K v = some (.type "function") := by
  unfold PySem.W.isFn at h
  exact beq_iff_eq.mp h
end Q
namespace Q
open PySem PySem.Spec PyProof.Rows L2
end Q
namespace Q
open PySem PySem.Spec PyProof.Rows L2
end Q
namespace Q
open PySem PySem.Spec PyProof.Rows L2
end Q
namespace Q
open PySem PySem.Spec PyProof.Rows L2
def twoT (p : Str × Str) : PyData := .tuple [.str p.1, .str p.2]
inductive PairsAt (H : Hp) : List V → List (Str × Str) → Prop
  | nil : PairsAt H [] []
  | cons {b : Addr} {p : Str × Str} {vs : List V} {ds : List (Str × Str)} (h : H b = some (.tup [.str p.1, .str p.2])) (r : PairsAt H vs ds) : PairsAt H (.ref b :: vs) (p :: ds)
theorem PairsAt.same {H H' : Hp} {vs : List V} {ds : List (Str × Str)} (r : PairsAt H vs ds) (s : Same H H') : PairsAt H' vs ds := by
  induction r with
  | nil => exact .nil
  | cons h _ ih => exact .cons (s _ _ h) ih
theorem PairsAt.snoc {H : Hp} {vs : List V} {ds : List (Str × Str)} {b : Addr} {p : Str × Str} (r : PairsAt H vs ds) (h : H b = some (.tup [.str p.1, .str p.2])) : PairsAt H (vs ++ [.ref b]) (ds ++ [p]) := by
  induction r with
  | nil => exact .cons h .nil
  | cons h2 _ ih => exact .cons h2 ih
theorem PairsAt.at_ {H : Hp} {vs : List V} {ds : List (Str × Str)} (r : PairsAt H vs ds) : ∃ ts : List (Addr × Str × Str), vs = ts.map (fun t => V.ref t.1) ∧ ds = ts.map (·.2) ∧ ∀ t ∈ ts, H t.1 = some (.tup [.str t.2.1, .str t.2.2]) := by
  induction r with
  | nil => exact ⟨[], rfl, rfl, fun t h => by cases h⟩
  | cons h _ ih =>
    rename_i b p vs ds _
    obtain ⟨ts, e1, e2, h2⟩ := ih
    refine ⟨(b, p) :: ts, by rw [e1]; rfl, by rw [e2]; rfl, fun t ht => ?_⟩
    rcases List.mem_cons.mp ht with e | ht
    · rw [e]; exact h
    · exact h2 t ht
theorem PairsAt.dq {K : PySem.W.Frag} {H : Hp} {vs : List V} {ds : List (Str × Str)} (r : PairsAt H vs ds) : DqAll K H vs (ds.map twoT) := by
  induction r with
  | nil => exact .nil
  | cons h _ ih => exact .cons (.tup (SqT.of h) (.cons (.str _) (.cons (.str _) .nil))) ih
def NmKvs (kvs : List (Key × V)) : Prop := ∀ kv ∈ kvs, ∃ s t, kv = (.inr s, .str t) ∧ nmOk s = true ∧ nmOk t = true
theorem NmKvs.val {kvs : List (Key × V)} (h : NmKvs kvs) (k : Key) : valV kvs k = none ∨ ∃ t, valV kvs k = some (.str t) ∧ nmOk t = true := by
  unfold valV
  cases e : kvs.find? fun kv => decide (kv.1 = k) with
  | none => exact .inl rfl
  | some kv =>
    obtain ⟨a, b, rfl, _, hb⟩ := h kv (List.mem_of_find?_eq_some e)
    exact .inr ⟨b, rfl, hb⟩
theorem NmKvs.get {kvs : List (Key × V)} (h : NmKvs kvs) {i : Nat} {k : Key} {v : V} (e : kvs[i]? = some (k, v)) : ∃ s t, k = .inr s ∧ nmOk s = true ∧ valV kvs k = some (.str t) ∧ nmOk t = true := by
  have m := List.mem_of_getElem? e
  obtain ⟨s, t, e1, hs, _⟩ := h _ m
  cases e1
  rcases h.val (.inr s) with z | ⟨y, z, hy⟩
  · have a := valV_any (.inr s : Key) kvs
    rw [z] at a
    have b : (kvs.any fun kv => decide (kv.1 = (.inr s : Key))) = true := List.any_eq_true.mpr ⟨_, m, by simp⟩
    rw [b] at a
    cases a
  · exact ⟨s, y, rfl, hs, z, hy⟩
section
variable {H : Hp} {Qv : VK} {σ : L2.St}
def rStrS : List V → Hp → VK → Prop := fun xs H Q => ∃ a, xs = [.str a] ∧ Q (.str a) H
theorem r_strS {a : Str} (q : Qv (.str a) H) : rStrS [.str a] H Qv := ⟨a, rfl, q⟩
/-- a dict that will be changed -/
def tDNewM : TE := tDNewK
theorem r_dnewM (q : LayM 0 (.dK []) Qv H) : tDNewM σ H Qv := q.2
theorem r_sDPut {td ty tv : TE} {D : Ends} (q : tv σ H fun v H1 => td σ H1 fun x H2 => ty σ H2 fun y H3 => ∃ a H4, x = .ref a ∧ DPut H3 a y v H4 ∧ D.nx σ H4) : sDPut td ty tv D σ H := q
theorem r_tDGet {td ty : TE} (q : td σ H fun x H1 => ty σ H1 fun y H2 => ∃ a v, x = .ref a ∧ DGet H2 a y (some v) ∧ Qv v H2) : tDGet td ty σ H Qv := q
theorem r_iKeys {td : TE} {R : It → Hp → Prop} (q : td σ H fun x H1 => ∃ d o, x = .ref d ∧ ((∃ kvs, H1 d = some (.frz o (.dK kvs)) ∧ R (Itk d o kvs) H1) ∨ ∃ kvs, H1 d = some (.frz o (.dT kvs)) ∧ R (Itkt d o kvs) H1)) : iKeys td σ H R := q
theorem r_tDGet2 {td ty tx : TE} (q : td σ H fun x H1 => ∃ a, x = .ref a ∧ IsD H1 a ∧ ty σ H1 fun y H2 => tx σ H2 fun z H3 => ∃ o, DGet H3 a y o ∧ Qv (o.getD z) H3) : tDGet2 td ty tx σ H Qv := q
end
/-- a, b = x, y -/
def ParK (i j : Nat) (vs : List V) (σ : L2.St) (N : L2.St → Hp → Prop) (H : Hp) : Prop := ∃ v w, vs = [v, w] ∧ N ((σ.set i (some v)).set j (some w)) H
theorem r_par {i j : Nat} {ta : TA} {D : Ends} {σ : L2.St} {H : Hp} (q : ta σ H fun vs H1 => ParK i j vs σ D.nx H1) : tPar i j ta D σ H := q
theorem r_parK {i j : Nat} {v w : V} {σ : L2.St} {N : L2.St → Hp → Prop} {H : Hp} (q : N ((σ.set i (some v)).set j (some w)) H) : ParK i j [v, w] σ N H := ⟨v, w, rfl, q⟩
theorem DGet.frz {H : Hp} {a : Addr} {od : Obj} {kvs : List (Key × V)} {k : Key} {o : Option V} (e : H a = some (.frz od (.dK kvs))) (h : valV kvs k = o) : DGet H a (kV k) o := .inl ⟨kvs, k, .inr ⟨od, e⟩, rfl, h.symm⟩
end Q
namespace Q
open PySem PySem.Spec PyProof.Rows L2
/-- what == asks of the class of a saying -/
def eqS (K : PySem.W.Frag) (C : Addr) : Bool := decide ((PySem.W.specialIn K (.builtin "object.__class__") "__get__" = some (some (.builtin "getset_descriptor.__get__")) ∧ PySem.W.takesIn K (.builtin "object.__class__") = some true ∧ PySem.W.mroIn K C (.type "object") = some true) ∧
  (PySem.W.kitOne K (.ref C) (.ref C) = some true ∧ ∀ n ∈ ["NoneType", "int", "bool", "str", "list", "tuple", "dict"], PySem.W.kitOne K (.type n) (.ref C) = some false) ∧
  (PySem.W.notFirst K C (.ref C) = true ∧ ∀ n ∈ ["NoneType", "int", "bool", "str", "list", "tuple", "dict"], PySem.W.notFirst K C (.type n) = true))
/-- a law begins: the script told, its own table to grow -/
theorem law_start {K : PySem.W.Frag} {H : Hp} {c pT a : Addr} {xs : List V} (q : Str) (only : OnlyT [(c, pT)] H) (ht : H pT = some (.tbl #[])) (ha : SqL K H a xs) : ∃ (en : En) (G0 : Hp), Wd en G0 H [] ∧ SqL K G0 a xs ∧ en.T = [(pT, q)] ∧
    (∀ a, en.H0 a ≠ none → (∃ q, (a, q) ∈ en.T) ∨ (a ∉ en.P0 ∧ ∀ o, en.H0 a = some o → NoT o)) ∧ ∀ p ∈ en.T, p.1 ∈ en.P0 := by
  have sG := gh_of only
  refine ⟨⟨H, L2.del H pT, [pT], [(pT, q)]⟩, L2.del H pT, wd_startT sG (fun a h => by simp at h) List.nodup_nil (fun a h => by simp at h) (fun p hp => by rw [List.mem_singleton.mp hp]; exact LamX.TabS.nil ht), sqL_of ha ht, rfl, fun a hn => ?_, fun p hp => ?_⟩
  · by_cases e : a = pT
    · exact .inl ⟨_, by rw [e]; exact List.mem_singleton.mpr rfl⟩
    · refine .inr ⟨by simpa using e, fun o ho => sG.2 a o ?_⟩
      rw [del_ne e]
      exact ho
  · rw [List.mem_singleton.mp hp]
    exact List.mem_singleton.mpr rfl
end Q
namespace Q
open PySem PySem.Spec PyProof.Rows L2
/-- set(l), l a list of ints -/
def rSetL (K : PySem.W.Frag) (w : World) : List V → Hp → VK → Prop := fun xs H Q => ∃ (l : Addr) (ns : List Int), xs = [.ref l] ∧ SqL K H l (ns.map V.int) ∧ ns.length ≤ 1000 ∧ ∀ n a, n ≤ ns.length → H a = none → Q (.ref a) (upd H a (SetO w a (fun j => decide (j ∈ ns)) n))
end Q
namespace Q
open PySem PySem.Spec PyProof.Rows L2
def FrzGo (v : V) (H : Hp) (Q : VK) : Prop := ∃ d u, v = .ref d ∧ H d = some u ∧ Mut (some u) ∧ ∀ od, Q v (upd H d (.frz od u))
def tFrzV (t : TE) : TE := fun σ H Q => t σ H fun v H1 => FrzGo v H1 Q
theorem r_tFrzV {t : TE} {σ : L2.St} {H : Hp} {Q : VK} (q : t σ H fun v H1 => FrzGo v H1 Q) : tFrzV t σ H Q := q
def SqA (K : PySem.W.Frag) (H : Hp) (a : Addr) (xs : List V) : Prop := SqL K H a xs ∨ SqT K H a xs
theorem SqA.same {K : PySem.W.Frag} {H H' : Hp} {a : Addr} {xs : List V} (h : SqA K H a xs) (s : Same H H') : SqA K H' a xs := h.elim (fun h => .inl (same_sqL s h)) fun h => .inr (same_sqT s h)
def SeqGo (K : PySem.W.Frag) (a : Addr) (R : It → Hp → Prop) (H : Hp) : Prop := ((∃ xs, SqL K H a xs) ∧ R (Itl K a) H) ∨ ((∃ xs, SqT K H a xs) ∧ R (Itt K a) H)
def iSeq (K : PySem.W.Frag) (tl : TE) : TI := fun σ H R => tl σ H fun x H1 => ∃ a, x = .ref a ∧ SeqGo K a R H1
theorem r_iSeq {K : PySem.W.Frag} {tl : TE} {σ : L2.St} {H : Hp} {R : It → Hp → Prop} (q : tl σ H fun x H1 => ∃ a, x = .ref a ∧ SeqGo K a R H1) : iSeq K tl σ H R := q
theorem SqA.of {K : PySem.W.Frag} {e : En} {G H : Hp} {M : List Addr} {a : Addr} {xs : List V} (h : SqA K G a xs) (w : Wd e G H M) : SqA K H a xs := h.same w.le
def leS (a b : Str) : Prop := ltCps b.cps.toList a.cps.toList = false
end Q
namespace Q
open PySem PySem.Spec PyProof.Rows L2
def DcAdd (Dd : Addr) (P : Hp → Prop) (y z : V) (H5 : Hp) : Prop := ∃ kvs k, y = kV k ∧ H5 Dd = some (.dK kvs) ∧ kvs.length < sizeLine ∧ P (upd H5 Dd (.dK (putK kvs k z)))
def DcT (Dd : Addr) (P : Hp → Prop) (tt : TT) (tk tv : TE) (vs : List Nat) (σ : L2.St) : L2.St → Hp → Prop := fun σ2 H2 => wipe σ2 vs = wipe σ vs ∧ tt σ2 H2 fun b H3 => if b = true then tk σ2 H3 fun y H4 => tv σ2 H4 fun z H5 => DcAdd Dd P y z H5 else P H3
def DcGo (J : It) (g : TG) (tt : TT) (tk tv : TE) (vs : List Nat) (σ : L2.St) (Q : VK) (H1 : Hp) : Prop := ∀ D, H1 D = none → ∃ W : Nat → Nat → Hp → Prop, (∃ m, W 0 m (upd H1 D (.dK []))) ∧ ∀ i m H, W i m H →
  (J.stop i H ∧ Q (.ref D) H) ∨ (J.go i H ∧ ∃ Nx : Hp → Prop, (∀ H', Nx H' → ∃ m', m' < m ∧ W (i + 1) m' H') ∧ ∀ x H', J.yld i H x H' → g x (wipe σ vs) H' (DcT D Nx tt tk tv vs σ))
theorem r_dc {wi : TI} {g : TG} {tt : TT} {tk tv : TE} {vs : List Nat} {σ : L2.St} {H : Hp} {Q : VK} (q : wi σ H fun J H1 => DcGo J g tt tk tv vs σ Q H1) : tDc wi g tt tk tv vs σ H Q := q
theorem r_dcT {Dd : Addr} {P : Hp → Prop} {tt : TT} {tk tv : TE} {vs : List Nat} {σ σ2 : L2.St} {H : Hp} (h : wipe σ2 vs = wipe σ vs) (q : tt σ2 H fun b H3 => if b = true then tk σ2 H3 fun y H4 => tv σ2 H4 fun z H5 => DcAdd Dd P y z H5 else P H3) : DcT Dd P tt tk tv vs σ σ2 H := ⟨h, q⟩
def DcP (e : En) (G : Hp) (M : List Addr) (R : Nat → List (Key × V) → Hp → Hp → Prop) (Dd : Addr) (i : Nat) (H : Hp) : Prop := ∃ kvs Gi, Wd e Gi H (Dd :: M) ∧ Same G Gi ∧ H Dd = some (.dK kvs) ∧ kvs.length ≤ i ∧ R i kvs Gi H
theorem r_dcAdd {e : En} {G Gy H4 : Hp} {M : List Addr} {R : Nat → List (Key × V) → Hp → Hp → Prop} {Dd : Addr} {i : Nat} {kvs : List (Key × V)} {t : Str} {z : V} (w : Wd e Gy H4 (Dd :: M)) (s : Same G Gy) (h : H4 Dd = some (.dK kvs)) (hl : kvs.length ≤ i) (hi : i ≤ 1000000)
    (k : ∀ H5, Wd e Gy H5 (Dd :: M) → But Dd H4 H5 → R (i + 1) (putK kvs (.inr t) z) Gy H5) : DcAdd Dd (DcP e G M R Dd (i + 1)) (.str t) z H4 := by
  have w5 := wd_mut (o := .dK (putK kvs (.inr t) z)) w List.mem_cons_self
  exact ⟨kvs, .inr t, rfl, h, Nat.lt_of_le_of_lt (Nat.le_trans hl hi) (by decide), _, Gy, w5, s, upd_same, Nat.le_trans (length_putK _ _ _) (Nat.add_le_add_right hl 1), k _ w5 but_upd⟩
inductive BegAt (K : PySem.W.Frag) (G : Hp) : List (Key × V) → List (Str × List V) → Prop
  | nil : BegAt K G [] []
  | cons {s : Str} {a : Addr} {xs : List V} {kvs : List (Key × V)} {rows : List (Str × List V)} (h : SqA K G a xs) (r : BegAt K G kvs rows) : BegAt K G ((.inr s, .ref a) :: kvs) ((s, xs) :: rows)
def rowOf (rows : List (Str × List V)) (s : Str) : Option (List V) := (rows.find? fun r => decide (r.1 = s)).map (·.2)
section
variable {K : PySem.W.Frag} {G G' : Hp} {kvs : List (Key × V)} {rows : List (Str × List V)}
theorem BegAt.same (h : BegAt K G kvs rows) (s : Same G G') : BegAt K G' kvs rows := by
  induction h with
  | nil => exact .nil
  | cons h _ ih => exact .cons (h.same s) ih
theorem BegAt.len (h : BegAt K G kvs rows) : kvs.length = rows.length := by
  induction h with
  | nil => rfl
  | cons _ _ ih => simp [ih]
theorem BegAt.keys (h : BegAt K G kvs rows) : kvs.map (fun kv => kV kv.1) = (rows.map (·.1)).map V.str := by
  induction h with
  | nil => rfl
  | cons _ _ ih => rw [List.map_cons, List.map_cons, List.map_cons, ih]; rfl
theorem BegAt.keysR (h : BegAt K G kvs rows) : kvs.map (·.1) = (rows.map (·.1)).map Sum.inr := by
  induction h with
  | nil => rfl
  | cons _ _ ih => simp [ih]
theorem BegAt.get (h : BegAt K G kvs rows) : ∀ {i : Nat} {k : Key} {v : V}, kvs[i]? = some (k, v) → ∃ s xs, k = .inr s ∧ rows[i]? = some (s, xs) := by
  induction h with
  | nil => intro i k v e; simp at e
  | cons _ _ ih =>
    intro i k v e
    cases i with
    | zero => cases e; exact ⟨_, _, rfl, rfl⟩
    | succ i => exact ih (by simpa using e)
theorem BegAt.val (h : BegAt K G kvs rows) (s : Str) : (rowOf rows s = none ∧ valV kvs (.inr s) = none) ∨ ∃ a xs, rowOf rows s = some xs ∧ valV kvs (.inr s) = some (.ref a) ∧ SqA K G a xs := by
  induction h with
  | nil => exact .inl ⟨rfl, rfl⟩
  | cons h _ ih =>
    rename_i t a xs kvs rows _
    by_cases e : t = s
    · refine .inr ⟨a, xs, ?_, ?_, h⟩
      · simp [rowOf, e]
      · exact valV_pos (p := ((Sum.inr t : Key), V.ref a)) (by rw [e])
    · have e2 : ¬ (Sum.inr t : Key) = .inr s := fun z => e (Sum.inr.inj z)
      have e3 : rowOf ((t, xs) :: rows) s = rowOf rows s := by simp [rowOf, e]
      rw [e3, valV_neg (p := ((Sum.inr t : Key), V.ref a)) e2]
      exact ih
end
end Q
namespace Q
open PySem PySem.Spec PyProof.Rows L2
structure RowsOk (K : PySem.W.Frag) (G : Hp) (rows : List (Str × List V)) : Prop where
  len : ∀ r ∈ rows, r.1.length ≤ 1000 ∧ r.2.length ≤ 60
  odd : ∀ r ∈ rows, ∀ v ∈ r.2, ∃ d, Odd K G v d
  key : ∀ r ∈ rows, ∃ d, Odd K G (.str r.1) d
  txt : ∀ r ∈ rows, PyData.strOk r.1 = true
theorem RowsOk.same {K : PySem.W.Frag} {G G' : Hp} {rows : List (Str × List V)} (h : RowsOk K G rows) (s : Same G G') : RowsOk K G' rows := ⟨h.len, fun r hr v hv => (h.odd r hr v hv).elim fun d o => ⟨d, o.same s⟩, fun r hr => (h.key r hr).elim fun d o => ⟨d, o.same s⟩, h.txt⟩
inductive LvAt (G : Hp) : List (Key × V) → List (Str × List Int) → Prop
  | nil : LvAt G [] []
  | cons {s : Str} {a : Addr} {ns : List Int} {kvs : List (Key × V)} {bt : List (Str × List Int)} (h : G a = some (.tup (ns.map V.int))) (r : LvAt G kvs bt) : LvAt G ((.inr s, .ref a) :: kvs) ((s, ns) :: bt)
section
variable {G G' : Hp} {kvs : List (Key × V)} {bt : List (Str × List Int)}
theorem LvAt.same (h : LvAt G kvs bt) (s : Same G G') : LvAt G' kvs bt := by
  induction h with
  | nil => exact .nil
  | cons h _ ih => exact .cons (s _ _ h) ih
theorem LvAt.snoc (r : LvAt G kvs bt) {s : Str} {a : Addr} {ns : List Int} (h : G a = some (.tup (ns.map V.int))) : LvAt G (kvs ++ [(.inr s, .ref a)]) (bt ++ [(s, ns)]) := by
  induction r with
  | nil => exact .cons h .nil
  | cons h2 _ ih => exact .cons h2 ih
theorem LvAt.keys (h : LvAt G kvs bt) : kvs.map (fun kv => kV kv.1) = (bt.map (·.1)).map V.str := by
  induction h with
  | nil => rfl
  | cons _ _ ih => rw [List.map_cons, List.map_cons, List.map_cons, ih]; rfl
theorem LvAt.out (h : LvAt G kvs bt) {s : Str} (n : s ∉ bt.map (·.1)) : valV kvs (.inr s) = none := by
  induction h with
  | nil => rfl
  | cons _ _ ih =>
    rename_i t a ns kvs bt _ _
    have e : ¬ (Sum.inr t : Key) = .inr s := fun z => n (by rw [Sum.inr.inj z]; simp)
    rw [valV_neg (p := ((Sum.inr t : Key), V.ref a)) e]
    exact ih fun m => n (by simp at m ⊢; exact .inr m)
end
/-- 0 and what is told, ascending -/
def Begs (xs : List V) (ns : List Int) : Prop := ∃ ms : List Int, ns = 0 :: ms ∧ ms.Pairwise (· < ·) ∧ ∀ k : Int, k ∈ ms ↔ V.int k ∈ xs
def LivesAt (C : Addr) (G : Hp) (a : Addr) (bt : List (Str × List Int)) : Prop := ∃ dx D od kvs, G a = some (.ins C dx [("by_tool", .ref D)]) ∧ G D = some (.frz od (.dK kvs)) ∧ LvAt G kvs bt
theorem LivesAt.same {C a : Addr} {G G' : Hp} {bt : List (Str × List Int)} (h : LivesAt C G a bt) (s : Same G G') : LivesAt C G' a bt := by
  obtain ⟨dx, D, od, kvs, h1, h2, h3⟩ := h
  exact ⟨dx, D, od, kvs, s _ _ h1, s _ _ h2, h3.same s⟩
structure LvC (K : PySem.W.Frag) (C : Addr) : Prop where
  c : Cls K C
  n1 : NoAttr K C "by_tool"
section
variable {X : Cx} {K : PySem.W.Frag} {tg l e : Expr} {tl te : TE} {es : List Expr} {t : TA} {p : Pos}
theorem pi_listK (hK : X.K = K) (hl : PE X l tl) : PI X tg l (iList K tl) := by subst hK; exact pi_list hl
theorem pa_starK (hK : X.K = K) (he : PE X e te) (hr : PA X es t) (hs : starEach (.Starred e p :: es) X.env = (true, eval e X.env) :: starEach es X.env := by rfl) : PA X (.Starred e p :: es) (StX.tStar K te t) := by subst hK; exact StX.pa_star he hr hs
end
def StarGo (K : PySem.W.Frag) (x : V) (H : Hp) (R : List V → Hp → Prop) : Prop := ∃ p xs, x = V.ref p ∧ (SqT K H p xs ∨ SqL K H p xs) ∧ R xs H
theorem r_tStar {K : PySem.W.Frag} {te : TE} {t : TA} {σ : L2.St} {H : Hp} {Q : List V → Hp → Prop} (q : te σ H fun x H1 => StarGo K x H1 fun xs H1 => t σ H1 fun ys H2 => Q (xs ++ ys) H2) : StX.tStar K te t σ H Q := q
theorem r_starL {K : PySem.W.Frag} {p : Addr} {xs : List V} {H : Hp} {R : List V → Hp → Prop} (h : SqL K H p xs) (q : R xs H) : StarGo K (.ref p) H R := ⟨p, xs, rfl, .inr h, q⟩
end Q
namespace Q
open PySem PySem.Spec PyProof.Rows L2
section
variable {K : PySem.W.Frag} {G : Hp}
theorem BegAt.any {kvs : List (Key × V)} {rows : List (Str × List V)} (h : BegAt K G kvs rows) (s : Str) : (kvs.any fun kv => decide (kv.1 = (.inr s : Key))) = rows.any fun r => decide (r.1 = s) := by
  induction h with
  | nil => rfl
  | cons _ _ ih =>
    rename_i t a xs kvs rows _ _
    rw [List.any_cons, List.any_cons, ih]
    have e : decide ((Sum.inr t : Key) = .inr s) = decide (t = s) := by
      by_cases h : t = s
      · rw [h]; simp
      · have : ¬ (Sum.inr t : Key) = .inr s := fun z => h (Sum.inr.inj z)
        rw [decide_eq_false h, decide_eq_false this]
    rw [e]
theorem odd_name {z : Str} (h : nmOk z = true) : Odd K G (.str z) (.str z) := by
  have a := sh_str (z := z) (i := 0) ⟨h, by decide, by decide⟩
  have b := nmOk_len h
  exact odd_str (by omega) (by omega)
end
structure HandAt (K : PySem.W.Frag) (G : Hp) (d : Addr) (rows : List (Str × List V)) : Prop where
  ex : ∃ od kvs, G d = some (.frz od (.dK kvs)) ∧ BegAt K G kvs rows ∧ (kvs.map (·.1)).Nodup
  ok : RowsOk K G rows
  len : rows.length ≤ 12
theorem HandAt.same {K : PySem.W.Frag} {G G' : Hp} {d : Addr} {rows : List (Str × List V)} (h : HandAt K G d rows) (s : Same G G') : HandAt K G' d rows := by
  obtain ⟨od, kvs, h1, h2, h3⟩ := h.ex
  exact ⟨⟨od, kvs, s _ _ h1, h2.same s, h3⟩, h.ok.same s, h.len⟩
def spNameL : Sp := fun vs H Q _ => ∃ (G : Hp) (s : Str), vs = [.str s] ∧ Gh G H ∧ s.length ≤ 1000000 ∧ PyData.strOk s = true ∧ Ret G H (fun v _ => v = .bl (nmOk s)) Q
theorem u_nameL {e : En} {G H : Hp} {M : List Addr} {s : Str} {Q : VK} {E : XK} (w : Wd e G H M) (h : s.length ≤ 1000000) (ht : PyData.strOk s = true) (k : ∀ G' H', Wd e G' H' M → Same G G' → Same H H' → Q (.bl (nmOk s)) H') : spNameL [.str s] H Q E :=
  ⟨G, s, rfl, w.gh, h, ht, ret_use w fun v G' H' w' s1 s2 e1 => by subst e1; exact k G' H' w' s1 s2⟩
def rNotInSign : R2 := fun x y H Q => ∃ (c : Nat) (z : Str), x = .str ⟨#[c]⟩ ∧ y = .str z ∧ Q (.bl (!decide (c ∈ z.cps.toList))) H
theorem q_notInSign {X : Cx} : OpR X (compareOp .NotIn) rNotInSign := op_notIn_sign
theorem r_notInSign {c : Nat} {z : Str} {H : Hp} {Qv : VK} (q : Qv (.bl (!decide (c ∈ z.cps.toList))) H) : rNotInSign (.str ⟨#[c]⟩) (.str z) H Qv := ⟨c, z, rfl, rfl, q⟩
theorem strOk_sign {z : Str} (h : PyData.strOk z = true) : ∀ c ∈ z.cps.toList, PyData.strOk ⟨#[c]⟩ = true := fun c hc => by
  unfold PyData.strOk at h ⊢
  rw [Array.all_eq_true_iff_forall_mem] at h ⊢
  intro x hx
  have e : x = c := by simpa using hx
  rw [e]
  exact h c (Array.mem_toList_iff.mp hc)
theorem shaped_strs {l : List Str} (h : ∀ z ∈ l, PyData.strOk z = true) : SeqAt.shaped (.list (l.map PyData.str)) = true := by
  have a : ∀ l : List Str, (∀ z ∈ l, PyData.strOk z = true) → PyData.canLayAll0 (l.map PyData.str) = true ∧ PyData.depthAll (l.map PyData.str) = 0 := by
    intro l
    induction l with
    | nil => exact fun _ => ⟨by simp [PyData.canLayAll0], by simp [PyData.depthAll]⟩
    | cons z l ih =>
      intro h
      obtain ⟨i1, i2⟩ := ih fun y hy => h y (List.mem_cons_of_mem _ hy)
      have hz := h z List.mem_cons_self
      exact ⟨by simp [PyData.canLayAll0, PyData.canLay0, hz, i1], by simp [PyData.depthAll, PyData.depth, i2]⟩
  obtain ⟨a1, a2⟩ := a l h
  simp [SeqAt.shaped, PyData.canLay0, PyData.depth, a1, a2]
theorem both_sign {c : Nat} : decide (c ∈ (zLetters ++ Str.ofString "0123456789").cps.toList) = (letB c || figB c) := by
  have e : (zLetters ++ Str.ofString "0123456789") = zLetters ++ zFigures := by decide
  rw [e, app_list]
  unfold letB figB
  by_cases h1 : c ∈ zLetters.cps.toList <;> by_cases h2 : c ∈ zFigures.cps.toList <;> simp [h1, h2]
theorem filt_yes {α : Type} {p : α → Bool} {l : List α} {i : Nat} {x : α} (h : l[i]? = some x) (hp : p x = true) : (l.take (i + 1)).filter p = (l.take i).filter p ++ [x] := by
  rw [take_snoc h, List.filter_append, List.filter_cons_of_pos hp, List.filter_nil]
theorem filt_no {α : Type} {p : α → Bool} {l : List α} {i : Nat} {x : α} (h : l[i]? = some x) (hp : ¬ p x = true) : (l.take (i + 1)).filter p = (l.take i).filter p := by
  rw [take_snoc h, List.filter_append, List.filter_cons_of_neg hp, List.filter_nil, List.append_nil]
def rInsert : V → List V → Hp → VK → Prop := fun x vs H Q => ∃ (l : Addr) (xs : List V) (i : Int) (y : V), x = .ref l ∧ vs = [.int i, y] ∧ H l = some (.lst xs) ∧ xs.length < sizeLine ∧ 0 ≤ i ∧ i < 2 ^ 63 ∧ Q .non (upd H l (.lst (xs.take i.toNat ++ [y] ++ xs.drop i.toNat)))
theorem mt_ins {X : Cx} : MtR X "list.insert" rInsert := mt_insert
end Q
namespace Q
open PySem PySem.Spec PyProof.Rows L2
def rNil (K : PySem.W.Frag) (neg : Bool) : R2 := fun x y H Q => ∃ a b xs, x = .ref a ∧ y = .ref b ∧ SqL K H a xs ∧ SqL K H b [] ∧ Q (.bl (if neg = true then !xs.isEmpty else xs.isEmpty)) H
theorem q_neNil {X : Cx} (hu : X.A.units + 64 < cLine) : OpR X (compareOp .NotEq) (rNil X.K true) := by
  intro pins s σ H x y v u Q I rx ry h
  obtain ⟨a, b, xs, rfl, rfl, h1, h2, q⟩ := h
  cases xs with
  | nil => exact op_neD hu pins s σ H _ _ v u Q I rx ry ⟨.list [], .list [], .lst h1 .nil, .lst h2 .nil, shaped_nil, shaped_nil, q⟩
  | cons x xs =>
    cases (show v = Value.ref a from rx)
    cases (show u = Value.ref b from ry)
    obtain ⟨i1, r1, l1, _⟩ := I.list h1
    obtain ⟨i2, r2, l2, _⟩ := I.list h2
    cases r2
    cases r1
    exact SeqAt.RcNeAt.lists_lengths l1.isList l2.isList (by simp) (by omega) X.prog X.w X.xe _ ⟨.bl true, H, I, rfl, q⟩
theorem r_nil0 {K : PySem.W.Frag} {neg : Bool} {a b : Addr} {xs : List V} {H : Hp} {Qv : VK} (h1 : SqL K H a xs) (h2 : SqL K H b []) (q : Qv (.bl (if neg = true then !xs.isEmpty else xs.isEmpty)) H) : rNil K neg (.ref a) (.ref b) H Qv := ⟨a, b, xs, rfl, rfl, h1, h2, q⟩
end Q
namespace Q
open PySem PySem.Spec PyProof.Rows L2
end Q
namespace Q
open PySem PySem.Spec PyProof.Rows L2
end Q
namespace Q
open PySem PySem.Spec PyProof.Rows L2
end Q
namespace Q
open PySem PySem.Spec PyProof.Rows L2
end Q
namespace Q
open PySem PySem.Spec PyProof.Rows L2
def nsOf (bt : List (Str × List Int)) (s : Str) : Option (List Int) := (bt.find? fun p => decide (p.1 = s)).map (·.2)
def isLife (bt : List (Str × List Int)) : Option (List V) → Bool
  | some [.str s, .int i] => (match nsOf bt s with
    | some ns => decide (i ∈ ns)
    | none => false)
  | _ => false
theorem LvAt.val {G : Hp} {kvs : List (Key × V)} {bt : List (Str × List Int)} (h : LvAt G kvs bt) (s : Str) : (nsOf bt s = none ∧ valV kvs (.inr s) = none) ∨ ∃ ra ns, nsOf bt s = some ns ∧ valV kvs (.inr s) = some (.ref ra) ∧ G ra = some (.tup (ns.map V.int)) := by
  induction h with
  | nil => exact .inl ⟨rfl, rfl⟩
  | cons h1 _ ih =>
    rename_i t a ns kvs bt _
    by_cases e : t = s
    · refine .inr ⟨a, ns, ?_, ?_, h1⟩
      · simp [nsOf, List.find?_cons, e]
      · rw [valV_pos (by rw [e])]
    · have e2 : ¬ (Sum.inr t : Key) = .inr s := fun z => e (Sum.inr.inj z)
      have a1 : nsOf ((t, ns) :: bt) s = nsOf bt s := by simp [nsOf, List.find?_cons, e]
      rw [a1, valV_neg (p := ((Sum.inr t : Key), V.ref a)) e2]
      exact ih
/-- a tuple, with what lies in it, or none -/
def TuV (K : PySem.W.Frag) (G : Hp) (v : V) : Option (List V) → Prop
  | none => ∃ t, TyX K G v t ∧ PySem.W.kitOne K t (.type "tuple") = some false
  | some ys => ∃ p, v = .ref p ∧ G p = some (.tup ys) ∧ ∀ y ∈ ys, ∃ t, Kd K G y t
def nextOf (ns : List Int) (b : Int) : Int := match ns.filter (fun k => decide (b < k)) with
  | [] => 1000000000000000000000000000000
  | k :: _ => k - 1
end Q
namespace Q
open PySem PySem.Spec PyProof.Rows L2
end Q
namespace Q
open PySem PySem.Spec PyProof.Rows L2
theorem r_gTup {K : PySem.W.Frag} {n : Nat} {t : TGs} {a : Addr} {xs : List V} {σ : L2.St} {H : Hp} {Q : L2.St → Hp → Prop} (h : SqT K H a xs) (hl : xs.length = n) (q : t xs σ H Q) : gTup K n t (.ref a) σ H Q := ⟨a, xs, rfl, h, hl, q⟩
theorem r_gCons {t : TG} {u : TGs} {v : V} {r : List V} {σ : L2.St} {H : Hp} {Q : L2.St → Hp → Prop} (q : t v σ H fun σ' H' => u r σ' H' Q) : gCons t u (v :: r) σ H Q := ⟨v, r, rfl, q⟩
end Q
namespace Q
open PySem PySem.Spec PyProof.Rows L2
inductive LsAt (G : Hp) : List (Key × V) → List (Str × List Int) → Prop
  | nil : LsAt G [] []
  | cons {s : Str} {a : Addr} {ns : List Int} {kvs : List (Key × V)} {bt : List (Str × List Int)} (h : G a = some (.lst (ns.map V.int))) (r : LsAt G kvs bt) : LsAt G ((.inr s, .ref a) :: kvs) ((s, ns) :: bt)
section
variable {G G' : Hp} {kvs : List (Key × V)} {bt : List (Str × List Int)}
theorem LsAt.same (h : LsAt G kvs bt) (s : Same G G') : LsAt G' kvs bt := by
  induction h with
  | nil => exact .nil
  | cons h _ ih => exact .cons (s _ _ h) ih
theorem LsAt.snoc (r : LsAt G kvs bt) {s : Str} {a : Addr} {ns : List Int} (h : G a = some (.lst (ns.map V.int))) : LsAt G (kvs ++ [(.inr s, .ref a)]) (bt ++ [(s, ns)]) := by
  induction r with
  | nil => exact .cons h .nil
  | cons h2 _ ih => exact .cons h2 ih
theorem LsAt.len (h : LsAt G kvs bt) : kvs.length = bt.length := by
  induction h with
  | nil => rfl
  | cons _ _ ih => simp [ih]
theorem LsAt.val (h : LsAt G kvs bt) (s : Str) : (nsOf bt s = none ∧ valV kvs (.inr s) = none) ∨ ∃ ra ns, nsOf bt s = some ns ∧ valV kvs (.inr s) = some (.ref ra) ∧ G ra = some (.lst (ns.map V.int)) := by
  induction h with
  | nil => exact .inl ⟨rfl, rfl⟩
  | cons h1 _ ih =>
    rename_i t a ns kvs bt _
    by_cases e : t = s
    · refine .inr ⟨a, ns, ?_, ?_, h1⟩
      · simp [nsOf, List.find?_cons, e]
      · rw [valV_pos (by rw [e])]
    · have e2 : ¬ (Sum.inr t : Key) = .inr s := fun z => e (Sum.inr.inj z)
      have a1 : nsOf ((t, ns) :: bt) s = nsOf bt s := by simp [nsOf, List.find?_cons, e]
      rw [a1, valV_neg (p := ((Sum.inr t : Key), V.ref a)) e2]
      exact ih
end
def StartsOk (ns : List Int) : Prop := ∃ ms : List Int, ns = 0 :: ms ∧ ms.Pairwise (· < ·) ∧ (∀ k ∈ ms, 1 ≤ k ∧ k ≤ 1000000000000000000000000000000) ∧ ms.length ≤ 6
structure StAt (G : Hp) (d : Addr) (bt : List (Str × List Int)) : Prop where
  ex : ∃ od kvs, G d = some (.frz od (.dK kvs)) ∧ LsAt G kvs bt
  ok : ∀ q ∈ bt, StartsOk q.2
theorem StAt.same {G G' : Hp} {d : Addr} {bt : List (Str × List Int)} (h : StAt G d bt) (s : Same G G') : StAt G' d bt := by
  obtain ⟨od, kvs, h1, h2⟩ := h.ex
  exact ⟨⟨od, kvs, s _ _ h1, h2.same s⟩, h.ok⟩
end Q
namespace Q
open PySem PySem.Spec PyProof.Rows L2
end Q
namespace Q
open PySem PySem.Spec PyProof.Rows L2
theorem StartsOk.len {ns : List Int} (h : StartsOk ns) : ns.length ≤ 7 := by
  obtain ⟨ms, rfl, _, _, l⟩ := h
  simpa using l
end Q
namespace Q
open PySem PySem.Spec PyProof.Rows L2
end Q
namespace Q
open PySem PySem.Spec PyProof.Rows L2
end Q
namespace Q
open PySem PySem.Spec PyProof.Rows L2
end Q
namespace Q
open PySem PySem.Spec PyProof.Rows L2
end Q
namespace Q
open PySem PySem.Spec PyProof.Rows L2
end Q
namespace Q
open PySem PySem.Spec PyProof.Rows L2
/-- pairs of texts and lists -/
inductive DrAt (G : Hp) : List Addr → List (Key × V) → List (Str × List V) → Prop
  | nil : DrAt G [] [] []
  | cons {p b : Addr} {t : Str} {xs : List V} {ps : List Addr} {kvs : List (Key × V)} {rows : List (Str × List V)} (h1 : G p = some (.tup [.str t, .ref b])) (h2 : G b = some (.lst xs)) (r : DrAt G ps kvs rows) : DrAt G (p :: ps) ((.inr t, .ref b) :: kvs) ((t, xs) :: rows)
section
variable {K : PySem.W.Frag} {G G' : Hp} {ps : List Addr} {kvs : List (Key × V)} {rows : List (Str × List V)}
theorem DrAt.same (h : DrAt G ps kvs rows) (s : Same G G') : DrAt G' ps kvs rows := by
  induction h with
  | nil => exact .nil
  | cons h1 h2 _ ih => exact .cons (s _ _ h1) (s _ _ h2) ih
theorem DrAt.snoc (r : DrAt G ps kvs rows) {p b : Addr} {t : Str} {xs : List V} (h1 : G p = some (.tup [.str t, .ref b])) (h2 : G b = some (.lst xs)) : DrAt G (ps ++ [p]) (kvs ++ [(.inr t, .ref b)]) (rows ++ [(t, xs)]) := by
  induction r with
  | nil => exact .cons h1 h2 .nil
  | cons g1 g2 _ ih => exact .cons g1 g2 ih
theorem DrAt.beg (h : DrAt G ps kvs rows) : BegAt K G kvs rows := by
  induction h with
  | nil => exact .nil
  | cons _ h2 _ ih => exact .cons (.inl (SqL.of h2)) ih
end
end Q
namespace Q
open PySem PySem.Spec PyProof.Rows L2
section
variable {K : PySem.W.Frag} {G : Hp} {bt bL : List (Str × List Int)} {t : Str} {ns : List Int} {ts : List Str} {Cn Cm : Addr}
theorem StartsOk.tail (h : StartsOk ns) : ns = 0 :: ns.drop 1 ∧ (ns.drop 1).Pairwise (· < ·) ∧ (∀ k ∈ ns.drop 1, 1 ≤ k ∧ k ≤ 1000000000000000000000000000000) ∧ (ns.drop 1).length ≤ 6 := by
  obtain ⟨ms, rfl, h1, h2, h3⟩ := h
  exact ⟨rfl, h1, h2, h3⟩
end
end Q
namespace Q
open PySem PySem.Spec PyProof.Rows L2
theorem nodup_inr : ∀ {ts : List Str}, ts.Nodup → (ts.map fun t => (Sum.inr t : Key)).Nodup
  | [], _ => List.nodup_nil
  | t :: ts, h => by
    obtain ⟨a, b⟩ := List.nodup_cons.mp h
    refine List.nodup_cons.mpr ⟨fun m => ?_, nodup_inr b⟩
    obtain ⟨u, hu, e⟩ := List.mem_map.mp m
    cases e
    exact a hu
end Q
namespace Q
open PySem PySem.Spec PyProof.Rows L2
end Q
namespace Q
open PySem PySem.Spec PyProof.Rows L2
end Q
namespace Q
open PySem PySem.Spec PyProof.Rows L2
section
variable {X : Cx} {pins : List (Addr × Obj)} {σ : L2.St} {H : Hp} {s : Shared}
/-- {k: v for target in iter if ..}, keys tuples -/
def tDcT (wi : TI) (g : TG) (tt : TT) (tk tv : TE) (vs : List Nat) : TE := fun σ H Q => wi σ H fun J H1 => ∀ D, H1 D = none → ∃ W : Nat → Nat → Hp → Prop, (∃ m, W 0 m (upd H1 D (.dT []))) ∧ ∀ i m H, W i m H →
  (J.stop i H ∧ Q (.ref D) H) ∨ (J.go i H ∧ ∃ Nx : Hp → Prop, (∀ H', Nx H' → ∃ m', m' < m ∧ W (i + 1) m' H') ∧ ∀ x H', J.yld i H x H' → g x (wipe σ vs) H' fun σ2 H2 => wipe σ2 vs = wipe σ vs ∧ tt σ2 H2 fun b H3 =>
    if b = true then tk σ2 H3 fun y H4 => tv σ2 H4 fun z H5 => ∃ kvs k b, y = .ref b ∧ H5 b = some (.tup (k.map kV)) ∧ H5 D = some (.dT kvs) ∧ kvs.length < sizeLine ∧ Nx (upd H5 D (.dT (putK kvs k z))) else Nx H3)
end
end Q
namespace Q
open PySem PySem.Spec PyProof.Rows L2
section
variable {X : Cx} {K : PySem.W.Frag} {H : Hp} {Qv : VK} {a d : Addr} {od : Obj} {kvs : List (List Key × V)}
def rLenF : List V → Hp → VK → Prop := fun xs H Q => ∃ (p : Addr) (od : Obj) (kvs : List (List Key × V)), xs = [.ref p] ∧ H p = some (.frz od (.dT kvs)) ∧ Q (.int (kvs.length : Nat)) H
theorem r_lenF (h : H a = some (.frz od (.dT kvs))) (q : Qv (.int (kvs.length : Nat)) H) : rLenF [.ref a] H Qv := ⟨a, od, kvs, rfl, h, q⟩
def rIsiF : List V → Hp → VK → Prop := fun xs H Q => ∃ (p : Addr) (od : Obj) (kvs : List (List Key × V)), xs = [.ref p, .ty "dict"] ∧ H p = some (.frz od (.dT kvs)) ∧ Q (.bl true) H
theorem r_isiF (h : H a = some (.frz od (.dT kvs))) (q : Qv (.bl true) H) : rIsiF [.ref a, .ty "dict"] H Qv := ⟨a, od, kvs, rfl, h, q⟩
end
def DtAdd (Dd : Addr) (P : Hp → Prop) (y z : V) (H5 : Hp) : Prop := ∃ kvs k b, y = .ref b ∧ H5 b = some (.tup (k.map kV)) ∧ H5 Dd = some (.dT kvs) ∧ kvs.length < sizeLine ∧ P (upd H5 Dd (.dT (putK kvs k z)))
def DtT (Dd : Addr) (P : Hp → Prop) (tt : TT) (tk tv : TE) (vs : List Nat) (σ : L2.St) : L2.St → Hp → Prop := fun σ2 H2 => wipe σ2 vs = wipe σ vs ∧ tt σ2 H2 fun b H3 => if b = true then tk σ2 H3 fun y H4 => tv σ2 H4 fun z H5 => DtAdd Dd P y z H5 else P H3
def DtGo (J : It) (g : TG) (tt : TT) (tk tv : TE) (vs : List Nat) (σ : L2.St) (Q : VK) (H1 : Hp) : Prop := ∀ D, H1 D = none → ∃ W : Nat → Nat → Hp → Prop, (∃ m, W 0 m (upd H1 D (.dT []))) ∧ ∀ i m H, W i m H →
  (J.stop i H ∧ Q (.ref D) H) ∨ (J.go i H ∧ ∃ Nx : Hp → Prop, (∀ H', Nx H' → ∃ m', m' < m ∧ W (i + 1) m' H') ∧ ∀ x H', J.yld i H x H' → g x (wipe σ vs) H' (DtT D Nx tt tk tv vs σ))
theorem r_dt {wi : TI} {g : TG} {tt : TT} {tk tv : TE} {vs : List Nat} {σ : L2.St} {H : Hp} {Q : VK} (q : wi σ H fun J H1 => DtGo J g tt tk tv vs σ Q H1) : tDcT wi g tt tk tv vs σ H Q := q
theorem r_dtT {Dd : Addr} {P : Hp → Prop} {tt : TT} {tk tv : TE} {vs : List Nat} {σ σ2 : L2.St} {H : Hp} (h : wipe σ2 vs = wipe σ vs) (q : tt σ2 H fun b H3 => if b = true then tk σ2 H3 fun y H4 => tv σ2 H4 fun z H5 => DtAdd Dd P y z H5 else P H3) : DtT Dd P tt tk tv vs σ σ2 H := ⟨h, q⟩
def DtP (e : En) (G : Hp) (M : List Addr) (R : Nat → List (List Key × V) → Hp → Hp → Prop) (Dd : Addr) (i : Nat) (H : Hp) : Prop := ∃ kvs Gi, Wd e Gi H (Dd :: M) ∧ Same G Gi ∧ H Dd = some (.dT kvs) ∧ kvs.length ≤ i ∧ R i kvs Gi H
theorem r_dtAdd {e : En} {G Gy H4 : Hp} {M : List Addr} {R : Nat → List (List Key × V) → Hp → Hp → Prop} {Dd b : Addr} {i : Nat} {kvs : List (List Key × V)} {k : List Key} {z : V} (w : Wd e Gy H4 (Dd :: M)) (s : Same G Gy) (h : H4 Dd = some (.dT kvs)) (hl : kvs.length ≤ i) (hi : i ≤ 1000000) (hb : H4 b = some (.tup (k.map kV)))
    (go : ∀ H5, Wd e Gy H5 (Dd :: M) → But Dd H4 H5 → R (i + 1) (putK kvs k z) Gy H5) : DtAdd Dd (DtP e G M R Dd (i + 1)) (.ref b) z H4 := by
  have w5 := wd_mut (o := .dT (putK kvs k z)) w List.mem_cons_self
  exact ⟨kvs, k, b, rfl, hb, h, Nat.lt_of_le_of_lt (Nat.le_trans hl hi) (by decide), _, Gy, w5, s, upd_same, Nat.le_trans (length_putK _ _ _) (Nat.add_le_add_right hl 1), go _ w5 but_upd⟩
def L2P (e : En) (G : Hp) (M : List Addr) (R : List V → Hp → Hp → Prop) (Dd : Addr) (H : Hp) : Prop := ∃ acc Gi, Wd e Gi H (Dd :: M) ∧ Same G Gi ∧ H Dd = some (.lst acc) ∧ R acc Gi H
def L2In (J1 : It) (g1 : TG) (tt1 : TT) (te : TE) (Dd : Addr) (vs1 : List Nat) (σ2 : L2.St) (Nx : Hp → Prop) (H4 : Hp) : Prop := ∃ W1 : Nat → Nat → Hp → Prop, (∃ m, W1 0 m H4) ∧ ∀ j k H, W1 j k H →
  (J1.stop j H ∧ Nx H) ∨ (J1.go j H ∧ ∃ Nx1 : Hp → Prop, (∀ H', Nx1 H' → ∃ k', k' < k ∧ W1 (j + 1) k' H') ∧ ∀ x H', J1.yld j H x H' → g1 x (wipe σ2 vs1) H' (LcT Dd Nx1 tt1 te vs1 σ2))
def L2T (Dd : Addr) (P : Hp → Prop) (tt : TT) (wi1 : TI) (g1 : TG) (tt1 : TT) (te : TE) (vs vs1 : List Nat) (σ : L2.St) : L2.St → Hp → Prop := fun σ2 H2 => wipe σ2 vs = wipe σ vs ∧ tt σ2 H2 fun b H3 => if b = true then wi1 σ2 H3 fun J1 H4 => L2In J1 g1 tt1 te Dd vs1 σ2 P H4 else P H3
def L2Go (J : It) (g : TG) (tt : TT) (wi1 : TI) (g1 : TG) (tt1 : TT) (te : TE) (vs vs1 : List Nat) (σ : L2.St) (Q : VK) (H1 : Hp) : Prop := ∀ D, H1 D = none → ∃ W : Nat → Nat → Hp → Prop, (∃ m, W 0 m (upd H1 D (.lst []))) ∧ ∀ i m H, W i m H →
  (J.stop i H ∧ Q (.ref D) H) ∨ (J.go i H ∧ ∃ Nx : Hp → Prop, (∀ H', Nx H' → ∃ m', m' < m ∧ W (i + 1) m' H') ∧ ∀ x H', J.yld i H x H' → g x (wipe σ vs) H' (L2T D Nx tt wi1 g1 tt1 te vs vs1 σ))
theorem r_lc2 {wi wi1 : TI} {g g1 : TG} {tt tt1 : TT} {te : TE} {vs vs1 : List Nat} {σ : L2.St} {H : Hp} {Q : VK} (q : wi σ H fun J H1 => L2Go J g tt wi1 g1 tt1 te vs vs1 σ Q H1) : tLc2 wi g tt wi1 g1 tt1 te vs vs1 σ H Q := q
theorem r_l2T {Dd : Addr} {P : Hp → Prop} {tt tt1 : TT} {wi1 : TI} {g1 : TG} {te : TE} {vs vs1 : List Nat} {σ σ2 : L2.St} {H : Hp} (h : wipe σ2 vs = wipe σ vs) (q : tt σ2 H fun b H3 => if b = true then wi1 σ2 H3 fun J1 H4 => L2In J1 g1 tt1 te Dd vs1 σ2 P H4 else P H3) : L2T Dd P tt wi1 g1 tt1 te vs vs1 σ σ2 H := ⟨h, q⟩
theorem r_l2Add {e : En} {G Gy H4 : Hp} {M : List Addr} {R : List V → Hp → Hp → Prop} {Dd : Addr} {acc : List V} {y : V} (w : Wd e Gy H4 (Dd :: M)) (s : Same G Gy) (h : H4 Dd = some (.lst acc)) (hl : acc.length < 1000000)
    (k : ∀ H5, Wd e Gy H5 (Dd :: M) → But Dd H4 H5 → R (acc ++ [y]) Gy H5) : LcAdd Dd (L2P e G M R Dd) y H4 := by
  have w5 := wd_mut (o := .lst (acc ++ [y])) w List.mem_cons_self
  exact ⟨acc, h, Nat.lt_of_lt_of_le hl (by decide), _, Gy, w5, s, upd_same, k _ w5 but_upd⟩
theorem in_go {e : En} {G : Hp} {M : List Addr} {J1 : It} {m : Nat} {Gd : Hp → Prop} {Y : Nat → Hp → V → Hp → Prop} {g1 : TG} {tt1 : TT} {te : TE} {Dd : Addr} {vs1 : List Nat} {σ2 : L2.St} {Nx : Hp → Prop} {H4 : Hp} (hw : Walk J1 m Gd Y) (R : Nat → List V → Hp → Hp → Prop) (h0 : L2P e G M (R 0) Dd H4)
    (hG : ∀ j acc Gi H, Wd e Gi H (Dd :: M) → Same G Gi → R j acc Gi H → Gd H)
    (hs : ∀ j acc Gi H x H', j < m → Wd e Gi H (Dd :: M) → Same G Gi → H Dd = some (.lst acc) → R j acc Gi H → Y j H x H' → g1 x (wipe σ2 vs1) H' (LcT Dd (L2P e G M (R (j + 1)) Dd) tt1 te vs1 σ2))
    (hd : ∀ H, L2P e G M (R m) Dd H → Nx H) : L2In J1 g1 tt1 te Dd vs1 σ2 Nx H4 := by
  refine ⟨fun j k H => k = m - j ∧ j ≤ m ∧ L2P e G M (R j) Dd H, ⟨m, by simp, Nat.zero_le _, h0⟩, ?_⟩
  rintro j k H ⟨rfl, hj, acc, Gi, w2, s2, h2, r⟩
  have gd := hG j acc Gi H w2 s2 r
  by_cases lt : j < m
  · exact .inr ⟨hw.goes j H lt gd, L2P e G M (R (j + 1)) Dd, fun H' p' => ⟨m - (j + 1), by omega, rfl, lt, p'⟩, fun x H' y => hs j acc Gi H x H' lt w2 s2 h2 r (hw.yields j H x H' lt gd y)⟩
  · obtain rfl : j = m := by omega
    exact .inl ⟨hw.stops H gd, hd H ⟨acc, Gi, w2, s2, h2, r⟩⟩
theorem lc2_go {e : En} {G H1 : Hp} {M : List Addr} {J : It} {n : Nat} {Gd : Hp → Prop} {Y : Nat → Hp → V → Hp → Prop} {g g1 : TG} {tt tt1 : TT} {wi1 : TI} {te : TE} {vs vs1 : List Nat} {σ : L2.St} {Q : VK} (w : Wd e G H1 M) (hw : Walk J n Gd Y) (R : Nat → List V → Hp → Hp → Prop)
    (h0 : ∀ (Dd : Addr) (H : Hp), Wd e G H (Dd :: M) → Same H1 H → (∀ m ∈ M, Dd ≠ m) → R 0 [] G H)
    (hG : ∀ i acc Gi H, Wd e Gi H M → Same G Gi → R i acc Gi H → Gd H)
    (hs : ∀ (Dd : Addr) i acc Gi H x H', i < n → Wd e Gi H (Dd :: M) → Same G Gi → H Dd = some (.lst acc) → (∀ m ∈ M, Dd ≠ m) → R i acc Gi H → Y i H x H' → g x (wipe σ vs) H' (L2T Dd (L2P e G M (R (i + 1)) Dd) tt wi1 g1 tt1 te vs vs1 σ))
    (hd : ∀ (p : Addr) acc Gi Gp H, Wd e Gp H M → Same G Gp → Same Gi Gp → Gp p = some (.lst acc) → R n acc Gi H → Q (.ref p) H) : L2Go J g tt wi1 g1 tt1 te vs vs1 σ Q H1 := by
  intro Dd hD
  have w1 := wd_layM (o := .lst []) w hD
  have nm : ∀ m ∈ M, Dd ≠ m := fun m hm => w.nm hD hm
  refine ⟨fun i m H => m = n - i ∧ i ≤ n ∧ L2P e G M (R i) Dd H, ⟨n, by simp, Nat.zero_le _, [], G, w1, Same.refl _, upd_same, h0 Dd _ w1 (same_upd hD) nm⟩, ?_⟩
  rintro i m H ⟨rfl, hi, acc, Gi, w2, s2, h2, r⟩
  have gd := hG i acc Gi H (wd_drop w2 (List.sublist_cons_self _ _)) s2 r
  by_cases lt : i < n
  · exact .inr ⟨hw.goes i H lt gd, L2P e G M (R (i + 1)) Dd, fun H' p' => ⟨n - (i + 1), by omega, rfl, lt, p'⟩, fun x H' y => hs Dd i acc Gi H x H' lt w2 s2 h2 nm r (hw.yields i H x H' lt gd y)⟩
  · obtain rfl : i = n := by omega
    obtain ⟨w3, s3⟩ := wd_freeze w2 h2 (w.n0 hD)
    exact .inl ⟨hw.stops H gd, hd Dd acc Gi _ H w3 (s2.trans s3) s3 upd_same r⟩
end Q
namespace Q
open PySem PySem.Spec PyProof.Rows L2
def lifesOf (bt : List (Str × List Int)) : List (Str × Int) := bt.flatMap fun q => q.2.map fun b => (q.1, b)
def keyOf (l : Str × Int) : List Key := [.inr l.1, .inl l.2]
def turnKvs (tn : Str → Int → V) (ls : List (Str × Int)) : List (List Key × V) := ls.map fun l => (keyOf l, tn l.1 l.2)
def LifeAt (G : Hp) : List Addr → List (Str × Int) → Prop := Paired fun p l => G p = some (.tup [.str l.1, .int l.2])
theorem keyOf_inj {a b : Str × Int} (h : keyOf a = keyOf b) : a = b := by
  obtain ⟨a1, a2⟩ := a
  obtain ⟨b1, b2⟩ := b
  unfold keyOf at h
  simp at h
  rw [h.1, h.2]
theorem paired_get {α β : Type} {R : α → β → Prop} : ∀ {xs : List α} {ys : List β} {i : Nat} {x : α} {y : β}, Paired R xs ys → xs[i]? = some x → ys[i]? = some y → R x y
  | _, _, 0, _, _, .cons h _, e, f => by cases e; cases f; exact h
  | _, _, i + 1, _, _, .cons _ t, e, f => paired_get t (by simpa using e) (by simpa using f)
theorem paired_snoc {α β : Type} {R : α → β → Prop} {xs : List α} {ys : List β} {x : α} {y : β} (h : Paired R xs ys) (r : R x y) : Paired R (xs ++ [x]) (ys ++ [y]) := by
  induction h with
  | nil => exact .cons r .nil
  | cons h _ ih => exact .cons h ih
section
variable {K : PySem.W.Frag} {G G' : Hp} {ps : List Addr} {ls : List (Str × Int)} {bt : List (Str × List Int)} {tn : Str → Int → V}
theorem LifeAt.same (h : LifeAt G ps ls) (s : Same G G') : LifeAt G' ps ls := Paired.mapP h fun _ _ e => s _ _ e
theorem LifeAt.len (h : LifeAt G ps ls) : ps.length = ls.length := Paired.length h
theorem LifeAt.snoc (h : LifeAt G ps ls) {p : Addr} {t : Str} {b : Int} (e : G p = some (.tup [.str t, .int b])) : LifeAt G (ps ++ [p]) (ls ++ [(t, b)]) := paired_snoc h e
theorem nodup_pair (t : Str) : ∀ {ns : List Int}, ns.Nodup → (ns.map fun b => (t, b)).Nodup
  | [], _ => List.nodup_nil
  | n :: ns, h => by
    obtain ⟨a, b⟩ := List.nodup_cons.mp h
    refine List.nodup_cons.mpr ⟨fun m => ?_, nodup_pair t b⟩
    obtain ⟨u, hu, e⟩ := List.mem_map.mp m
    cases e
    exact a hu
theorem lifes_nodup : ∀ {bt : List (Str × List Int)}, (bt.map (·.1)).Nodup → (∀ q ∈ bt, q.2.Nodup) → (lifesOf bt).Nodup
  | [], _, _ => List.nodup_nil
  | q :: bt, h1, h2 => by
    obtain ⟨a, b⟩ := List.nodup_cons.mp (show (q.1 :: bt.map (·.1)).Nodup from h1)
    have ih := lifes_nodup b fun r hr => h2 r (List.mem_cons_of_mem _ hr)
    have e : lifesOf (q :: bt) = (q.2.map fun b => (q.1, b)) ++ lifesOf bt := by simp [lifesOf]
    rw [e, List.nodup_append]
    refine ⟨?_, ih, fun x hx y hy z => ?_⟩
    · exact nodup_pair q.1 (h2 q List.mem_cons_self)
    · obtain ⟨c, _, rfl⟩ := List.mem_map.mp hx
      unfold lifesOf at hy
      obtain ⟨r, hr, hy⟩ := List.mem_flatMap.mp hy
      obtain ⟨d, _, e2⟩ := List.mem_map.mp hy
      rw [← z] at e2
      have e3 : r.1 = q.1 := (Prod.mk.inj e2).1
      exact a (List.mem_map.mpr ⟨r, hr, e3⟩)
end
section
variable {K : PySem.W.Frag} {C Cl CH a h p : Addr} {e : En} {G H : Hp} {M : List Addr} {bt : List (Str × List Int)} {t : Str} {b : Int} {x : V} {ty : Value} {Q : VK} {E : XK} {tn : Str → Int → V} {ns : List Int}
structure BtOk (bt : List (Str × List Int)) : Prop where
  nd : (bt.map (·.1)).Nodup
  len : ∀ q ∈ bt, q.2.length ≤ 1000
  all : (lifesOf bt).length ≤ 1000
  nds : ∀ q ∈ bt, q.2.Nodup
theorem LvAt.at_ {kvs : List (Key × V)} (h : LvAt G kvs bt) : ∀ {i : Nat} {k : Key} {v : V}, kvs[i]? = some (k, v) → ∃ s ra ns, k = .inr s ∧ v = .ref ra ∧ bt[i]? = some (s, ns) ∧ G ra = some (.tup (ns.map V.int)) := by
  induction h with
  | nil => intro i k v e; simp at e
  | cons h1 _ ih =>
    intro i k v e
    cases i with
    | zero => cases e; exact ⟨_, _, _, rfl, rfl, rfl, h1⟩
    | succ i => exact ih (by simpa using e)
theorem LvAt.len {kvs : List (Key × V)} (h : LvAt G kvs bt) : kvs.length = bt.length := by
  induction h with
  | nil => rfl
  | cons _ _ ih => simp [ih]
def turnOk (ns : List Int) (b : Int) : V → Bool
  | .non => true
  | .int i => momV (.int i) b && decide (i ≤ nextOf ns b)
  | _ => false
/-- the turns in a dict are right, one for each life -/
structure TurnsOk (K : PySem.W.Frag) (G : Hp) (bt : List (Str × List Int)) (tn : Str → Int → V) (kvs : List (List Key × V)) : Prop where
  len : kvs.length = (lifesOf bt).length
  keys : ∀ kv ∈ kvs, ∃ l ∈ lifesOf bt, kv.1 = keyOf l
  val : ∀ l ∈ lifesOf bt, valV kvs (keyOf l) = some (tn l.1 l.2)
  ok : ∀ l ∈ lifesOf bt, turnOk ((nsOf bt l.1).getD []) l.2 (tn l.1 l.2) = true
  kd : ∀ l ∈ lifesOf bt, ∃ ty, Kd K G (tn l.1 l.2) ty
theorem TurnsOk.same {G' : Hp} {kvs : List (List Key × V)} (o : TurnsOk K G bt tn kvs) (s : Same G G') : TurnsOk K G' bt tn kvs := ⟨o.len, o.keys, o.val, o.ok, fun l hl => (o.kd l hl).elim fun t k => ⟨t, k.same s⟩⟩
def HistAt (CH C : Addr) (G : Hp) (h a : Addr) (bt : List (Str × List Int)) (tn : Str → Int → V) : Prop := ∃ dx D od, G h = some (.ins CH dx [("of_lives", .ref a), ("by_life", .ref D)]) ∧ G D = some (.frz od (.dT (turnKvs tn (lifesOf bt)))) ∧ LivesAt C G a bt
theorem HistAt.same {G' : Hp} (o : HistAt CH C G h a bt tn) (s : Same G G') : HistAt CH C G' h a bt tn := by
  obtain ⟨dx, D, od, h1, h2, h3⟩ := o
  exact ⟨dx, D, od, s _ _ h1, s _ _ h2, h3.same s⟩
end
end Q
namespace Q
open PySem PySem.Spec PyProof.Rows L2
section
variable {K : PySem.W.Frag} {σ : L2.St} {H : Hp} {Qv : VK} {ta tb : TE} {x : V} {xs : List V} {p : Addr} {a : Str} {ys : List Str}
def JoinGo (K : PySem.W.Frag) : V → List V → Hp → VK → Prop := fun x xs H Qv => ∃ a p, ∃ ys : List Str, x = .str a ∧ xs = [.ref p] ∧ (SqL K H p (ys.map V.str) ∨ SqT K H p (ys.map V.str)) ∧ (ys.map (·.length)).sum + ys.length * a.length ≤ 16777216 ∧ Qv (.str (Txt.join a ys)) H
theorem pe_joinQ {X : Cx} {o e : Expr} {to te : TE} {apos pos : Pos} (ho : PE X o to) (he : PE X e te) (hs : starEach [e] X.env = [(false, eval e X.env)] := by rfl) (hb : attributeBase o "join" X.env (eval o X.env) = eval o X.env := by rfl) (hl : (apos.endLine == pos.line) = true := by rfl) :
    PE X (.Call (.Attribute o "join" apos) [e] [] pos) (tM1 (JoinGo X.K) to te) := pe_join ho he hs hb hl
theorem r_tM1 {r : V → List V → Hp → VK → Prop} (q : ta σ H fun x H1 => (∃ a, x = .str a) ∧ tb σ H1 fun y H2 => r x [y] H2 Qv) : tM1 r ta tb σ H Qv := q
theorem r_strAnd {R : Prop} (q : R) : (∃ b, V.str a = .str b) ∧ R := ⟨⟨a, rfl⟩, q⟩
theorem r_joinL (h : SqL K H p (ys.map V.str)) (b : (ys.map (·.length)).sum + ys.length * a.length ≤ 16777216) (q : Qv (.str (Txt.join a ys)) H) : JoinGo K (.str a) [.ref p] H Qv := ⟨a, p, ys, rfl, rfl, .inl h, b, q⟩
theorem r_tOrT (q : ta σ H fun x H1 => ∃ k, TruV K x H1 k ∧ if k = true then Qv x H1 else tb σ H1 Qv) : tOrT K ta tb σ H Qv := q
end
end Q
namespace Q
open PySem PySem.Spec PyProof.Rows L2
end Q
namespace Q
open PySem PySem.Spec PyProof.Rows L2
theorem LifeAt.at_ {G : Hp} {ps : List Addr} {ls : List (Str × Int)} {i : Nat} {p : Addr} {l : Str × Int} (h : LifeAt G ps ls) (e1 : ps[i]? = some p) (e2 : ls[i]? = some l) : G p = some (.tup [.str l.1, .int l.2]) :=
  paired_get (R := fun (p : Addr) (l : Str × Int) => G p = some (.tup [.str l.1, .int l.2])) h e1 e2
end Q
namespace Q
open PySem PySem.Spec PyProof.Rows L2
def rStrN : List V → Hp → VK → Prop := fun xs H Q => ∃ i : Int, xs = [.int i] ∧ i.natAbs.log2 < 1920 ∧ Q (.str (toString i)) H
theorem q_strN {X : Cx} : CallR X (.type "str") rStrN := call_str_int
theorem r_strN {i : Int} {H : Hp} {Qv : VK} (h : i.natAbs.log2 < 1920) (q : Qv (.str (toString i)) H) : rStrN [.int i] H Qv := ⟨i, rfl, h, q⟩
def turnWord : V → Str
  | .int i => Str.ofString (toString i)
  | _ => Str.ofString "none"
def lifeText (tn : Str → Int → V) (l : Str × Int) : Str := Str.empty ++ l.1 ++ Str.ofString " " ++ Str.ofString (toString l.2) ++ Str.ofString " " ++ turnWord (tn l.1 l.2)
def histText (tn : Str → Int → V) (ls : List (Str × Int)) : Str := Txt.join (Str.ofString ", ") (match ls with
  | [] => [Str.ofString "nothing"]
  | l :: r => (l :: r).map (lifeText tn))
end Q
namespace Q
open PySem PySem.Spec PyProof.Rows L2
theorem r_gNil {σ : L2.St} {H : Hp} {R : L2.St → Hp → Prop} (q : R σ H) : gNil [] σ H R := ⟨rfl, q⟩
theorem r_gTupR {K : PySem.W.Frag} {n : Nat} {t : TGs} {a : Addr} {xs : List V} {σ : L2.St} {H : Hp} {R : L2.St → Hp → Prop} (h : SqT K H a xs) (hl : xs.length = n) (q : t xs σ H R) : gTup K n t (.ref a) σ H R := r_gTup h hl q
end Q
namespace Q
open PySem PySem.Spec PyProof.Rows L2
def Low (z : Str) : Prop := ∀ c ∈ z.cps.toList, c < 128
theorem low_app {x y : Str} (hx : Low x) (hy : Low y) : Low (x ++ y) := fun c hc => by
  have e : (x ++ y).cps.toList = x.cps.toList ++ y.cps.toList := TL.tl_append x y
  rw [e] at hc
  exact (List.mem_append.mp hc).elim (hx c) (hy c)
theorem low_of {x : Str} (h : x.cps.toList.all (fun c => decide (c < 128)) = true) : Low x := fun c hc => of_decide_eq_true (List.all_eq_true.mp h c hc)
theorem joinL_mem {S : List Nat} {c : Nat} : ∀ {ps : List (List Nat)}, c ∈ TL.joinL S ps → c ∈ S ∨ ∃ p ∈ ps, c ∈ p
  | [], h => by simp [TL.joinL] at h
  | [p], h => .inr ⟨p, by simp, by simpa [TL.joinL] using h⟩
  | p :: q :: r, h => by
    have h : c ∈ p ++ (S ++ TL.joinL S (q :: r)) := h
    rcases List.mem_append.mp h with h | h
    · exact .inr ⟨p, by simp, h⟩
    rcases List.mem_append.mp h with h | h
    · exact .inl h
    rcases joinL_mem h with h | ⟨x, hx, hc⟩
    · exact .inl h
    · exact .inr ⟨x, List.mem_cons_of_mem _ hx, hc⟩
theorem low_join {a : Str} {ts : List Str} (ha : Low a) (h : ∀ t ∈ ts, Low t) : Low (Txt.join a ts) := fun c hc => by
  rw [TL.join_eq] at hc
  have e : (Str.join a ts).cps.toList = TL.joinL a.cps.toList (ts.map fun t => t.cps.toList) := TL.tl_join a ts
  rw [e] at hc
  rcases joinL_mem hc with h1 | ⟨p, hp, h2⟩
  · exact ha c h1
  · obtain ⟨t, ht, rfl⟩ := List.mem_map.mp hp
    exact h t ht c h2
theorem len_tl (z : Str) : z.length = z.cps.toList.length := by simp [Str.length]
theorem low_num (i : Int) : Low (Str.ofString (toString i)) := fun c hc => by
  rw [Str.ofString_eq_toList] at hc
  have hc : c ∈ (toString i).toList.map Char.toNat := by simpa using hc
  obtain ⟨ch, hm, rfl⟩ := List.mem_map.mp hc
  exact int_ascii i ch hm
abbrev Chs := List ((Str × Int) × V)
def ChAt (G : Hp) : List Addr → Chs → Prop := Paired fun p c => ∃ b, G p = some (.tup [.ref b, c.2]) ∧ G b = some (.tup [.str c.1.1, .int c.1.2])
def kvsOf (cs : Chs) : List (List Key × V) := cs.map fun c => (keyOf c.1, c.2)
def tnOf (cs : Chs) (t : Str) (b : Int) : V := (valV (kvsOf cs) (keyOf (t, b))).getD .non
def choText (c : (Str × Int) × V) : Str := c.1.1 ++ Str.ofString " " ++ Str.ofString (toString c.1.2) ++ Str.ofString " " ++ turnWord c.2
section
variable {K : PySem.W.Frag} {G G' : Hp} {ps : List Addr} {cs : Chs} {bt : List (Str × List Int)}
theorem ChAt.same (h : ChAt G ps cs) (s : Same G G') : ChAt G' ps cs := Paired.mapP h fun _ _ ⟨b, h1, h2⟩ => ⟨b, s _ _ h1, s _ _ h2⟩
theorem ChAt.len (h : ChAt G ps cs) : ps.length = cs.length := Paired.length h
theorem ChAt.snoc (h : ChAt G ps cs) {p b : Addr} {t : Str} {i : Int} {v : V} (h1 : G p = some (.tup [.ref b, v])) (h2 : G b = some (.tup [.str t, .int i])) : ChAt G (ps ++ [p]) (cs ++ [((t, i), v)]) := paired_snoc h ⟨b, h1, h2⟩
theorem val_in (nd : (cs.map (·.1)).Nodup) {c : (Str × Int) × V} (h : c ∈ cs) : valV (kvsOf cs) (keyOf c.1) = some c.2 := by
  induction cs with
  | nil => cases h
  | cons d cs ih =>
    obtain ⟨a, b⟩ := List.nodup_cons.mp (show (d.1 :: cs.map (·.1)).Nodup from nd)
    rcases List.mem_cons.mp h with e | m
    · subst e
      exact valV_pos rfl
    · have ne : ¬ keyOf d.1 = keyOf c.1 := fun z => a (by rw [keyOf_inj z]; exact List.mem_map.mpr ⟨c, m, rfl⟩)
      exact (valV_neg (p := (keyOf d.1, d.2)) ne).trans (ih b m)
theorem tn_in (nd : (cs.map (·.1)).Nodup) {c : (Str × Int) × V} (h : c ∈ cs) : tnOf cs c.1.1 c.1.2 = c.2 := by
  show (valV (kvsOf cs) (keyOf c.1)).getD .non = c.2
  rw [val_in nd h]
  rfl
/-- the turns that were chosen -/
structure ChOk (bt : List (Str × List Int)) (cs : Chs) : Prop where
  fst : cs.map (·.1) = lifesOf bt
  tv : ∀ c ∈ cs, c.2 = .non ∨ ∃ i, c.2 = .int i ∧ 0 ≤ i ∧ i ≤ 1000000000000000000000000000000
  ok : ∀ c ∈ cs, ∃ ns, (c.1.1, ns) ∈ bt ∧ turnOk ns c.1.2 c.2 = true
/-- what the law tells is what is written -/
theorem ChOk.text (o : ChOk bt cs) (ob : BtOk bt) : histText (tnOf cs) (lifesOf bt) = Txt.join (Str.ofString ", ") (match cs with
    | [] => [Str.ofString "nothing"]
    | c :: r => (c :: r).map choText) := by
  have nd : (cs.map (·.1)).Nodup := by rw [o.fst]; exact lifes_nodup ob.nd ob.nds
  have each : ∀ ds : Chs, (∀ c ∈ ds, c ∈ cs) → (ds.map (·.1)).map (lifeText (tnOf cs)) = ds.map choText := fun ds h => by
    rw [List.map_map]
    refine List.map_congr_left fun c hc => ?_
    show lifeText (tnOf cs) c.1 = choText c
    unfold lifeText choText
    rw [tn_in nd (h c hc), Str.empty_append]
  unfold histText
  have e := each cs fun _ h => h
  rw [o.fst] at e
  cases cs with
  | nil =>
    have : lifesOf bt = [] := o.fst.symm
    rw [this]
  | cons c r =>
    cases els : lifesOf bt with
    | nil => rw [← o.fst] at els; cases els
    | cons l ls =>
      rw [els] at e
      show Txt.join _ ((l :: ls).map (lifeText (tnOf (c :: r)))) = _
      rw [e]
end
end Q
namespace Q
open PySem PySem.Spec PyProof.Rows L2
def numsR (bs : List (Str × List Int)) : List (Str × List V) := bs.map fun q => (q.1, q.2.map V.int)
end Q
namespace Q
open PySem PySem.Spec PyProof.Rows L2
def RevGo (K : PySem.W.Frag) (x : V) (H : Hp) (Qv : VK) : Prop := ∃ a xs, x = .ref a ∧ SqL K H a xs ∧ ∀ p, H p = none → Qv (.ref p) (upd H p (.lst xs.reverse))
def tRevQ (K : PySem.W.Frag) (te : TE) : TE := fun σ H Qv => te σ H fun x H1 => RevGo K x H1 Qv
section
variable {K : PySem.W.Frag} {te : TE} {σ : L2.St} {H : Hp} {Qv : VK} {a : Addr} {xs : List V}
theorem r_tRev (q : te σ H fun x H1 => RevGo K x H1 Qv) : tRevQ K te σ H Qv := q
theorem r_revL (h : SqL K H a xs) (q : Lay 0 (.lst xs.reverse) Qv H) : RevGo K (.ref a) H Qv := ⟨a, xs, rfl, h, q.2⟩
def Par3K (i j l : Nat) (vs : List V) (σ : L2.St) (N : L2.St → Hp → Prop) (H : Hp) : Prop := ∃ u v w, vs = [u, v, w] ∧ N (((σ.set i (some u)).set j (some v)).set l (some w)) H
theorem r_par3 {i j l : Nat} {ta : TA} {D : Ends} (q : ta σ H fun vs H1 => Par3K i j l vs σ D.nx H1) : tPar3 i j l ta D σ H := q
theorem r_par3K {i j l : Nat} {u v w : V} {N : L2.St → Hp → Prop} (q : N (((σ.set i (some u)).set j (some v)).set l (some w)) H) : Par3K i j l [u, v, w] σ N H := ⟨u, v, w, rfl, q⟩
end
end Q
namespace Q
open PySem PySem.Spec PyProof.Rows L2
def Hold (xs : List (Addr × HO)) (H : Hp) : Prop := ∀ q ∈ xs, H q.1 = some q.2
theorem Hold.same {xs : List (Addr × HO)} {H H' : Hp} (h : Hold xs H) (s : Same H H') : Hold xs H' := fun q hq => s _ _ (h q hq)
theorem Hold.but {xs : List (Addr × HO)} {H H' : Hp} {p : Addr} (h : Hold xs H) (b : But p H H') (n : ∀ q ∈ xs, q.1 ≠ p) : Hold xs H' := fun q hq => b _ _ (n q hq) (h q hq)
theorem Hold.hd {a : Addr} {o : HO} {xs : List (Addr × HO)} {H : Hp} (h : Hold ((a, o) :: xs) H) : H a = some o := h (a, o) List.mem_cons_self
theorem Hold.tl {a : Addr} {o : HO} {xs : List (Addr × HO)} {H : Hp} (h : Hold ((a, o) :: xs) H) : Hold xs H := fun q hq => h q (List.mem_cons_of_mem _ hq)
instance {a b : Str} : Decidable (leS a b) := by unfold leS; infer_instance
instance {z : Str} : Decidable (Low z) := decidable_of_iff (z.cps.toList.all (fun c => decide (c < 128)) = true) ⟨fun h => low_of h, fun h => List.all_eq_true.mpr fun c hc => decide_eq_true (h c hc)⟩
theorem LsAt.beg {K : PySem.W.Frag} {G : Hp} {kvs : List (Key × V)} {bs : List (Str × List Int)} (h : LsAt G kvs bs) : BegAt K G kvs (numsR bs) := by
  induction h with
  | nil => exact .nil
  | cons h _ ih => exact .cons (.inl (SqL.of h)) ih
end Q
namespace Q
open PySem PySem.Spec PyProof.Rows L2
end Q
namespace Q
open PySem PySem.Spec PyProof.Rows L2
theorem LsAt.at_ {G : Hp} {kvs : List (Key × V)} {bt : List (Str × List Int)} (h : LsAt G kvs bt) : ∀ {i : Nat} {k : Key} {v : V}, kvs[i]? = some (k, v) → ∃ s ra ns, k = .inr s ∧ v = .ref ra ∧ bt[i]? = some (s, ns) ∧ G ra = some (.lst (ns.map V.int)) := by
  induction h with
  | nil => intro i k v e; simp at e
  | cons h1 _ ih =>
    intro i k v e
    cases i with
    | zero => cases e; exact ⟨_, _, _, rfl, rfl, rfl, h1⟩
    | succ i => exact ih (by simpa using e)
end Q
namespace Q
open PySem PySem.Spec PyProof.Rows L2
abbrev zBlank : Str := Str.ofString " "
abbrev zNl : Str := Str.ofString "\n"
def numB (l : List Nat) : Bool := decide (1 ≤ l.length) && (decide (l.length ≤ 31) && (l.all figB && !(decide (l.head? = some 48) && decide (1 < l.length))))
def momW (z : Str) : Option Int := if numB z.cps.toList = true ∧ ((NumText.digitsVal z.cps.toList : Nat) : Int) ≤ 1000000000000000000000000000000 then some ((NumText.digitsVal z.cps.toList : Nat) : Int) else none
def optI : Option Int → V
  | some i => .int i
  | none => .non
theorem fig_iff (c : Nat) : figB c = true ↔ 48 ≤ c ∧ c ≤ 57 := by
  have e : zFigures.cps.toList = [48, 49, 50, 51, 52, 53, 54, 55, 56, 57] := by decide +kernel
  unfold figB
  rw [decide_eq_true_iff, e]
  simp only [List.mem_cons, List.not_mem_nil, or_false]
  omega
theorem figs_digits {l : List Nat} (h : l.all figB = true) : NumText.AllDigits l := fun c hc => (fig_iff c).mp (List.all_eq_true.mp h c hc)
theorem digits_figs {l : List Nat} (h : NumText.AllDigits l) : l.all figB = true := List.all_eq_true.mpr fun c hc => (fig_iff c).mpr (h c hc)
theorem ofNat_nat : ∀ c : Nat, c < 58 → (Char.ofNat c).toNat = c := by decide
theorem back_signs {l : List Nat} (h : NumText.AllDigits l) : (l.map Char.ofNat).map Char.toNat = l := by
  rw [List.map_map]
  refine (List.map_congr_left fun c hc => ?_).trans (List.map_id l)
  have := h c hc
  exact ofNat_nat c (by omega)
theorem dropW_len (p : Nat → Bool) : ∀ l : List Nat, (l.dropWhile p).length ≤ l.length
  | [] => Nat.le_refl _
  | c :: l => by
    rw [List.dropWhile_cons]
    split
    · exact Nat.le_succ_of_le (dropW_len p l)
    · exact Nat.le_refl _
/-- a number written anew is the same word just without needless noughts -/
theorem num_back {l : List Nat} (h : l.all figB = true) (h1 : 1 ≤ l.length) : TL.numL (NumText.digitsVal l) = l ↔ ¬ (l.head? = some 48 ∧ 1 < l.length) := by
  have hd := figs_digits h
  constructor
  · rintro e ⟨a, b⟩
    match l, a, b with
    | c :: d :: r, a, _ =>
      cases (show some c = some 48 from a)
      have t := NumText.toDigits_all (48 :: d :: r) hd
      have e2 := congrArg List.length e
      unfold TL.numL at e2
      rw [t, List.length_map] at e2
      have l2 := dropW_len (· == 48) (d :: r)
      rw [show (48 :: d :: r).dropWhile (· == 48) = (d :: r).dropWhile (· == 48) from rfl] at e2
      generalize (d :: r).dropWhile (· == 48) = m at e2 l2
      cases m with
      | nil => simp at e2
      | cons x y =>
        simp only [List.length_map, List.length_cons] at e2 l2
        omega
  · intro n
    match l, h1 with
    | c :: r, _ =>
      have t := NumText.toDigits_digitsVal r.length (c :: r) rfl hd (by
        cases r with
        | nil => exact .inl rfl
        | cons d r =>
          refine .inr ⟨c, _, rfl, ?_⟩
          have hc := hd.head
          by_cases e : c = 48
          · exact absurd ⟨by rw [e]; rfl, by simp⟩ n
          · omega)
      unfold TL.numL
      rw [t]
      exact back_signs hd
theorem num_text {z : Str} (h : z.cps.toList.all figB = true) (h1 : 1 ≤ z.cps.toList.length) : Str.ofString (toString ((NumText.digitsVal z.cps.toList : Nat) : Int)) = z ↔ ¬ (z.cps.toList.head? = some 48 ∧ 1 < z.cps.toList.length) := by
  rw [← num_back h h1]
  constructor
  · intro e
    have t := congrArg TL.tl e
    rw [TL.tl_num] at t
    exact t
  · intro e
    refine TL.ext_tl ?_
    rw [TL.tl_num]
    exact e
theorem numB_num {n : Nat} (h : (TL.numL n).length ≤ 31) : numB (TL.numL n) = true := by
  have h0 := TL.numL_ne n
  have h1 : 1 ≤ (TL.numL n).length := List.length_pos_iff.mpr h0
  have h2 := digits_figs (TL.numL_digits n)
  have h3 := (num_back h2 h1).mp (by rw [TL.numL_val])
  unfold numB
  rw [h2, decide_eq_true h1, decide_eq_true h]
  have : (decide ((TL.numL n).head? = some 48) && decide (1 < (TL.numL n).length)) = false := by
    rw [Bool.and_eq_false_iff, decide_eq_false_iff_not, decide_eq_false_iff_not]
    exact Decidable.not_and_iff_or_not.mp h3
  rw [this]
  rfl
theorem momW_num {i : Int} (h0 : 0 ≤ i) (h1 : i ≤ 1000000000000000000000000000000) : momW (Str.ofString (toString i)) = some i := by
  obtain ⟨n, rfl⟩ := Int.eq_ofNat_of_zero_le h0
  have l := lenZ h0 h1
  rw [TL.len_tl, TL.tl_num] at l
  have b := numB_num l
  unfold momW
  rw [show (Str.ofString (toString ((n : Nat) : Int))).cps.toList = TL.numL n from TL.tl_num n, TL.numL_val, if_pos ⟨b, h1⟩]
theorem numB_parts {l : List Nat} (h : numB l = true) : 1 ≤ l.length ∧ l.length ≤ 31 ∧ l.all figB = true ∧ ¬ (l.head? = some 48 ∧ 1 < l.length) := by
  unfold numB at h
  simp only [Bool.and_eq_true, decide_eq_true_eq, Bool.not_eq_true', Bool.and_eq_false_iff, decide_eq_false_iff_not] at h
  obtain ⟨a, b, c, d⟩ := h
  exact ⟨a, b, c, Decidable.not_and_iff_or_not.mpr d⟩
theorem momW_some {z : Str} {i : Int} (h : momW z = some i) : 0 ≤ i ∧ i ≤ 1000000000000000000000000000000 ∧ Str.ofString (toString i) = z := by
  unfold momW at h
  split at h
  · rename_i c
    obtain ⟨a, _, b, d⟩ := numB_parts c.1
    cases h
    exact ⟨Int.natCast_nonneg _, c.2, (num_text b a).mpr d⟩
  · cases h
theorem figs_int {z : Str} (h : z.cps.toList.all figB = true) (h1 : 1 ≤ z.length) (h2 : z.length ≤ 31) : intText? z = some ((NumText.digitsVal z.cps.toList : Nat) : Int) := by
  rw [len_tl] at h1
  exact intText_digits (figs_digits h) (List.length_pos_iff.mp h1) (by omega)
theorem split_cons (x y : Str) : ∃ p r, Txt.split x y = p :: r := by
  unfold Txt.split
  split
  · exact ⟨_, _, rfl⟩
  · split
    · exact ⟨_, _, rfl⟩
    · rw [StrLaws.partsBetween_eq]
      exact StrLaws.partsFrom_ne _ _ _ _
theorem joinL_has {S p : List Nat} {c : Nat} (hc : c ∈ p) : ∀ {ps : List (List Nat)}, p ∈ ps → c ∈ TL.joinL S ps
  | [], h => by cases h
  | [a], h => by rw [List.mem_singleton.mp h] at hc; exact hc
  | a :: b :: r, h => by
    show c ∈ a ++ (S ++ TL.joinL S (b :: r))
    rcases List.mem_cons.mp h with h | h
    · rw [h] at hc
      exact List.mem_append_left _ hc
    · exact List.mem_append_right _ (List.mem_append_right _ (joinL_has hc h))
theorem low_split {x y p : Str} (h : Low x) (hp : p ∈ Txt.split x y) : Low p := fun c hc => by
  refine h c ?_
  have e := congrArg TL.tl (StrLaws.join_split x y)
  rw [TL.tl_join] at e
  rw [← show TL.tl x = x.cps.toList from rfl, ← e]
  exact joinL_has hc (List.mem_map.mpr ⟨p, hp, rfl⟩)
theorem split_part {x y p : Str} (hy : 1 ≤ y.length) (hp : p ∈ Txt.split x y) : p.length ≤ x.length := by
  have w := split_weight x y hy
  have h : ∀ l : List Str, p ∈ l → p.length + 1 ≤ (l.map (·.length)).sum + l.length := by
    intro l
    induction l with
    | nil => intro h; cases h
    | cons a l ih =>
      intro h
      simp only [List.map_cons, List.sum_cons, List.length_cons]
      rcases List.mem_cons.mp h with h | h
      · rw [h]; omega
      · have := ih h
        omega
  have := h _ hp
  omega
theorem split_len {x y : Str} (hy : 1 ≤ y.length) : (Txt.split x y).length ≤ x.length + 1 := by
  have w := split_weight x y hy
  omega
def okW (k : Nat) (z : Str) : Bool := match k with
  | 0 => decide (z = Str.ofString "check")
  | 1 => nmOk z
  | 2 => (momW z).isSome
  | 3 => decide (z = Str.ofString "by")
  | _ => nmOk z
def badAt (ws : List Str) (at_ k : Nat) : Bool := match ws[at_ + k]? with
  | some z => !okW k z
  | none => true
def firstBad (ws : List Str) (at_ : Nat) : Option Nat := (List.range 5).find? (badAt ws at_)
def wordsOf (x : Str) : List Str := Txt.split ((Txt.split x zNl).headD Str.empty) zBlank
theorem bad_here {ws : List Str} {a k : Nat} (hk : k < 5) (h : badAt ws a k = true) (hb : ∀ j, j < k → badAt ws a j = false) : firstBad ws a = some k := by
  unfold firstBad
  rw [List.find?_range_eq_some]
  exact ⟨h, List.mem_range.mpr hk, fun j hj => by rw [hb j hj]; rfl⟩
theorem bad_none {ws : List Str} {a : Nat} (hb : ∀ j, j < 5 → badAt ws a j = false) : firstBad ws a = none := by
  unfold firstBad
  rw [List.find?_eq_none]
  intro j hj
  rw [hb j (List.mem_range.mp hj)]
  exact Bool.false_ne_true
theorem none_bad {ws : List Str} {a : Nat} (h : firstBad ws a = none) {k : Nat} (hk : k < 5) : ∃ z, ws[a + k]? = some z ∧ okW k z = true := by
  unfold firstBad at h
  rw [List.find?_eq_none] at h
  have := h k (List.mem_range.mpr hk)
  unfold badAt at this
  cases e : ws[a + k]? with
  | none => rw [e] at this; exact absurd rfl this
  | some z =>
    rw [e] at this
    refine ⟨z, rfl, ?_⟩
    simpa using this
def entText (t : Str) (i : Int) (b : Str) : Str := Str.empty ++ Str.ofString "check " ++ t ++ Str.ofString " " ++ Str.ofString (toString i) ++ Str.ofString " by " ++ b
def entWords (t : Str) (i : Int) (b : Str) : List Str := [Str.ofString "check", t, Str.ofString (toString i), Str.ofString "by", b]
theorem ent_join (t : Str) (i : Int) (b : Str) : Txt.join zBlank (entWords t i b) = entText t i b := by
  refine TL.ext_tl ?_
  rw [TL.join_eq, TL.tl_join]
  unfold entText entWords
  simp only [TL.tl_append]
  have e1 : TL.tl (Str.ofString "check ") = TL.tl (Str.ofString "check") ++ TL.tl zBlank := by decide +kernel
  have e2 : TL.tl (Str.ofString " by ") = TL.tl zBlank ++ TL.tl (Str.ofString "by") ++ TL.tl zBlank := by decide +kernel
  have e0 : TL.tl Str.empty = [] := rfl
  rw [e1, e2, e0]
  simp only [List.map_cons, List.map_nil, TL.joinL, List.nil_append, List.append_assoc]
theorem nm_free {z : Str} (h : nmOk z = true) {c : Nat} (hc : c < 48) : c ∉ z.cps.toList := fun m => by
  unfold nmOk at h
  simp only [Bool.and_eq_true] at h
  have a := List.all_eq_true.mp h.2.2.2 c m
  have e : zLetters.cps.toList.all (fun c => decide (97 ≤ c)) = true := by decide +kernel
  rcases Bool.or_eq_true_iff.mp a with a | a
  · have := List.all_eq_true.mp e c (of_decide_eq_true a)
    have := of_decide_eq_true this
    omega
  · have := (fig_iff c).mp a
    omega
theorem ent_free {t b : Str} {i : Int} (ht : nmOk t = true) (hb : nmOk b = true) (h0 : 0 ≤ i) {c : Nat} (hc : c < 48) : ∀ p ∈ entWords t i b, c ∉ TL.tl p := by
  intro p hp
  obtain ⟨n, rfl⟩ := Int.eq_ofNat_of_zero_le h0
  simp only [entWords, List.mem_cons, List.not_mem_nil, or_false] at hp
  have low : ∀ x : Str, x.cps.toList.all (fun c => decide (48 ≤ c)) = true → c ∉ TL.tl x := fun x hx m => by
    have := of_decide_eq_true (List.all_eq_true.mp hx c m)
    omega
  rcases hp with rfl | rfl | rfl | rfl | rfl
  · exact low _ (by decide +kernel)
  · exact nm_free ht hc
  · rw [TL.tl_num]
    exact TL.numL_free (.inl hc)
  · exact low _ (by decide +kernel)
  · exact nm_free hb hc
end Q
namespace Q
open PySem PySem.Spec PyProof.Rows L2
def RetXf (G H : Hp) (cls : Addr) (fs : List (Str × V)) (E : XK) : Prop := ∀ d H' G', Same H H' → Gh G' H' → Same G G' → (∀ a, H a ≠ none → G' a = G a) → G' d = some (.xd fs) → E (.ref cls) (some d) H'
theorem retXf_of {G H G' H' : Hp} {M : List Addr} {cls d : Addr} {fs : List (Str × V)} {E : XK} (k : RetXf G H cls fs E) (w : Wd ⟨H, G, [], []⟩ G' H' M) (hd : G' d = some (.xd fs)) : E (.ref cls) (some d) H' :=
  k d H' G' (fun a o h => w.kp a o (by simp) h) w.gh w.gr w.fr hd
theorem retXf_use {e : En} {G H : Hp} {M : List Addr} {cls : Addr} {fs : List (Str × V)} {E : XK} (w : Wd e G H M) (k : ∀ d G' H', Wd e G' H' M → Same G G' → Same H H' → G' d = some (.xd fs) → E (.ref cls) (some d) H') : RetXf G H cls fs E :=
  fun d H' G' s1 s2 s3 fr hd => ret_use (P := fun _ G' => G' d = some (.xd fs)) (Q := fun _ H' => E (.ref cls) (some d) H') w (fun _ G' H' w' a b p => k d G' H' w' a b p) .non H' G' s1 s2 s3 fr hd
def textF (l k : Int) : List (Str × V) := [("word", .int k), ("line", .int l)]
def entForms : List Str := [Str.ofString "check", Str.ofString "TOOL", Str.ofString "MOMENT", Str.ofString "by", Str.ofString "TOOL"]
def canB (f z : Str) : Bool := if f = Str.ofString "TOOL" ∨ f = Str.ofString "NAME" then nmOk z else if f = Str.ofString "MOMENT" then (momW z).isSome else decide (z = f)
theorem can_ok : ∀ k, k < 5 → ∀ f z, entForms[k]? = some f → canB f z = okW k z
  | 0, _, f, z, h => by cases (show some (Str.ofString "check") = some f from h); unfold canB; rw [if_neg (by decide +kernel), if_neg (by decide +kernel)]; rfl
  | 1, _, f, z, h => by cases (show some (Str.ofString "TOOL") = some f from h); unfold canB; rw [if_pos (.inl rfl)]; rfl
  | 2, _, f, z, h => by cases (show some (Str.ofString "MOMENT") = some f from h); unfold canB; rw [if_neg (by decide +kernel), if_pos rfl]; rfl
  | 3, _, f, z, h => by cases (show some (Str.ofString "by") = some f from h); unfold canB; rw [if_neg (by decide +kernel), if_neg (by decide +kernel)]; rfl
  | 4, _, f, z, h => by cases (show some (Str.ofString "TOOL") = some f from h); unfold canB; rw [if_pos (.inl rfl)]; rfl
def spMomIn : Sp := fun vs H Q _ => ∃ (G : Hp) (z : Str), vs = [.str z] ∧ Gh G H ∧ z.length ≤ 1000000 ∧ Ret G H (fun v _ => v = optI (momW z)) Q
def spCan : Sp := fun vs H Q _ => ∃ (G : Hp) (f z : Str), vs = [.str f, .str z] ∧ Gh G H ∧ z.length ≤ 1000000 ∧ Ret G H (fun v _ => v = .bl (canB f z)) Q
def WsAt (G : Hp) (p : Addr) (ws : List Str) : Prop := G p = some (.lst (ws.map V.str)) ∧ ws.length ≤ 1000000 ∧ ∀ z ∈ ws, z.length ≤ 1000000
def spNeed (K : PySem.W.Frag) (Ct : Addr) : Sp := fun vs H Q E => ∃ (G : Hp) (l : Int) (p f : Addr) (ws : List Str) (n : Nat), vs = [.int l, .ref p, .int n, .ref f] ∧ Gh G H ∧ WsAt G p ws ∧ n ≤ 1000000 ∧ SqT K G f (entForms.map V.str) ∧
  (firstBad ws n = none → Ret G H (fun v _ => v = .non) Q) ∧ ∀ k, firstBad ws n = some k → RetXf G H Ct (textF l ((n : Int) + (k : Int))) E
def spNeedEnd (Ct : Addr) : Sp := fun vs H Q E => ∃ (G : Hp) (l : Int) (p : Addr) (ws : List Str) (n : Nat), vs = [.int l, .ref p, .int n] ∧ Gh G H ∧ WsAt G p ws ∧
  (ws.length ≤ n → Ret G H (fun v _ => v = .non) Q) ∧ (n < ws.length → RetXf G H Ct (textF l (n : Int)) E)
def LinesAt (G : Hp) (p : Addr) (z : Str) : Prop := ∃ vs q, G p = some (.lst vs) ∧ vs.length = (Txt.split z zNl).length ∧ vs[0]? = some (.ref q) ∧ WsAt G q (wordsOf z)
def spLines (K : PySem.W.Frag) (Ct : Addr) : Sp := fun vs H Q E => ∃ (G : Hp) (x : V) (t : Value), vs = [x] ∧ Gh G H ∧ Kd K G x t ∧ (∀ z, x = .str z → z.length ≤ 100000 ∧ Ret G H (fun v G' => ∃ p, v = .ref p ∧ LinesAt G' p z) Q) ∧
  ((∀ z, x ≠ .str z) → RetXf G H Ct (textF 0 0) E)
def spOneLine (Ct : Addr) : Sp := fun vs H Q E => ∃ (G : Hp) (p : Addr) (z : Str) (n : Nat), vs = [.ref p, .int n] ∧ Gh G H ∧ LinesAt G p z ∧ z.length ≤ 100000 ∧
  (¬ n < (wordsOf z).length → ¬ 1 < (Txt.split z zNl).length → Ret G H (fun v _ => v = .non) Q) ∧ (n < (wordsOf z).length → RetXf G H Ct (textF 0 (n : Int)) E) ∧ (¬ n < (wordsOf z).length → 1 < (Txt.split z zNl).length → RetXf G H Ct (textF 1 0) E)
def spEntryAt (Ct : Addr) : Sp := fun vs H Q E => ∃ (G : Hp) (p : Addr) (ws : List Str) (n : Nat), vs = [.ref p, .int n] ∧ Gh G H ∧ WsAt G p ws ∧ n ≤ 100000 ∧
  (firstBad ws n = none → ∀ t m b, ws[n + 1]? = some t → ws[n + 2]? = some m → ws[n + 4]? = some b → Ret G H (fun v G' => ∃ p, v = .ref p ∧ G' p = some (.tup [.str t, optI (momW m), .str b])) Q) ∧
  ∀ k, firstBad ws n = some k → RetXf G H Ct (textF 0 ((n : Int) + (k : Int))) E
def RightE (t : Str) (i : Int) (b : Str) : Prop := nmOk t = true ∧ nmOk b = true ∧ 0 ≤ i ∧ i ≤ 1000000000000000000000000000000
structure EnC (K : PySem.W.Frag) (C : Addr) : Prop where
  c : Cls K C
  n1 : NoAttr K C "tool"
  n2 : NoAttr K C "moment"
  n3 : NoAttr K C "by"
  n4 : NoAttr K C "face"
  ca : PySem.W.findIn K (.ref C) "__class__" = some (some (.builtin "object.__class__"))
  cn : PySem.W.specialIn K (.builtin "object.__class__") "__get__" = some (some (.builtin "getset_descriptor.__get__"))
  ct : PySem.W.takesIn K (.builtin "object.__class__") = some true
  cm : PySem.W.mroIn K C (.type "object") = some true
  me : PySem.W.kitOne K (.ref C) (.ref C) = some true
  tup : PySem.W.kitOne K (.type "tuple") (.ref C) = some false
  fme : PySem.W.notFirst K C (.ref C) = true
def faceE (t : Str) (i : Int) (b : Str) : PyData := .tuple [.str t, .int i, .str b]
def EntAt (C : Addr) (G : Hp) (a : Addr) (t : Str) (i : Int) (b : Str) : Prop := RightE t i b ∧ ∃ dx fc, G a = some (.ins C dx [("tool", .str t), ("moment", .int i), ("by", .str b), ("face", .ref fc)]) ∧ G fc = some (.tup [.str t, .int i, .str b])
theorem EntAt.same {C a : Addr} {G G' : Hp} {t b : Str} {i : Int} (h : EntAt C G a t i b) (s : Same G G') : EntAt C G' a t i b := by
  obtain ⟨r, dx, fc, h1, h2⟩ := h
  exact ⟨r, dx, fc, s _ _ h1, s _ _ h2⟩
theorem RightE.mom {t b : Str} {i : Int} (h : RightE t i b) : momV (.int i) 0 = true := by
  show (_ && _) = true
  rw [decide_eq_true h.2.2.1, decide_eq_true h.2.2.2] <;> rfl
def spEntInit (C : Addr) : Sp := fun vs H Q _ => ∃ (G : Hp) (x dx : Addr) (t : Str) (i : Int) (b : Str), vs = [.ref x, .str t, .int i, .str b] ∧ Gh G H ∧ G x = none ∧ H x = some (.ins C dx []) ∧ RightE t i b ∧
  ∀ (G' H' : Hp) (fc : Addr), But x H H' → Gh G' H' → Same G G' → (∀ a, H a ≠ none → G' a = G a) → G' fc = some (.tup [.str t, .int i, .str b]) → H' x = some (.ins C dx [("tool", .str t), ("moment", .int i), ("by", .str b), ("face", .ref fc)]) → Q .non H'
theorem u_ent {C : Addr} {e : En} {G H : Hp} {M : List Addr} {t b : Str} {i : Int} {Qv : VK} {E : XK} (w : Wd e G H M) (r : RightE t i b)
    (k : ∀ a G' H', Wd e G' H' M → Same G G' → Same H H' → EntAt C G' a t i b → Qv (.ref a) H') : MakeGo C (spEntInit C) [.str t, .int i, .str b] E H Qv := by
  refine make_go w fun x dx G1 H1 hx nm s1 t1 w1 h1 n0 => ?_
  refine ⟨G1, x, dx, t, i, b, rfl, w1.gh, (w1.mu x List.mem_cons_self).1, h1, r, fun G2 H2 fc b2 s2 s3 fr hf h2 => ⟨rfl, ?_⟩⟩
  have w2 : Wd e G2 H2 (x :: M) := by
    have w3 := wd_but w1 List.mem_cons_self b2 h2
    refine ⟨s2.1, fun a ha => ?_, w1.nd, w3.dom, fun a o h => s3 _ _ (w1.gr _ _ h), fun a ha => by rw [fr a (w1.dom a ha)]; exact w1.fr a ha, w3.kp, s2.2, w3.mt, w3.tb⟩
    obtain ⟨g1, ⟨o, g2⟩, g3⟩ := w1.mu a ha
    obtain ⟨_, g4, _⟩ := w3.mu a ha
    exact ⟨by rw [fr a (some_ne g2)]; exact g1, g4, g3⟩
  obtain ⟨w4, s4⟩ := wd_freeze w2 h2 n0
  refine k x _ H2 w4 (s1.trans (s3.trans s4)) (fun a o h => ?_) ⟨r, dx, fc, upd_same, s4 _ _ hf⟩
  refine b2 a o (fun q => ?_) (t1 _ _ h)
  subst q
  rw [hx] at h
  cases h
/-- == of an entry and an entry -/
def spEntEq (C : Addr) : Sp := fun vs H Q _ => ∃ (G : Hp) (a c : Addr) (t : Str) (i : Int) (b : Str), vs = [.ref a, .ref c] ∧ Gh G H ∧ EntAt C G a t i b ∧ EntAt C G c t i b ∧ Ret G H (fun v _ => v = .bl true) Q
def spEntStr (C : Addr) : Sp := fun vs H Q _ => ∃ (G : Hp) (a : Addr) (t : Str) (i : Int) (b : Str), vs = [.ref a] ∧ Gh G H ∧ EntAt C G a t i b ∧ Ret G H (fun v _ => v = .str (entText t i b)) Q
section
variable {K : PySem.W.Frag} {C Ct : Addr} {e : En} {G H : Hp} {M : List Addr} {Q : VK} {E : XK}
theorem EnC.ty (S : EnC K C) {a : Addr} {t b : Str} {i : Int} (h : EntAt C G a t i b) : TyX K G (.ref a) (.ref C) := by
  obtain ⟨_, dx, fc, h1, _⟩ := h
  exact .base (.ins h1 S.c S.ca S.cn S.ct S.cm)
theorem u_momIn {z : Str} (w : Wd e G H M) (h : z.length ≤ 1000000) (k : ∀ G' H', Wd e G' H' M → Same G G' → Same H H' → Q (optI (momW z)) H') : spMomIn [.str z] H Q E :=
  ⟨G, z, rfl, w.gh, h, ret_use w fun v G' H' w' s1 s2 p => by subst p; exact k G' H' w' s1 s2⟩
theorem u_can {f z : Str} (w : Wd e G H M) (h : z.length ≤ 1000000) (k : ∀ G' H', Wd e G' H' M → Same G G' → Same H H' → Q (.bl (canB f z)) H') : spCan [.str f, .str z] H Q E :=
  ⟨G, f, z, rfl, w.gh, h, ret_use w fun v G' H' w' s1 s2 p => by subst p; exact k G' H' w' s1 s2⟩
theorem u_need {l : Int} {p f : Addr} {ws : List Str} {n : Nat} (w : Wd e G H M) (h : WsAt G p ws) (hn : n ≤ 1000000) (hf : SqT K G f (entForms.map V.str)) (good : firstBad ws n = none → ∀ G' H', Wd e G' H' M → Same G G' → Same H H' → Q .non H')
    (bad : ∀ k, firstBad ws n = some k → ∀ d G' H', Wd e G' H' M → Same G G' → Same H H' → G' d = some (.xd (textF l ((n : Int) + (k : Int)))) → E (.ref Ct) (some d) H') : spNeed K Ct [.int l, .ref p, .int n, .ref f] H Q E :=
  ⟨G, l, p, f, ws, n, rfl, w.gh, h, hn, hf, fun c => ret_use w fun v G' H' w' s1 s2 p => by subst p; exact good c G' H' w' s1 s2, fun k c => retXf_use w (bad k c)⟩
theorem u_needEnd {l : Int} {p : Addr} {ws : List Str} {n : Nat} (w : Wd e G H M) (h : WsAt G p ws) (good : ws.length ≤ n → ∀ G' H', Wd e G' H' M → Same G G' → Same H H' → Q .non H')
    (bad : n < ws.length → ∀ d G' H', Wd e G' H' M → Same G G' → Same H H' → G' d = some (.xd (textF l (n : Int))) → E (.ref Ct) (some d) H') : spNeedEnd Ct [.int l, .ref p, .int n] H Q E :=
  ⟨G, l, p, ws, n, rfl, w.gh, h, fun c => ret_use w fun v G' H' w' s1 s2 p => by subst p; exact good c G' H' w' s1 s2, fun c => retXf_use w (bad c)⟩
theorem u_lines {x : V} {t : Value} (w : Wd e G H M) (hx : Kd K G x t) (hz : ∀ z, x = .str z → z.length ≤ 100000) (good : ∀ z, x = .str z → ∀ p G' H', Wd e G' H' M → Same G G' → Same H H' → LinesAt G' p z → Q (.ref p) H')
    (bad : (∀ z, x ≠ .str z) → ∀ d G' H', Wd e G' H' M → Same G G' → Same H H' → G' d = some (.xd (textF 0 0)) → E (.ref Ct) (some d) H') : spLines K Ct [x] H Q E :=
  ⟨G, x, t, rfl, w.gh, hx, fun z c => ⟨hz z c, ret_use w fun v G' H' w' s1 s2 ⟨p, e1, e2⟩ => by subst e1; exact good z c p G' H' w' s1 s2 e2⟩, fun c => retXf_use w (bad c)⟩
theorem u_oneLine {p : Addr} {z : Str} {n : Nat} (w : Wd e G H M) (h : LinesAt G p z) (hz : z.length ≤ 100000) (good : ¬ n < (wordsOf z).length → ¬ 1 < (Txt.split z zNl).length → ∀ G' H', Wd e G' H' M → Same G G' → Same H H' → Q .non H')
    (bad1 : n < (wordsOf z).length → ∀ d G' H', Wd e G' H' M → Same G G' → Same H H' → G' d = some (.xd (textF 0 (n : Int))) → E (.ref Ct) (some d) H')
    (bad2 : ¬ n < (wordsOf z).length → 1 < (Txt.split z zNl).length → ∀ d G' H', Wd e G' H' M → Same G G' → Same H H' → G' d = some (.xd (textF 1 0)) → E (.ref Ct) (some d) H') : spOneLine Ct [.ref p, .int n] H Q E :=
  ⟨G, p, z, n, rfl, w.gh, h, hz, fun c c2 => ret_use w fun v G' H' w' s1 s2 p => by subst p; exact good c c2 G' H' w' s1 s2, fun c => retXf_use w (bad1 c), fun c c2 => retXf_use w (bad2 c c2)⟩
theorem u_entryAt {p : Addr} {ws : List Str} {n : Nat} (w : Wd e G H M) (h : WsAt G p ws) (hn : n ≤ 100000)
    (good : firstBad ws n = none → ∀ t m b, ws[n + 1]? = some t → ws[n + 2]? = some m → ws[n + 4]? = some b → ∀ p G' H', Wd e G' H' M → Same G G' → Same H H' → G' p = some (.tup [.str t, optI (momW m), .str b]) → Q (.ref p) H')
    (bad : ∀ k, firstBad ws n = some k → ∀ d G' H', Wd e G' H' M → Same G G' → Same H H' → G' d = some (.xd (textF 0 ((n : Int) + (k : Int)))) → E (.ref Ct) (some d) H') : spEntryAt Ct [.ref p, .int n] H Q E :=
  ⟨G, p, ws, n, rfl, w.gh, h, hn, fun c t m b h1 h2 h3 => ret_use w fun v G' H' w' s1 s2 ⟨p, e1, e2⟩ => by subst e1; exact good c t m b h1 h2 h3 p G' H' w' s1 s2 e2, fun k c => retXf_use w (bad k c)⟩
theorem u_entEq {a c : Addr} {t b : Str} {i : Int} (w : Wd e G H M) (h1 : EntAt C G a t i b) (h2 : EntAt C G c t i b) (k : ∀ G' H', Wd e G' H' M → Same G G' → Same H H' → Q (.bl true) H') : spEntEq C [.ref a, .ref c] H Q E :=
  ⟨G, a, c, t, i, b, rfl, w.gh, h1, h2, ret_use w fun v G' H' w' s1 s2 p => by subst p; exact k G' H' w' s1 s2⟩
theorem u_entStr {a : Addr} {t b : Str} {i : Int} (w : Wd e G H M) (h1 : EntAt C G a t i b) (k : ∀ G' H', Wd e G' H' M → Same G G' → Same H H' → Q (.str (entText t i b)) H') : spEntStr C [.ref a] H Q E :=
  ⟨G, a, t, i, b, rfl, w.gh, h1, ret_use w fun v G' H' w' s1 s2 p => by subst p; exact k G' H' w' s1 s2⟩
end
theorem shaped_faceE {t b : Str} {i : Int} (h : RightE t i b) : SeqAt.shaped (faceE t i b) = true := by
  have e := nmOk_str h.1
  have e2 := nmOk_str h.2.1
  simp [faceE, SeqAt.shaped, PyData.canLay0, PyData.canLayAll0, PyData.depth, PyData.depthAll, e, e2]
theorem eq_faceE {t b : Str} {i : Int} : PyData.eqv (faceE t i b) (faceE t i b) = true := by simp [faceE, PyData.eqv, PyData.eqvAll]
end Q
namespace Q
open PySem PySem.Spec PyProof.Rows L2
abbrev tupIt (q : Addr) : Obj := { cls := .type "tuple_iterator", data := .fields #[.ref q, .int 0 0] }
abbrev enOf (z : Addr) : Obj := { cls := .type "enumerate", data := .fields #[.none, .bool false, .ref z, rawInt 0, .none, .none] }
set_option maxHeartbeats 1000000 in
theorem new_enT (q : Addr) (its : Array Value) :
    Meets (Builtin.«enumerate.__new__» ⟨[.type "enumerate", .ref q], []⟩) (fun _ R z => z.heap.IsTuple q its ∧ R (.ok (.ret (.ref (z.heap.push (tupIt q)).objs.size))) { z with heap := (z.heap.push (tupIt q)).push (enOf z.heap.objs.size) }) :=
  .of_wp fun P1 w1 A1 R1 z hz => by
    obtain ⟨h0, g0, d0, k0, o0⟩ := z
    obtain ⟨ht, hz⟩ := hz
    have sub := sub_enumerate
    have go : ∀ {A2 : Around} {E2 : Value → Shared → Prop} {Q2 : Value → Shared → Prop}, Q2 (.ref h0.objs.size) ⟨h0.push (tupIt q), g0, d0, k0, o0⟩ → wpAny (model P1 w1) A2 (pyIter (.ref q)) Q2 E2 ⟨h0, g0, d0, k0, o0⟩ :=
      fun y => (begins_tuple q its).iter P1 w1 _ _ ⟨h0, g0, d0, k0, o0⟩ _ ht y
    wp_walk using go
    refine wpAny_stack_any fun _ => wpAny_pure ?_
    split
    · rename_i cl _ _ _ _ _
      cases (cl == Value.type "enumerate") <;> (wp_walk using go; exact ⟨_, rfl, hz⟩)
    · wp_walk using go
      exact ⟨_, rfl, hz⟩
theorem call_enT {P1 : Program} {w1 : World} {A1 : Around} {E1 : Value → Shared → Prop} {z : Shared} {q : Addr} {its : Array Value} {Q1 : Value → Shared → Prop} (ht : z.heap.IsTuple q its)
    (k : ∀ h1, IsEnum h1 (z.heap.objs.size + 1) z.heap.objs.size 0 .none → h1.IsTupleIter z.heap.objs.size q 0 → (∀ b o, z.heap.get? b = some o → h1.get? b = some o) → Q1 (.ref (z.heap.objs.size + 1)) { z with heap := h1 }) :
    wpAny (model P1 w1) A1 (call (.type "enumerate") [.ref q]) Q1 E1 z := by
  have sz : (z.heap.push (tupIt q)).objs.size = z.heap.objs.size + 1 := Heap.size_push ..
  have en : IsEnum ((z.heap.push (tupIt q)).push (enOf z.heap.objs.size)) (z.heap.objs.size + 1) z.heap.objs.size 0 .none := by
    have y := Heap.get?_push_size (z.heap.push (tupIt q)) (o := enOf z.heap.objs.size) rfl
    rw [sz] at y
    exact y
  have fin := k _ en ⟨_, Heap.get?_push_of_some _ (Heap.get?_push_size _ rfl), rfl, rfl⟩ fun b o x => Heap.get?_push_of_some _ (Heap.get?_push_of_some _ x)
  have ty : { z with heap := (z.heap.push (tupIt q)).push (enOf z.heap.objs.size) }.TypeIs (.ref (z.heap.objs.size + 1)) "enumerate" := ⟨_, en, rfl⟩
  refine callType_new F.called_enumerate (by decide) (F.typeCall_enumerate_1 _) (F.newCall_enumerate_1 _) (fun _ => F.args_object_init_2 _ _) F.entry_enumerate_new (new_enT q its) ⟨ht, ?_⟩
  rw [sz]
  exact ⟨ty, fin⟩
/-- the tuple at a, each item in a new pair -/
def IteT (K : PySem.W.Frag) (a : Addr) : It :=
  ⟨fun i H => ∃ (xs : List V) (x : V), SqT K H a xs ∧ xs[i]? = some x, fun i H v H' => ∃ T x, v = .ref T ∧ H T = none ∧ H' = upd H T (.tup [.int (i : Nat), x]) ∧ ∀ xs, SqT K H a xs → xs[i]? = some x, fun i H => ∃ xs : List V, SqT K H a xs ∧ xs.length ≤ i⟩
theorem turn_enT {P : Program} {w : World} {K : PySem.W.Frag} {elts : List Expr} {kk : Nat} {tpos : Pos} {a e it : Addr} (ne : e ≠ it) (nt : a ≠ it) (nae : a ≠ e) :
    Turn P w K (.Tuple elts kk tpos) (IteT K a) [e, it] e (fun i h => (∃ old, IsEnum h e it ((i : Nat) : Int) old) ∧ h.IsTupleIter it a i) where
  mem := List.mem_cons_self
  obj := fun i h st b hb => by
    obtain ⟨⟨old, he⟩, o1, e1, _, d1⟩ := st
    simp only [List.mem_cons, List.not_mem_nil, or_false] at hb
    rcases hb with rfl | rfl
    · exact ⟨_, he, fun v q => nomatch q⟩
    · exact ⟨o1, e1, fun v q => by rw [d1] at q; cases q⟩
  keep := fun i h h' st k => let ⟨⟨old, he⟩, hi⟩ := st; ⟨⟨old, k e (by simp) _ he⟩, hi.at fun o q => k it (by simp) o q⟩
  item := by
    intro X hP hw hK hc i pins s σ H E I hf st hg
    subst hP hw hK
    obtain ⟨⟨old, he⟩, hit⟩ := st
    obtain ⟨xs, x, hq, hx⟩ := hg
    obtain ⟨its, rv, p, hz⟩ := I.tuple hq
    obtain ⟨u, hu, ru⟩ := rv.get hx
    have le : e < s.heap.objs.size := Heap.lt_size he
    have li : it < s.heap.objs.size := by obtain ⟨_, q, _⟩ := hit; exact Heap.lt_size q
    have hi : i < its.toArray.size := by
      have := (List.getElem?_eq_some_iff.mp hu).1
      simpa using this
    have hh : X.A.in1.handled = none := I.ok.hd hc
    refine wpAny_pyNext_enum_itemC (Draws.tuple hh it a nt its.toArray) he ⟨hit, p⟩ hi ne (by simp [ne, Ne.symm nae]) fun y h' tk hy ho hst hT hsz hk => ?_
    have hy2 : its.toArray[i]? = some y := hy
    have ey : u = y := by
      rw [List.getElem?_toArray, hu] at hy2
      exact Option.some.inj hy2
    subst ey
    refine ⟨_, rfl, wpAny_letOwnedTupleGo_enum (s := { s with heap := h', toks := tk + 1 }) ho fun g he' sb => ?_⟩
    have hT2 : g.get? s.heap.objs.size = some { cls := .type "tuple", data := .seq #[.int i tk, u] } := (sb.2 _ (Nat.ne_of_gt le)).trans hT
    have new : ObjOk X.prog X.w (upd H s.heap.objs.size (.tup [.int (i : Nat), x])) g s.heap.objs.size (.tup [.int (i : Nat), x]) :=
      ⟨by show 2 ≤ sizeLine; decide, [.int i tk, u], .cons ⟨_, rfl⟩ (.cons ru .nil), ⟨_, hT2, rfl, _, rfl⟩⟩
    have I1 : Inv X pins σ (upd H s.heap.objs.size (.tup [.int (i : Nat), x])) { s with heap := g, toks := tk + 1 } :=
      I.turnedNew (t' := tk + 1) (ch := [e, it]) (fun b ob hb q => (sb.2 b (fun z => hb (by simp [z]))).trans (hk b ob (fun z => hb (by simp [z])) (fun z => hb (by simp [z])) q)) hf (Nat.le_refl _) new
    refine ⟨.ref s.heap.objs.size, _, I1, rfl, ⟨_, x, rfl, I.hok.fresh (Nat.le_refl _), rfl, fun ys hy => by rw [I.tuple_inj hy hq]; exact hx⟩, ⟨⟨u, ?_⟩, hst.1.at fun o q => (sb.2 it ne.symm).trans q⟩, fun b hb => ?_⟩
    · have e1 : ((i + 1 : Nat) : Int) = (i : Int) + 1 := by omega
      rw [e1]
      exact he'
    · have lb : b < s.heap.objs.size := by
        rcases List.mem_cons.mp hb with z | z
        · rw [z]; exact le
        · rw [List.mem_singleton.mp z]; exact li
      rw [upd_ne (Nat.ne_of_lt lb)]
      exact (hf b hb).1
  done := by
    intro X hP hw hK hc i pins s σ H E I hf st hg
    subst hP hw hK
    obtain ⟨⟨old, he⟩, hit⟩ := st
    obtain ⟨xs, hq, hx⟩ := hg
    obtain ⟨its, rv, p, hz⟩ := I.tuple hq
    obtain ⟨f0, f1, f2, f3, f4, f5⟩ := hf it (by simp)
    have hl := rv.length
    have hh : X.A.in1.handled = none := I.ok.hd hc
    have D : Draws X.prog X.w X.A.in1 it [it, a] its.toArray.size (fun j v => its.toArray[j]? = some v) (fun j h => ∃ m, (m = j ∨ its.toArray.size ≤ m ∧ its.toArray.size ≤ j) ∧ h.IsTupleIter it a m ∧ h.IsTuple a its.toArray) :=
      ⟨fun _ _ ⟨_, _, y, _⟩ => let ⟨o, ho, _⟩ := y; ⟨o, ho⟩, fun _ _ _ ⟨m, hm, y1, y2⟩ hk => ⟨m, hm, y1.at fun o q => hk it (by simp) o q, y2.at fun o q => hk a (by simp) o q⟩, fun j s2 Q2 E2 hj ⟨m, hm, y1, y2⟩ h2 => by
        obtain rfl : m = j := by omega
        exact (Draws.tuple hh it a nt its.toArray).item m s2 Q2 E2 hj ⟨y1, y2⟩ fun x h' tk a1 a2 a3 => h2 x h' tk a1 ⟨m + 1, .inl rfl, a2⟩ a3, fun s2 Q2 E2 ⟨m, hm, y1, y2⟩ h2 => by
        have le : its.toArray.size ≤ m := by omega
        exact wpAny_nextOf_tuple_end hh y1 y2 (by simpa using le) h2⟩
    have le : its.toArray.size ≤ i := by
      have e : its.toArray.size = its.length := by simp
      omega
    exact wpAny_pyNext_enum_endD D he ⟨i, .inr ⟨le, Nat.le_refl _⟩, hit, p⟩ fun h' eb => ⟨rfl, I.turned (t' := s.toks) (fun b o hb q => eb b o hb q) f0 f1 f3 f4 f5⟩
  self := fun A i s Q E st h => let ⟨⟨_, he⟩, _⟩ := st; wpAny_pyIter_enum he h
def iEnumT (K : PySem.W.Frag) (ta : TA) : TI := fun σ H R => ta σ H fun vs H1 => ∃ a xs, vs = [.ref a] ∧ SqT K H1 a xs ∧ R (IteT K a) H1
theorem pi_enumT {X : Cx} {e : Expr} {ta : TA} {p pos tpos : Pos} {elts : List Expr} {kk : Nat} (hg : Gl X "enumerate") (hm : X.mg "enumerate" = none) (ha : PA X [e] ta) (hs : starEach [e] X.env = [(false, eval e X.env)] := by rfl) :
    PI X (.Tuple elts kk tpos) (.Call (.Name "enumerate" p) [e] [] pos) (iEnumT X.K ta) := by
  refine ⟨fun pins s σ H R I0 q0 => Call_ (ld_blt I0 hg hm boot_enumerate (PyProof.Rows.callWith_type1 (thn (ha.run pos pins s σ H _ I0 q0) fun us s1 z => ?_) hs rfl))⟩
  obtain ⟨_, H1, I1, r1, a, xs, rfl, hq, q⟩ := z
  obtain ⟨_, rfl, ra⟩ := Vals.one r1
  cases (show _ = Value.ref a from ra)
  obtain ⟨its, rv, pt, hz⟩ := I1.tuple hq
  have la : a < s1.heap.objs.size := by obtain ⟨o, y, _⟩ := id pt; exact Heap.lt_size y
  refine call_enT pt fun h' he hit hk => wpAny_pyIter_enum he ?_
  have I2 : Inv X pins σ H1 { s1 with heap := h' } := I1.kept (t' := s1.toks) hk
  refine ⟨s1.heap.objs.size + 1, [s1.heap.objs.size + 1, s1.heap.objs.size], _, _, H1, rfl, I2, turn_enT (Nat.succ_ne_self _) (Nat.ne_of_lt la) (Nat.ne_of_lt (Nat.lt_succ_of_lt la)), ⟨⟨.none, he⟩, hit⟩, fun b hb => ?_, q⟩
  have lb : s1.heap.objs.size ≤ b := by
    rcases List.mem_cons.mp hb with z | z
    · rw [z]
      exact Nat.le_succ _
    · rw [List.mem_singleton.mp z]
      exact Nat.le_refl _
  exact I1.fpOk lb (I1.hok.fresh lb)
theorem walk_enumT {K : PySem.W.Frag} {a : Addr} {xs : List V} : Walk (IteT K a) xs.length (fun H => SqT K H a xs) (YPair (fun i => some (.int (i : Nat))) (fun i => xs[i]?)) :=
  ⟨fun i _ hi q => ⟨xs, xs[i], q, by simp [hi]⟩, fun _ q => ⟨xs, q, Nat.le_refl _⟩, fun i H v H' _ q ⟨T, x, h1, h2, h3, h4⟩ => ⟨T, .int (i : Nat), x, h1, h2, h3, rfl, h4 xs q⟩⟩
theorem r_iEnumT {K : PySem.W.Frag} {ta : TA} {σ : L2.St} {H : Hp} {R : It → Hp → Prop} (q : ta σ H fun vs H1 => ∃ a xs, vs = [.ref a] ∧ SqT K H1 a xs ∧ R (IteT K a) H1) : iEnumT K ta σ H R := q
theorem r_iEnumTR {K : PySem.W.Frag} {H : Hp} {R : Addr → Prop} {a : Addr} {xs : List V} (h : SqT K H a xs) (q : R a) : ∃ b xs, [V.ref a] = [.ref b] ∧ SqT K H b xs ∧ R b := ⟨a, xs, rfl, h, q⟩
end Q
namespace Q
open PySem PySem.Spec PyProof.Rows L2
def SplitGo (x : V) (xs : List V) (H : Hp) (Q : VK) : Prop := ∃ a b, x = .str a ∧ xs = [.str b] ∧ (b.length == 0) = false ∧ a.length + 2 ≤ sizeLine ∧ rNewStrs (Txt.split a b) H Q
def SplitGoM (x : V) (xs : List V) (H : Hp) (Q : VK) : Prop := SplitGo x xs H Q
theorem pe_splitQ {X : Cx} {o e : Expr} {to te : TE} {apos pos : Pos} (ho : PE X o to) (he : PE X e te) (hs : starEach [e] X.env = [(false, eval e X.env)] := by rfl) (hb : attributeBase o "split" X.env (eval o X.env) = eval o X.env := by rfl) (hl : (apos.endLine == pos.line) = true := by rfl) :
    PE X (.Call (.Attribute o "split" apos) [e] [] pos) (tM1 SplitGo to te) := pe_split ho he hs hb hl
theorem pe_splitM {X : Cx} {o e : Expr} {to te : TE} {apos pos : Pos} (ho : PE X o to) (he : PE X e te) (hs : starEach [e] X.env = [(false, eval e X.env)] := by rfl) (hb : attributeBase o "split" X.env (eval o X.env) = eval o X.env := by rfl) (hl : (apos.endLine == pos.line) = true := by rfl) :
    PE X (.Call (.Attribute o "split" apos) [e] [] pos) (tM1 SplitGoM to te) := pe_split ho he hs hb hl
section
variable {e : En} {G H : Hp} {M : List Addr} {l : Addr} {xs : List V} {y : V} {Qv : VK}
theorem split_sz {a b : Str} (hb : (b.length == 0) = false) (ha : a.length ≤ 900000) : (Txt.split a b).length ≤ sizeLine := by
  have h1 : 1 ≤ b.length := by
    have := beq_eq_false_iff_ne.mp hb
    omega
  have := split_len (x := a) (y := b) h1
  exact sz_m (by omega)
theorem r_split {a b : Str} (hb : (b.length == 0) = false) (ha : a.length ≤ 900000) (q : Lay (Txt.split a b).length (.lst ((Txt.split a b).map V.str)) Qv H) : SplitGo (.str a) [.str b] H Qv :=
  ⟨a, b, rfl, rfl, hb, sz_m (by omega), fun p hp => q.2 p hp⟩
theorem r_splitM {a b : Str} (hb : (b.length == 0) = false) (ha : a.length ≤ 900000) (q : LayM (Txt.split a b).length (.lst ((Txt.split a b).map V.str)) Qv H) : SplitGoM (.str a) [.str b] H Qv :=
  ⟨a, b, rfl, rfl, hb, sz_m (by omega), fun p hp => q.2 p hp⟩
theorem r_popM {n : Nat} (w : Wd e G H M) (hm : l ∈ M) (h : H l = some (.lst xs)) (hn : n ≤ 1000000) (hy : xs[n]? = some y) (q : ∀ H', Wd e G H' M → H' l = some (.lst (xs.eraseIdx n)) → But l H H' → Qv y H') : rPopAt (.ref l) [.int (n : Int)] H Qv := by
  have hlt : n < xs.length := (List.getElem?_eq_some_iff.mp hy).1
  refine ⟨l, xs, n, n, y, rfl, rfl, h, by omega, by omega, ?_, hy, q _ (wd_mut w hm) upd_same but_upd⟩
  have e : ixN xs.length (n : Int) = some n := by
    unfold ixN
    rw [if_pos (Int.natCast_nonneg _), if_pos (by omega)]
    rfl
  exact (ixN_seq e).1
end
end Q
namespace Q
open PySem PySem.Spec PyProof.Rows L2
theorem WsAt.same {G G' : Hp} {p : Addr} {ws : List Str} (h : WsAt G p ws) (s : Same G G') : WsAt G' p ws := ⟨s _ _ h.1, h.2⟩
theorem LinesAt.same {G G' : Hp} {p : Addr} {z : Str} (h : LinesAt G p z) (s : Same G G') : LinesAt G' p z := by
  obtain ⟨vs, q, h1, h2, h3, h4⟩ := h
  exact ⟨vs, q, s _ _ h1, h2, h3, h4.same s⟩
end Q
namespace Q
open PySem PySem.Spec PyProof.Rows L2
structure CmD (P : Program) (w : World) (K : PySem.W.Frag) (mg : Str → Option Value) (base : Heap) (CX : CXT) (k : Nat) (C : Addr) (m : Str) (sp : Sp) : Prop where
  ex : ∃ (mc : Value) (p g : Addr) (fd : FuncData) (ps : List Str), ClX.CRead K C mc ∧ ClX.CMet K C mc m p g ∧ Binds K fd ps [] ∧ FnOk P w K mg base CX k g fd ps sp
structure CmK (P : Program) (w : World) (K : PySem.W.Frag) (mg : Str → Option Value) (base : Heap) (CX : CXT) (k : Nat) (C : Addr) (m : Str) (ks : List Str) (gV : List V → List V → List V) (sp : Sp) : Prop where
  ex : ∃ (mc : Value) (p g : Addr) (fd : FuncData) (ps : List Str) (gg : List Value → List Value → List Value), ClX.CRead K C mc ∧ ClX.CMet K C mc m p g ∧ KBn K fd ps 1 ks gg gV ∧ FnOk P w K mg base CX k g fd ps sp
def tCm (C : Addr) (sp : Sp) (E : XK) (ta : TE) (t : TA) : TE := fun σ H Q => ta σ H fun x H1 => StatGo C x (t σ H1 fun vs H2 => sp (.ref C :: vs) H2 Q E)
def tCmK (C : Addr) (n : Nat) (sp : Sp) (E : XK) (ta : TE) (t : TA) (gV : List V → List V → List V) : TE := fun σ H Q => ta σ H fun x H1 => StatGo C x (t σ H1 fun zs H2 => zs.length = n ∧ sp (gV [.ref C] zs) H2 Q E)
section
variable {X : Cx} {CX : CXT} {k j i : Nat} {C p g : Addr} {mc : Value} {sp : Sp} {E : XK} {o e : Expr} {es : List Expr} {m x y : Str} {pos apos np : Pos} {ta : TE} {t : TA} {pl : Sem Bool} {ks : List Str} {kws : List Keyword} {gV : List V → List V → List V} {dvs : List V}
theorem run_cmA {q : Addr} {pins : List (Addr × Obj)} {σ : L2.St} {H : Hp} {s : Shared} {Q : VK} {us : List Value} {kw : List (Str × Value)} {al : List Value} {vs : List V} {f : FuncData} {ps : List Str} (I : Inv X ((q, PySem.W.methodObj (.ref g) (.ref C)) :: pins) σ H s)
    (F : FnOk X.prog X.w X.K X.mg X.base CX k g f ps sp) (hr : Room k X.A) (hx : Passes CX X E) (hb : BindsTo s f ⟨.ref C :: us, kw⟩ (ps.zip al)) (r : Vals vs al) (h : sp vs H Q E) :
    wpAny (model X.prog X.w) X.A (call (.ref q) us kw) (EP X pins σ Q) X.xe s := by
  refine wpAny_call (PySem.W.method_call (ClX.pin_at I) (codeAny_mono (F.run X.A X.stack s H ⟨.ref C :: us, kw⟩ al vs Q E hr I.env0 hb r h) fun o s' hq => ?_))
  match o, hq with
  | .error e, hq => exact hx _ σ H s e s' I hq
  | .ok (.ret u), hq => exact ClX.unpinE (I.after hq)
  | .ok .next, hq => exact hq.elim
  | .ok .brk, hq => exact hq.elim
  | .ok .cont, hq => exact hq.elim
theorem pe_cmD (he : PE X o ta) (D : CmD X.prog X.w X.K X.mg X.base CX k C m sp) (hr : Room j X.A) (hx : Passes CX X E) (ha : PA X (e :: es) t) (hj : k ≤ j := by decide)
    (hst : starEach (e :: es) X.env = (false, eval e X.env) :: starEach es X.env := by rfl) (hpl : (backTo pos (starEach es X.env)).any (·.1) = false := by rfl)
    (ht : eval (.Call (.Attribute o m apos) (e :: es) [] pos) X.env = (do
      let ov ← eval o X.env
      standAt apos.atName
      let (f, first) ← holding [ov] (getMethod ov m pl)
      callWith pos f first (backTo pos (starEach (e :: es) X.env)) (backToKw pos (keywordEach [] X.env))) := by rfl) : PE X (.Call (.Attribute o m apos) (e :: es) [] pos) (tCm C sp E ta t) := by
  obtain ⟨mc, p, g, fd, ps, r, c, hb, F⟩ := D.ex
  refine ⟨fun pins s σ H Q I h => ?_⟩
  refine PySem.W.methodCall_KW (pl := pl) (thn (he.run pins s σ H _ I h) fun u s1 told => ?_) ht
  obtain ⟨x, H1, I1, rx, ex, q⟩ := told
  subst ex
  obtain rfl : u = Value.ref C := rx
  refine ClX.getmethcm_ok I1 r c fun s2 I2 => ?_
  refine ClX.callwith_cm I2 (ClX.base_none I1 (Nat.le_refl _)) c.fi (thn (ha.run pos _ s2 σ H1 _ I2 q) fun us s3 told => ?_) hst hpl
  obtain ⟨vs, H2, I3, rv, q2⟩ := told
  refine ⟨⟨ClX.pin_at I3, I3.kIn⟩, run_cmA (al := .ref C :: us) (vs := .ref C :: vs) I3 F (hr.mono hj) hx ?_ (.cons rfl rv) q2⟩
  have l := F.len _ _ _ _ q2
  have b := hb s3 (.ref C :: us) I3.kIn (by rw [List.append_nil, ← l, List.length_cons, List.length_cons, rv.length])
  rw [List.append_nil] at b
  exact b
theorem pe_cmKD (he : PE X o ta) (D : CmK X.prog X.w X.K X.mg X.base CX k C m ks gV sp) (hr : Room j X.A) (hx : Passes CX X E) (hkw : PK X kws t) (hj : k ≤ j := by decide)
    (hall : (backToKw pos (keywordEach kws X.env)).all (·.1.isSome) = true := by rfl) (hks : (backToKw pos (keywordEach kws X.env)).filterMap (·.1) = ks := by rfl)
    (hpl : ((backTo pos (starEach [] X.env)).any (·.1) || (backToKw pos (keywordEach kws X.env)).any (·.1.isNone)) = false := by rfl)
    (ht : eval (.Call (.Attribute o m apos) [] kws pos) X.env = (do
      let ov ← eval o X.env
      standAt apos.atName
      let (f, first) ← holding [ov] (getMethod ov m pl)
      callWith pos f first (backTo pos (starEach [] X.env)) (backToKw pos (keywordEach kws X.env))) := by rfl) : PE X (.Call (.Attribute o m apos) [] kws pos) (tCmK C ks.length sp E ta t gV) := by
  obtain ⟨mc, p, g, fd, ps, gg, r, c, hb, F⟩ := D.ex
  refine ⟨fun pins s σ H Q I h => ?_⟩
  refine PySem.W.methodCall_KW (pl := pl) (thn (he.run pins s σ H _ I h) fun u s1 told => ?_) ht
  obtain ⟨x, H1, I1, rx, ex, q⟩ := told
  subst ex
  obtain rfl : u = Value.ref C := rx
  refine ClX.getmethcm_ok I1 r c fun s2 I2 => ?_
  refine PySem.W.callWith_of (P := PySem.W.MethP X.K s1.heap.objs.size g (.ref C)) hpl (PySem.W.keeps_M c.fi) (evalArgs_kw2_nil hall (thn (hkw.run pos _ s2 σ H1 _ I2 q) fun ws s3 told => ?_))
  obtain ⟨zs, H2, I3, rz, l2, q2⟩ := told
  have e2 : ws.length = ks.length := rz.length.symm.trans l2
  refine ⟨⟨ClX.pin_at I3, I3.kIn⟩, ?_⟩
  rw [hks]
  exact run_cmA I3 F (hr.mono hj) hx (hb.to _ [.ref C] ws I3.kIn rfl e2) (hb.rel (show Vals [V.ref C] [Value.ref C] from .cons rfl .nil) rz) q2
end
section
variable {C : Addr} {sp : Sp} {E : XK} {ta : TE} {t : TA} {σ : L2.St} {H : Hp} {Qv : VK} {n i : Nat} {gV : List V → List V → List V} {dvs : List V}
theorem r_tCm (q : ta σ H fun x H1 => StatGo C x (t σ H1 fun vs H2 => sp (.ref C :: vs) H2 Qv E)) : tCm C sp E ta t σ H Qv := q
theorem r_tCmK (q : ta σ H fun x H1 => StatGo C x (t σ H1 fun zs H2 => zs.length = n ∧ sp (gV [.ref C] zs) H2 Qv E)) : tCmK C n sp E ta t gV σ H Qv := q
end
end Q
namespace Q
open PySem PySem.Spec PyProof.Rows L2
/-- what a clause that takes every exception of the body wishes of it; the exception is told within the suite already -/
def wTold (K : PySem.W.Frag) (c : Value) (i m : Nat) (ts : Addr → Value → Option Addr → TS) (D : Ends) : WX := fun cls d σ H => PySem.W.exmOne K cls c = some true ∧ ∀ a, H a = none → σ.length = m →
  ts a cls d { nx := fun τ G => D.nx (τ.set i none) G, rt := D.rt, bk := fun τ G => D.bk (τ.set i none) G, ct := fun τ G => D.ct (τ.set i none) G } (σ.set i (some (.ref a))) (upd H a (ExK cls d a))
section
variable {X : Cx} {x n : Str} {c : Value} {i : Nat} {body rest : List Stmt} {first : Stmt} {np tp hp : Pos} {tb : WX → TS} {ts : Addr → Value → Option Addr → TS}
theorem ps_try_told (hst : X.stack = X.env :: X.outer) (hfr : X.env.frame = some X.env.locals) (hN : X.N.Nodup) (hi : X.N[i]? = some n) (hln : X.env.kindOf n = some .local) (hc : Names X x c)
    (hb : ∀ (W : WX) (pn : List (Addr × Obj)) (xe : Value → Shared → Prop), Takes (X.tr pn xe) W → PassesOwn (model X.prog X.w) X.A X.env xe → PSs (X.tr pn xe) body (tb W))
    (hs : ∀ (a : Addr) (oe : Obj) (cls : Value) (d : Option Addr) (pn : List (Addr × Obj)), Zc cls d oe → (∃ vs, oe.data = .fields vs) → PSs (X.suite a pn) (first :: rest) (ts a cls d)) :
    PS X (.Try body [.ExceptHandler (some (.Name x np)) (some n) (first :: rest) hp] [] [] tp) (fun D σ H => tb (wTold X.K c i X.N.length ts D) D σ H) := by
  refine ⟨fun pins s σ H D I0 h0 => ?_⟩
  have hok := I0.ok
  have frames : X.A.frames = some (X.env :: X.outer) := by
    rw [hok.frames, hst]
  let clause : List ExceptHandler := [.ExceptHandler (some (.Name x np)) (some n) (first :: rest) hp]
  let caught : Value → Shared → Prop := fun e t => wpAny (model X.prog X.w) X.A (noteFrame e X.env) (fun _ t2 => wpAny (model X.prog X.w) X.A (setFlight e none)
    (fun _ t3 => wpAny (model X.prog X.w) X.A (handleBy e X.env clause) (SP X pins D) X.xe t3) X.xe t2) X.xe t
  refine wpAny_Try_except ?_
  have catches : Takes (X.tr (X.pn ++ pins) caught) (wTold X.K c i X.N.length ts D) := by
    rintro u t ⟨a, B, sI, pins1, σ1, H1, cls, d, rfl, J0, ground, up, sky, na, os, ag, takes, suite⟩
    have J : Inv X pins σ1 H1 sI := J0.ofTry hok
    have air : Sky B (X.env :: X.outer) a (Zc cls d) X.env.locals t.heap := by
      rw [← hst]
      exact sky
    show wpAny (model X.prog X.w) X.A (noteFrame (.ref a) X.env) _ _ t
    refine Sky.land Zc.steady frames hfr air fun h3 fl3 up3 => ?_
    have J3 : Inv X pins σ1 H1 { t with heap := h3 } := J.landed ground fl3.1 (up.trans up3) os ag
    obtain ⟨oe3, vs3, at3, z3, d3⟩ := fl3.there
    have offF : a ∉ frs (X.env :: X.outer) := fun hm => by
      obtain ⟨_, o2, e2, nf⟩ := fl3.2.2.1.mem hm
      obtain rfl := Option.some.inj (at3.symm.trans e2)
      exact nf _ d3
    have offL : a ≠ X.env.locals := fun z => by
      refine offF (List.mem_filterMap.mpr ⟨X.env, List.mem_cons_self, ?_⟩)
      rw [hfr, z]
    have offO : a ∉ X.fs := fun hm => by
      obtain ⟨e, he, q⟩ := List.mem_filterMap.mp hm
      exact offF (List.mem_filterMap.mpr ⟨e, List.mem_cons_of_mem _ he, q⟩)
    have offS : a ∉ frs X.stack := by
      rw [hst]
      exact offF
    have gone : ∀ o, sI.heap.get? a = some o → False := fun o z => by
      have y := ground a o z offS
      rw [fl3.2.1] at y
      cases y
    have far : ∀ o, X.s_0.heap.get? a = some o → X.H_0 a = none → a ∉ X.ex → False := fun o z n nx => gone o (J.base.keep a o z n offO nx)
    have apart : ∀ p ∈ X.pn ++ pins, p.1 ≠ a := fun p hp z => by
      have y := (J.pin p hp).1
      rw [z] at y
      exact gone _ y
    have S3 := J3.suite at3 d3 na offL offO
    refine wpAny_handleBy_cons (codeAny_handlers_test ?_) (by intro q; cases q)
    have ty : PySem.W.Looks (model X.prog X.w) h3 (typeOf (.ref a)) cls := fun A Q E s k q => by
      refine wpAny_typeOf_ref (k _ _ at3) ?_
      rw [z3.1]
      exact q
    have match_ := PySem.W.exm_one (M := model X.prog X.w) J3.kIn ty takes
    have named : ∀ {Q E : Value → Shared → Prop}, Q c { t with heap := h3 } → wpAny (model X.prog X.w) (X.A.mark (some (.ref a))) (eval (.Name x np) X.env) Q E { t with heap := h3 } := by
      intro Q E q
      obtain ⟨hg, hdbg, y⟩ := hc
      rcases y with hm | ⟨hm, hv, hnn⟩
      · exact ld_glob (X := X.suite a ((a, oe3) :: (X.pn ++ pins))) S3 hg hm q hdbg
      · exact ld_blt (X := X.suite a ((a, oe3) :: (X.pn ++ pins))) S3 hg hm hv q hnn hdbg
    refine named (match_.here (codeAny_handlers_suite_as ?_))
    refine HandSPX.lands_againZ fl3 fun h4 fl4 up4 => ?_
    have J4 : Inv X pins σ1 H1 { t with heap := h4 } := J.landed ground fl4.1 ((up.trans up3).trans up4) os ag
    obtain ⟨oe4, vs4, at4, z4, d4⟩ := fl4.there
    have S4 := J4.suite at4 d4 na offL offO
    refine store_ok (X := X.suite a ((a, oe4) :: (X.pn ++ pins))) (v := .ref a) S4 hN hi (.inl hln) rfl (fun s5 S5 => ?_) (.inr hln)
    have T5 : Inv (X.suite a (X.pn ++ pins)) [(a, oe4)] (σ1.set i (some (.ref a))) H1 s5 := ⟨hok.suite _ _, S5.os, S5.bare, S5.base, S5.loc, S5.cell, S5.free, S5.freeC, fun p hp => S5.pin p (by
      rcases List.mem_append.mp hp with q | q
      · exact List.mem_append_left _ (List.mem_cons_of_mem _ q)
      · rw [List.mem_singleton.mp q]
        exact List.mem_append_left _ List.mem_cons_self), S5.hok, S5.len⟩
    have U5 := track_exc (d := d) (cls := cls) T5 z4 d4 far (fun p hp => apart p (by rw [List.append_nil] at hp; exact hp))
    have go := (hs a oe4 cls d (X.pn ++ pins) z4 ⟨_, d4⟩).run [] s5 _ _ _ U5 (suite a na J.len)
    refine wpAny_mono go (fun f s6 done => ?_) fun _ _ z => z.elim
    have leave : ∀ {τ : L2.St} {G : Hp} {R : Shared → Prop}, Inv (X.suite a (X.pn ++ pins)) [] τ G s6 → (∀ s7, Inv X pins (τ.set i none) G s7 → R s7) →
        wpAny (model X.prog X.w) X.A (do bindName X.env n .none; unbindBehindTheSuite X.env n hp) (fun _ s7 => R s7) X.xe s6 := by
      intro τ G R S6 k
      exact gone_ok (X := X) (pins := pins) ⟨hok, S6.os, S6.bare, S6.base, S6.loc, S6.cell, S6.free, S6.freeC, fun p hp => S6.pin p (List.mem_append_left _ hp), S6.hok, S6.len⟩ hN hi hln fun s7 J7 => k s7 J7
    match f, done with
    | .next, done =>
      obtain ⟨τ, G, S6, q⟩ := done
      exact leave S6 fun s7 J7 => ⟨_, _, J7, q⟩
    | .brk, done =>
      obtain ⟨τ, G, S6, q⟩ := done
      exact leave S6 fun s7 J7 => ⟨_, _, J7, q⟩
    | .cont, done =>
      obtain ⟨τ, G, S6, q⟩ := done
      exact leave S6 fun s7 J7 => ⟨_, _, J7, q⟩
    | .ret u, done =>
      obtain ⟨v, τ, G, S6, r, q⟩ := done
      exact leave S6 fun s7 J7 => ⟨_, _, _, J7, r, q⟩
  have go := (hb (wTold X.K c i X.N.length ts D) (X.pn ++ pins) caught catches PassesOwn.looking).run [] s σ H D (I0.toTry _) h0
  refine wpAny_mono go (fun f s1 done => ?_) fun e s1 z => z
  match f, done with
  | .next, done =>
    obtain ⟨τ, G, J1, q⟩ := done
    exact wpAny_execs_nil ⟨τ, G, J1.ofTry hok, q⟩
  | .brk, done =>
    obtain ⟨τ, G, J1, q⟩ := done
    exact ⟨τ, G, J1.ofTry hok, q⟩
  | .cont, done =>
    obtain ⟨τ, G, J1, q⟩ := done
    exact ⟨τ, G, J1.ofTry hok, q⟩
  | .ret u, done =>
    obtain ⟨v, τ, G, J1, r, q⟩ := done
    exact ⟨v, τ, G, J1.ofTry hok, r, q⟩
end
/-- try: return e, one clause -/
def tTryRet (K : PySem.W.Frag) (c : Value) (i m : Nat) (tl : XK → TE) (ts : Addr → Value → Option Addr → TS) : TS := fun D σ H =>
  ∃ Ech : XK, (∀ cls d σ' H', Ech cls d H' → wTold K c i m ts D cls d σ' H') ∧ tl Ech σ H D.rt
section
variable {X : Cx} {x n : Str} {c : Value} {i : Nat} {e : Expr} {rest : List Stmt} {first : Stmt} {np tp hp rp : Pos} {tl : XK → TE} {ts : Addr → Value → Option Addr → TS}
theorem ps_tryRet (hst : X.stack = X.env :: X.outer) (hfr : X.env.frame = some X.env.locals) (hN : X.N.Nodup) (hi : X.N[i]? = some n) (hln : X.env.kindOf n = some .local) (hc : Names X x c)
    (he : ∀ (W : WX) (pn : List (Addr × Obj)) (xe : Value → Shared → Prop) (E : XK), Takes (X.tr pn xe) W → (∀ cls d σ' H', E cls d H' → W cls d σ' H') → PE (X.tr pn xe) e (tl E))
    (hs : ∀ (a : Addr) (oe : Obj) (cls : Value) (d : Option Addr) (pn : List (Addr × Obj)), Zc cls d oe → (∃ vs, oe.data = .fields vs) → PSs (X.suite a pn) (first :: rest) (ts a cls d)) :
    PS X (.Try [.Return (some e) rp] [.ExceptHandler (some (.Name x np)) (some n) (first :: rest) hp] [] [] tp) (tTryRet X.K c i X.N.length tl ts) := by
  refine ps_try_told (ts := ts) (tb := fun W D σ H => ∃ Ech : XK, (∀ cls d σ' H', Ech cls d H' → W cls d σ' H') ∧ tl Ech σ H D.rt) hst hfr hN hi hln hc (fun W pn xe tk _ => ?_) hs
  refine pss_one ⟨fun pins s' σ H' D I h' => ?_⟩
  obtain ⟨Ech, hW, h1⟩ := h'
  exact (ps_ret (he W pn xe Ech tk hW)).run pins s' σ H' D I h1
end
end Q
namespace Q
open PySem PySem.Spec PyProof.Rows L2
theorem low_str {z : Str} (h : Low z) : PyData.strOk z = true := by
  unfold PyData.strOk
  rw [Array.all_eq_true_iff_forall_mem]
  intro c hc
  exact decide_eq_true (Nat.lt_of_lt_of_le (h c (Array.mem_toList_iff.mpr hc)) (by decide))
def optP (G : Hp) (o : Option (Int × Int)) (v : V) : Prop := match o with
  | none => v = .non
  | some (l, k) => ∃ p, v = .ref p ∧ G p = some (.tup [.int l, .int k])
theorem optP.same {G G' : Hp} {o : Option (Int × Int)} {v : V} (h : optP G o v) (s : Same G G') : optP G' o v := by
  cases o with
  | none => exact h
  | some q =>
    obtain ⟨p, e, hp⟩ := h
    exact ⟨p, e, s _ _ hp⟩
def spMomL : Sp := fun vs H Q _ => ∃ (G : Hp) (z : Str), vs = [.str z] ∧ Gh G H ∧ z.length ≤ 1000000 ∧ PyData.strOk z = true ∧ Ret G H (fun v _ => v = .bl (momW z).isSome) Q
section
variable {K : PySem.W.Frag} {C : Addr} {e : En} {G H : Hp} {M : List Addr} {Q : VK} {E : XK}
theorem u_momL {z : Str} (w : Wd e G H M) (h : z.length ≤ 1000000) (ht : PyData.strOk z = true) (k : ∀ G' H', Wd e G' H' M → Same G G' → Same H H' → Q (.bl (momW z).isSome) H') : spMomL [.str z] H Q E :=
  ⟨G, z, rfl, w.gh, h, ht, ret_use w fun v G' H' w' s1 s2 p => by subst p; exact k G' H' w' s1 s2⟩
end
theorem two_show {l k : Int} (h : (l = 0 ∧ ∃ n : Nat, n ≤ 5 ∧ k = (n : Int)) ∨ (l = 1 ∧ k = 0)) : (PyData.tuple [.int l, .int k]).showable = true ∧ (PyData.tuple [.int l, .int k]).depth ≤ 60 ∧ (PyData.tuple [.int l, .int k]).shown.length ≤ sizeLine := by
  rcases h with ⟨rfl, n, hn, rfl⟩ | ⟨rfl, rfl⟩
  · match n, hn with
    | 0, _ => decide +kernel
    | 1, _ => decide +kernel
    | 2, _ => decide +kernel
    | 3, _ => decide +kernel
    | 4, _ => decide +kernel
    | 5, _ => decide +kernel
  · decide +kernel
theorem ent_low {t b : Str} {i : Int} (ht : nmOk t = true) (hb : nmOk b = true) : Low (entText t i b) := by
  have nm : ∀ {z : Str}, nmOk z = true → Low z := fun {z} h c hc => by
    unfold nmOk at h
    simp only [Bool.and_eq_true] at h
    have a := List.all_eq_true.mp h.2.2.2 c hc
    have e : zLetters.cps.toList.all (fun c => decide (c < 128)) = true := by decide +kernel
    rcases Bool.or_eq_true_iff.mp a with a | a
    · exact of_decide_eq_true (List.all_eq_true.mp e c (of_decide_eq_true a))
    · have := (fig_iff c).mp a
      omega
  unfold entText
  exact low_app (low_app (low_app (low_app (low_app (low_app (low_of (by decide +kernel)) (low_of (by decide +kernel))) (nm ht)) (low_of (by decide +kernel))) (low_num i)) (low_of (by decide +kernel))) (nm hb)
theorem ent_len {t b : Str} {i : Int} (r : RightE t i b) : (entText t i b).length ≤ 60 := by
  have l1 := nmOk_len r.1
  have l2 := nmOk_len r.2.1
  have l3 := lenZ r.2.2.1 r.2.2.2
  unfold entText
  simp only [Str.length_append]
  have e0 : Str.empty.length = 0 := rfl
  have e1 : (Str.ofString " ").length = 1 := rfl
  have e2 : (Str.ofString "check ").length = 6 := rfl
  have e3 : (Str.ofString " by ").length = 4 := rfl
  omega
end Q
namespace Q
open PySem PySem.Spec PyProof.Rows L2
theorem iteN {c : Bool} {A B : Prop} (h : c = false) (b : B) : if c = true then A else B := by rw [h]; exact b
theorem iteY {c : Bool} {A B : Prop} (h : c = true) (a : A) : if c = true then A else B := by rw [h]; exact a
def rMulS : R2 := fun x y H Q => ∃ (a : Str) (n : Nat), x = .str a ∧ y = .int (n : Int) ∧ a.length ≤ 1 ∧ n ≤ 1000 ∧ Q (.str (Txt.mul a (n : Int))) H
theorem q_mulS {X : Cx} : OpR X (binaryOp .Mult) rMulS := by
  intro pins s σ H x y v u Q I rx ry h
  obtain ⟨a, n, rfl, rfl, ha, hn, q⟩ := h
  obtain ⟨t, rfl⟩ := rx
  obtain ⟨t', rfl⟩ := ry
  exact SB.mul (mulOk_of 1 1000 ha (by omega) (by omega) (by decide) (by decide)) fun t2 k2 => ⟨.str (Txt.mul a (n : Int)), H, I.tok _, ⟨_, rfl⟩, q⟩
theorem r_mulS {a : Str} {n : Nat} {H : Hp} {Qv : VK} (ha : a.length ≤ 1) (hn : n ≤ 1000) (q : Qv (.str (Txt.mul a (n : Int))) H) : rMulS (.str a) (.int (n : Int)) H Qv := ⟨a, n, rfl, rfl, ha, hn, q⟩
/-- what joining takes at most, and plain signs alone -/
def Wt (ws : List Str) (n : Nat) : Prop := (ws.map (·.length)).sum + ws.length ≤ n ∧ ∀ y ∈ ws, Low y
theorem wt_split {z : Str} (h : Low z) : Wt (Txt.split z zBlank) (z.length + 1) := ⟨split_weight z zBlank (by decide +kernel), fun y hy => low_split h hy⟩
theorem wt_snoc {ws : List Str} {n m : Nat} {y : Str} (h : Wt ws n) (hl : Low y) (hm : y.length + 1 ≤ m) : Wt (ws ++ [y]) (n + m) := by
  refine ⟨?_, fun u hu => ?_⟩
  · have := h.1
    simp only [List.map_append, List.map_cons, List.map_nil, List.sum_append, List.sum_cons, List.sum_nil, List.length_append, List.length_cons, List.length_nil]
    omega
  · rcases List.mem_append.mp hu with q | q
    · exact h.2 u q
    · rw [List.mem_singleton.mp q]; exact hl
theorem wt_ins {ws : List Str} {n m i : Nat} {y : Str} (h : Wt ws n) (hl : Low y) (hm : y.length + 1 ≤ m) : Wt (ws.take i ++ [y] ++ ws.drop i) (n + m) := by
  have e1 : ((ws.take i).map (·.length)).sum + ((ws.drop i).map (·.length)).sum = (ws.map (·.length)).sum := by rw [← List.sum_append, ← List.map_append, List.take_append_drop]
  have e2 : (ws.take i).length + (ws.drop i).length = ws.length := by rw [← List.length_append, List.take_append_drop]
  refine ⟨?_, fun u hu => ?_⟩
  · have := h.1
    simp only [List.map_append, List.map_cons, List.map_nil, List.sum_append, List.sum_cons, List.sum_nil, List.length_append, List.length_cons, List.length_nil]
    omega
  · rcases List.mem_append.mp hu with q | q
    · rcases List.mem_append.mp q with q | q
      · exact h.2 u (List.mem_of_mem_take q)
      · rw [List.mem_singleton.mp q]; exact hl
    · exact h.2 u (List.mem_of_mem_drop q)
theorem sum_erase : ∀ (l : List Str) (i : Nat), ((l.eraseIdx i).map (·.length)).sum + (l.eraseIdx i).length ≤ (l.map (·.length)).sum + l.length
  | [], _ => by simp
  | a :: l, 0 => by simp only [List.eraseIdx_cons_zero, List.map_cons, List.sum_cons, List.length_cons]; omega
  | a :: l, i + 1 => by
    have := sum_erase l i
    simp only [List.eraseIdx_cons_succ, List.map_cons, List.sum_cons, List.length_cons]
    omega
theorem wt_erase {ws : List Str} {n i : Nat} (h : Wt ws n) : Wt (ws.eraseIdx i) n := ⟨Nat.le_trans (sum_erase ws i) h.1, fun u hu => h.2 u ((List.eraseIdx_subset) hu)⟩
theorem sum_set : ∀ (l : List Str) (i : Nat) (y : Str), ((l.set i y).map (·.length)).sum ≤ (l.map (·.length)).sum + y.length
  | [], _, _ => by simp
  | a :: l, 0, y => by simp only [List.set_cons_zero, List.map_cons, List.sum_cons]; omega
  | a :: l, i + 1, y => by
    have := sum_set l i y
    simp only [List.set_cons_succ, List.map_cons, List.sum_cons]
    omega
theorem wt_set {ws : List Str} {n m i : Nat} {y : Str} (h : Wt ws n) (hl : Low y) (hm : y.length ≤ m) : Wt (ws.set i y) (n + m) := by
  refine ⟨?_, fun u hu => ?_⟩
  · have h1 := sum_set ws i y
    have h2 := h.1
    rw [List.length_set]
    omega
  · rcases List.mem_or_eq_of_mem_set hu with q | q
    · exact h.2 u q
    · rw [q]; exact hl
theorem wt_more {ws : List Str} {n m : Nat} (h : Wt ws n) (hm : n ≤ m) : Wt ws m := ⟨Nat.le_trans h.1 hm, h.2⟩
theorem wt_join {ws : List Str} {n : Nat} (h : Wt ws n) : (Txt.join zBlank ws).length ≤ n ∧ Low (Txt.join zBlank ws) := by
  refine ⟨?_, low_join (low_of (by decide +kernel)) h.2⟩
  have h1 := h.1
  have e1 : zBlank.length = 1 := by decide +kernel
  rw [TL.join_eq]
  cases ws with
  | nil =>
    have : (Str.join zBlank []).length = 0 := rfl
    omega
  | cons a l =>
    rw [len_join_cons, e1]
    simp only [List.length_cons] at h1
    omega
theorem er_map : ∀ (l : List Str) (i : Nat), (l.eraseIdx i).map V.str = (l.map V.str).eraseIdx i
  | [], _ => rfl
  | _ :: _, 0 => rfl
  | a :: l, i + 1 => by
    show V.str a :: (l.eraseIdx i).map V.str = V.str a :: (l.map V.str).eraseIdx i
    rw [er_map l i]
end Q
namespace Q
open PySem PySem.Spec PyProof.Rows L2 Builtin Builtin.Str
end Q
namespace Q
open PySem PySem.Spec PyProof.Rows L2
def okS (k : Nat) (z : Str) : Bool := match k with
  | 0 => nmOk z
  | 1 => (momW z).isSome
  | _ => decide (z = Str.ofString "sound" ∨ z = Str.ofString "unsound")
def rightsS : List Str → List Bool
  | [] => []
  | [a] => [okS 0 a]
  | [a, b] => [okS 0 a, okS 1 b]
  | a :: b :: c :: _ => [okS 0 a, okS 1 b, okS 2 c]
def sDueP (x : Str) : Option Nat := match (rightsS (Txt.split x zBlank)).findIdx? (fun b => !b) with
  | some k => some k
  | none => if (Txt.split x zBlank).length = 3 then none else some (min (Txt.split x zBlank).length 3)
/-- what is due: the text's fault, or told and the saying -/
def DueS (C : Addr) (G : Hp) (z : Str) (v : V) : Prop := (∃ k p, sDueP z = some k ∧ v = .ref p ∧ G p = some (.tup [.str "text", .int 0, .int (k : Int)])) ∨
  ∃ p a t i b, Right t i ∧ z = sayText t i b ∧ v = .ref p ∧ G p = some (.tup [.str "told", .ref a]) ∧ SayAt C G a t i b
theorem DueS.same {C : Addr} {G G' : Hp} {z : Str} {v : V} (h : DueS C G z v) (s : Same G G') : DueS C G' z v := by
  rcases h with ⟨k, p, h1, h2, h3⟩ | ⟨p, a, t, i, b, h1, h2, h3, h4, h5⟩
  · exact .inl ⟨k, p, h1, h2, s _ _ h3⟩
  · exact .inr ⟨p, a, t, i, b, h1, h2, h3, s _ _ h4, h5.same s⟩
end Q
namespace Q
open PySem PySem.Spec PyProof.Rows L2
def DicAt (K : PySem.W.Frag) (w : World) (d : Addr) (ks : List Str) : Prop := He.dicW K d = some (He.keysIn w.params ks)
abbrev AlD2 : Type := AlR × List (Option (List (Option (Str × Int))))
def SaysD2 (fa : List He.Fa) (fn : List He5.DefA) (tf : List (PySem.W.Frag → Addr)) (ex : PySem.W.Frag → Bool) (ts : List He.Tab) (w : World) (h : Heap) (K : PySem.W.Frag) : Prop := SaysR fa fn tf ex h K ∧ ∀ t ∈ ts, DicAt K w (t.1 K) t.2
end Q
namespace Q
open PySem PySem.Spec PyProof.Rows L2
theorem foldD_lt : ∀ (l : List Nat) (a : Nat), NumText.AllDigits l → l.foldl (fun acc c => acc * 10 + (c - 48)) a < (a + 1) * 10 ^ l.length
  | [], a, _ => by simp
  | c :: r, a, h => by
    have hc := h.head
    have ih := foldD_lt r (a * 10 + (c - 48)) h.tail
    rw [List.foldl_cons, List.length_cons, Nat.pow_succ]
    have h1 : a * 10 + (c - 48) + 1 ≤ (a + 1) * 10 := by omega
    have h2 := Nat.mul_le_mul_right (10 ^ r.length) h1
    have e : (a + 1) * (10 ^ r.length * 10) = (a + 1) * 10 * 10 ^ r.length := by rw [Nat.mul_comm (10 ^ r.length) 10, Nat.mul_assoc]
    omega
theorem log_digits {l : List Nat} (h : NumText.AllDigits l) (hl : l.length ≤ 31) : ((NumText.digitsVal l : Nat) : Int).natAbs.log2 < 1920 := by
  have h1 : NumText.digitsVal l < (0 + 1) * 10 ^ l.length := foldD_lt l 0 h
  have h2 : (10 : Nat) ^ l.length ≤ 10 ^ 31 := Nat.pow_le_pow_right (by decide) hl
  have h3 : (10 : Nat) ^ 31 < 2 ^ 1920 := by decide +kernel
  rw [Int.natAbs_natCast]
  by_cases z : NumText.digitsVal l = 0
  · rw [z]
    decide
  · exact (Nat.log2_lt z).mpr (by omega)
end Q
namespace Q
open PySem PySem.Spec PyProof.Rows L2
def addW : List Addr → Nat → List Addr → Nat × List Addr
  | [], m, f => (m, f)
  | a :: r, m, f => match Nat.testBit m a with
    | true => addW r m f
    | false => HandSHeadRun.frNat (m ||| (1 <<< a)) fun m => addW r m (a :: f)
def levelW (g : Addr → Option Obj) : List Addr → Nat → List Addr → Nat × List Addr
  | [], m, f => (m, f)
  | a :: r, m, f => match g a with
    | some o => (match addW (He.refsD o) m f with
      | (m', f') => levelW g r m' f')
    | none => levelW g r m f
def reachW (g : Addr → Option Obj) : Nat → Nat → List Addr → List Addr → List Addr
  | 0, _, f, acc => f ++ acc
  | n + 1, m, f, acc => match levelW g f m [] with
    | (m', f') => reachW g n m' f' (f ++ acc)
def namedW (g : Addr → Option Obj) (ns : List Str) : List Addr := match g mainGlobals with
  | some ⟨_, _, .dict es _, _⟩ => es.toList.flatMap fun e => match e.key with
    | .str x _ => (match ns.any (fun y => decide (x = y)) with
      | true => He.refV e.val
      | false => [])
    | _ => []
  | _ => []
def asW (g : Addr → Option Obj) (ns : List Str) (n : Nat) : List Addr := (match addW (namedW g ns) (1 <<< mainGlobals) [] with
  | (m, f) => reachW g n m f [mainGlobals, cStatics, sysModules])
def obsW (l : List Addr) (fa : List He.Fa) (fn : List He5.DefA) (tf : List (PySem.W.Frag → Addr)) (ex : PySem.W.Frag → Bool) (g : Addr → Option Obj) : AlR := (He5.obsA fa fn (He.frT g l), ex (He.frT g l) && tabsQ g tf (He.frT g l))
theorem saysW_of {l : List Addr} {fa : List He.Fa} {fn : List He5.DefA} {tf : List (PySem.W.Frag → Addr)} {ex : PySem.W.Frag → Bool} {h : Heap} (e : obsW l fa fn tf ex h.get? = (He5.valA fn, true)) : SaysR fa fn tf ex h (He.frT h.get? l) := by
  have e1 : He5.obsA fa fn (He.frT h.get? l) = He5.valA fn := congrArg (fun z : AlR => z.1) e
  have e2 : (ex (He.frT h.get? l) && tabsQ h.get? tf (He.frT h.get? l)) = true := congrArg (fun z : AlR => z.2) e
  obtain ⟨h1, h2⟩ := He.ba e2
  have each : ∀ p ∈ tf, PySem.W.codeHdIn (He.frT h.get? l) (cTA (He.frT h.get? l) (p (He.frT h.get? l))).1 (cTA (He.frT h.get? l) (p (He.frT h.get? l))).2 = true ∧
      ∃ o, h.get? (cTA (He.frT h.get? l) (p (He.frT h.get? l))).2 = some o ∧ He.emptyTab o = true := by
    intro p hp
    obtain ⟨h3, h4⟩ := He.ba (List.all_eq_true.mp h2 p hp)
    refine ⟨h3, ?_⟩
    split at h4
    · rename_i o q
      exact ⟨o, q, h4⟩
    · cases h4
  refine ⟨e1, h1, fun p hp => (each p hp).1, fun p hp => ?_, fun p hp => ?_⟩
  · obtain ⟨_, o, q, z⟩ := each p hp
    exact He.frT_none q z
  · obtain ⟨_, o, q, z⟩ := each p hp
    rw [q, He.emptyTab_eq z]
def obsV (ns : List Str) (n : Nat) (fa : List He.Fa) (fn : List He5.DefA) (tf : List (PySem.W.Frag → Addr)) (ex : PySem.W.Frag → Bool) (ts : List He.Tab) (g : Addr → Option Obj) : AlD2 :=
  (obsW (asW g ns n) fa fn tf ex g, ts.map fun t => He.dicW (He.frT g (asW g ns n)) (t.1 (He.frT g (asW g ns n))))
def hookV (ns : List Str) (n : Nat) (fa : List He.Fa) (fn : List He5.DefA) (tf : List (PySem.W.Frag → Addr)) (ex : PySem.W.Frag → Bool) (ts : List He.Tab) : PySem.W.Hook where
  α := AlD2
  obs := fun s => obsV ns n fa fn tf ex ts s.heap.get?
  val := fun w => ((He5.valA fn, true), ts.map fun t => some (He.keysIn w.params t.2))
  says := fun w h => ∃ K : PySem.W.Frag, K.In h ∧ SaysD2 fa fn tf ex ts w h K
  of := fun w s e => by
    have e1 : obsW (asW s.heap.get? ns n) fa fn tf ex s.heap.get? = (He5.valA fn, true) := congrArg (fun z : AlD2 => z.1) e
    have e2 : (ts.map fun t => He.dicW (He.frT s.heap.get? (asW s.heap.get? ns n)) (t.1 (He.frT s.heap.get? (asW s.heap.get? ns n)))) = ts.map fun t => some (He.keysIn w.params t.2) := congrArg (fun z : AlD2 => z.2) e
    exact ⟨_, He.frT_in, saysW_of e1, fun t ht => List.map_inj_left.mp e2 t ht⟩
  keeps := fun _ _ _ ⟨K, hK, c, d⟩ k => ⟨K, PySem.W.Frag.In.keeps hK k, ⟨c.t, c.more, c.hd, c.out, fun p hp => k _ _ (c.empty p hp)⟩, d⟩
theorem obsV_eq {ns : List Str} {n : Nat} {fa : List He.Fa} {fn : List He5.DefA} {tf : List (PySem.W.Frag → Addr)} {ex : PySem.W.Frag → Bool} {ts : List He.Tab} {g : Addr → Option Obj} {s : Shared} (h : ∀ a, g a = s.heap.get? a) : obsV ns n fa fn tf ex ts g = (hookV ns n fa fn tf ex ts).obs s := by
  obtain rfl : g = s.heap.get? := funext h
  rfl
end Q
namespace Q
open PySem PySem.Spec PyProof.Rows L2 Builtin
end Q
namespace Q
open PySem PySem.Spec PyProof.Rows L2
end Q
namespace Q
open PySem PySem.Spec PyProof.Rows L2
end Q
namespace Q
open PySem PySem.Spec PyProof.Rows L2
section
variable {C : Addr} {f g : Str} {v u : V} {e : En} {G H : Hp} {M : List Addr} {Q : VK}
def ErrAt (G : Hp) (C a : Addr) (fs : List (Str × V)) : Prop := ∃ d, G a = some (ExK (.ref C) (some d) a) ∧ G d = some (.xd fs)
theorem ErrAt.same {G' : Hp} {a : Addr} {fs : List (Str × V)} (h : ErrAt G C a fs) (s : Same G G') : ErrAt G' C a fs := by
  obtain ⟨d, h1, h2⟩ := h
  exact ⟨d, s _ _ h1, s _ _ h2⟩
end
end Q
namespace Q
open PySem PySem.Spec PyProof.Rows L2 PySem.HandSPX
end Q
namespace Q
open PySem PySem.Spec PyProof.Rows L2
end Q
namespace Q
open PySem PySem.Spec PyProof.Rows L2 PySem.HandSPX
/-- what is kept: the fields, or no dict yet -/
def KeptAt (G : Hp) (C a : Addr) (fs : List (Str × V)) : Prop := (fs = [] ∧ G a = some (ExK (.ref C) none a)) ∨ ErrAt G C a fs
theorem KeptAt.same {G G' : Hp} {C a : Addr} {fs : List (Str × V)} (h : KeptAt G C a fs) (s : Same G G') : KeptAt G' C a fs := by
  rcases h with ⟨h1, h2⟩ | h
  · exact .inl ⟨h1, s _ _ h2⟩
  · exact .inr (h.same s)
end Q
namespace Q
open PySem PySem.Spec PyProof.Rows L2
def errNames : List Str := ["BadName", "BadMoment", "BadSaying", "BadPoint", "BadRow", "BadTurn", "BadTurns", "NoTool", "NoRow", "NoDeed", "NoRecord", "NoLot", "NoLife", "NoEvidence", "TooMany", "Later", "Clash", "Unlike", "Contradicted", "BadChain", "BadEntry", "BadText", "NoLine"]
def errKeeps (i : Nat) (a b : V) : List (Str × V) := match i with
  | 0 => [("name", a)] | 1 => [("moment", a)] | 2 => [("value", a)] | 3 => [("value", a)] | 4 => [("at", a)] | 5 => [("at", a)] | 6 => [("at", a)] | 7 => [("tool", a)] | 8 => [("number", a)] | 9 => [("number", a)]
  | 10 => [("name", a)] | 11 => [("name", a)] | 12 => [("value", a)] | 13 => [("word", a)] | 14 => [("most", b), ("what", a)] | 15 => [("moment", a)] | 16 => [("name", a)] | 17 => [("tool", a)] | 18 => [("number", a)] | 19 => [("at", a)] | 20 => [("at", a)]
  | 21 => [("word", b), ("line", a)] | _ => []
def clsAt (K : PySem.W.Frag) (i : Nat) : Addr := He.ga K (errNames.getD i "NoLine")
def AllErrs (K : PySem.W.Frag) (G : Hp) (es : List Addr) (a b : V) : Prop := es.length = 23 ∧ ∀ i e, es[i]? = some e → KeptAt G (clsAt K i) e (errKeeps i a b)
theorem AllErrs.same {K : PySem.W.Frag} {G G' : Hp} {es : List Addr} {a b : V} (h : AllErrs K G es a b) (s : Same G G') : AllErrs K G' es a b := ⟨h.1, fun i e he => (h.2 i e he).same s⟩
end Q
namespace Q
open PySem PySem.Spec PyProof.Rows L2
end Q
namespace Q
open PySem PySem.Spec PyProof.Rows L2
end Q
namespace Q
open PySem PySem.Spec PyProof.Rows L2
end Q
namespace Q
open PySem PySem.Spec PyProof.Rows L2
section
variable {G : Hp} {kvs : List (Key × V)} {bt : List (Str × List Int)} {s : Str} {ns : List Int}
theorem LsAt.any (h : LsAt G kvs bt) (s : Str) : (kvs.any fun kv => decide (kv.1 = (.inr s : Key))) = bt.any fun r => decide (r.1 = s) := by
  induction h with
  | nil => rfl
  | @cons t a ns kvs bt _ _ ih =>
    rw [List.any_cons, List.any_cons, ih]
    have e : decide ((Sum.inr t : Key) = .inr s) = decide (t = s) := decide_eq_decide.mpr ⟨fun z => Sum.inr.inj z, fun z => by rw [z]⟩
    rw [e]
end
structure BgnOk (bt : List (Str × List Int)) : Prop where
  nm : ∀ q ∈ bt, nmOk q.1 = true
  ks : ∀ q ∈ bt, q.2.length ≤ 6 ∧ ∀ k ∈ q.2, 1 ≤ k ∧ k ≤ 1000000000000000000000000000000
  nd : (bt.map (·.1)).Nodup
  few : bt.length ≤ 12
structure BgnAt (G : Hp) (d : Addr) (bt : List (Str × List Int)) : Prop where
  ex : ∃ od kvs, G d = some (.frz od (.dK kvs)) ∧ LsAt G kvs bt
  ok : BgnOk bt
theorem BgnAt.same {G G' : Hp} {d : Addr} {bt : List (Str × List Int)} (h : BgnAt G d bt) (s : Same G G') : BgnAt G' d bt := by
  obtain ⟨od, kvs, h1, h2⟩ := h.ex
  exact ⟨⟨od, kvs, s _ _ h1, h2.same s⟩, h.ok⟩
/-- the lives that begin so -/
def LvOf (bt bL : List (Str × List Int)) : Prop := (bL.map (·.1)).Perm (bt.map (·.1)) ∧ (bL.map (·.1)).Pairwise leS ∧ ∀ q ∈ bL, Begs (((nsOf bt q.1).getD []).map V.int) q.2
section
variable {X : Cx}
def eqO (dat : Addr → PyData) (d : PyData) : Value → Bool
  | .ref a => PyData.eqv (dat a) d
  | _ => false
end
end Q
namespace Q
open PySem PySem.Spec PyProof.Rows L2 PySem.SeqAt PySem.MeetsSeq
end Q
namespace Q
open PySem PySem.Spec PyProof.Rows L2
def LivesIn (C : Addr) (G : Hp) (a D : Addr) (bt : List (Str × List Int)) : Prop := ∃ dx od kvs, G a = some (.ins C dx [("by_tool", .ref D)]) ∧ G D = some (.frz od (.dK kvs)) ∧ LvAt G kvs bt
theorem LivesIn.at_ {C a D : Addr} {G : Hp} {bt : List (Str × List Int)} (h : LivesIn C G a D bt) : LivesAt C G a bt := by
  obtain ⟨dx, od, kvs, h1, h2, h3⟩ := h
  exact ⟨dx, D, od, kvs, h1, h2, h3⟩
theorem LivesIn.same {C a D : Addr} {G G' : Hp} {bt : List (Str × List Int)} (h : LivesIn C G a D bt) (s : Same G G') : LivesIn C G' a D bt := by
  obtain ⟨dx, od, kvs, h1, h2, h3⟩ := h
  exact ⟨dx, od, kvs, s _ _ h1, s _ _ h2, h3.same s⟩
end Q
namespace Q
open PySem PySem.Spec PyProof.Rows L2
end Q
namespace Q
open PySem PySem.Spec PyProof.Rows L2
end Q
namespace Q
open PySem PySem.Spec PyProof.Rows L2
def NoLf (K : PySem.W.Frag) (G : Hp) (bL : List (Str × List Int)) (v : V) : Prop := ∃ q, TuV K G v q ∧ isLife bL q = false
section
variable {K : PySem.W.Frag} {G G' H : Hp} {bL : List (Str × List Int)} {v x y z : V} {ps : List Addr} {ls : List (Str × Int)} {p q : Addr} {ys : List V} {t : Str} {b : Int}
theorem TuV.same {o : Option (List V)} (h : TuV K G v o) (s : Same G G') : TuV K G' v o := by
  cases o with
  | none => obtain ⟨t, h1, h2⟩ := h; exact ⟨t, same_ty s h1, h2⟩
  | some ys => obtain ⟨p, h1, h2, h3⟩ := h; exact ⟨p, h1, s _ _ h2, fun y hy => (h3 y hy).elim fun t k => ⟨t, k.same s⟩⟩
theorem NoLf.same (h : NoLf K G bL v) (s : Same G G') : NoLf K G' bL v := h.elim fun q ⟨h1, h2⟩ => ⟨q, h1.same s, h2⟩
theorem LifeAt.mem (h : LifeAt G ps ls) (hq : q ∈ ps) : ∃ l ∈ ls, G q = some (.tup [.str l.1, .int l.2]) := by
  induction h with
  | nil => cases hq
  | @cons a l as bs h1 _ ih =>
    rcases List.mem_cons.mp hq with rfl | hq
    · exact ⟨l, List.mem_cons_self, h1⟩
    · obtain ⟨l', m, e⟩ := ih hq
      exact ⟨l', List.mem_cons_of_mem _ m, e⟩
end
end Q
namespace Q
open PySem PySem.Spec PyProof.Rows L2
end Q
namespace Q
open PySem PySem.Spec PyProof.Rows L2
structure RwOk (rows : List (Str × List V)) : Prop where
  all : ∀ r ∈ rows, nmOk r.1 = true ∧ r.2.length ≤ 60 ∧ ∀ v ∈ r.2, ∃ k : Int, v = .int k ∧ 1 ≤ k ∧ k ≤ 1000000000000000000000000000000
  nd : (rows.map (·.1)).Nodup
section
variable {K : PySem.W.Frag} {G G' : Hp} {rows : List (Str × List V)} {bt bL bL' : List (Str × List Int)} {ts : List Str} {t : Str} {xs : List V} {Cn Cm : Addr}
theorem LvOf.len (h : LvOf bt bL) : bL.length = bt.length := by
  have := h.1.length_eq
  rwa [List.length_map, List.length_map] at this
def rowsB (bt : List (Str × List Int)) : List (Str × List V) := bt.map fun q => (q.1, q.2.map V.int)
inductive HdAt (Fr : Addr → Prop) (G : Hp) : List (Key × V) → List (Str × List Int) → Prop
  | nil : HdAt Fr G [] []
  | tup {s : Str} {a : Addr} {ns : List Int} {kvs : List (Key × V)} {bt : List (Str × List Int)} (h : G a = some (.tup (ns.map V.int))) (r : HdAt Fr G kvs bt) : HdAt Fr G ((.inr s, .ref a) :: kvs) ((s, ns) :: bt)
  | lst {s : Str} {a : Addr} {ns : List Int} {kvs : List (Key × V)} {bt : List (Str × List Int)} (h : G a = some (.lst (ns.map V.int))) (f : Fr a) (r : HdAt Fr G kvs bt) : HdAt Fr G ((.inr s, .ref a) :: kvs) ((s, ns) :: bt)
variable {Fr : Addr → Prop} {kvs : List (Key × V)}
theorem HdAt.same (h : HdAt Fr G kvs bt) (s : Same G G') : HdAt Fr G' kvs bt := by
  induction h with
  | nil => exact .nil
  | tup h _ ih => exact .tup (s _ _ h) ih
  | lst h f _ ih => exact .lst (s _ _ h) f ih
theorem HdAt.beg (h : HdAt Fr G kvs bt) : BegAt K G kvs (rowsB bt) := by
  induction h with
  | nil => exact .nil
  | tup h _ ih => exact .cons (.inr (SqT.of h)) ih
  | lst h f _ ih => exact .cons (.inl (SqL.of h)) ih
theorem HdAt.keys (h : HdAt Fr G kvs bt) : kvs.map (·.1) = (bt.map (·.1)).map Sum.inr := by
  induction h with
  | nil => rfl
  | tup h _ ih => rw [List.map_cons, List.map_cons, List.map_cons, ih]
  | lst h f _ ih => rw [List.map_cons, List.map_cons, List.map_cons, ih]
theorem HdAt.out (h : HdAt Fr G kvs bt) {s : Str} (n : s ∉ bt.map (·.1)) : valV kvs (.inr s) = none := by
  have go : ∀ (t : Str) (a : Addr) (ns : List Int) (kvs : List (Key × V)) (bt : List (Str × List Int)), (s ∉ bt.map (·.1) → valV kvs (.inr s) = none) → s ∉ ((t, ns) :: bt).map (·.1) → valV ((.inr t, .ref a) :: kvs) (.inr s) = none := fun t a ns kvs bt ih n => by
    have e : ¬ (Sum.inr t : Key) = .inr s := fun z => n (by rw [Sum.inr.inj z]; simp)
    rw [valV_neg (p := ((Sum.inr t : Key), V.ref a)) e]
    exact ih fun m => n (by simp at m ⊢; exact .inr m)
  induction h with
  | nil => rfl
  | tup h _ ih => exact go _ _ _ _ _ ih n
  | lst h f _ ih => exact go _ _ _ _ _ ih n
/-- the same while the lists grow -/
def HdM (Fr : Addr → Prop) (n : Nat) (G : Hp) (kvs : List (Key × V)) : Prop := ∀ kv ∈ kvs, ∃ s a, kv = (.inr s, .ref a) ∧ ((∃ xs, G a = some (.tup xs)) ∨ ∃ xs, G a = some (.lst xs) ∧ xs.length ≤ n ∧ Fr a)
theorem HdM.same {n : Nat} (h : HdM Fr n G kvs) (s : Same G G') : HdM Fr n G' kvs := fun kv hk => by
  obtain ⟨z, a, e, h⟩ := h kv hk
  refine ⟨z, a, e, ?_⟩
  rcases h with ⟨xs, h⟩ | ⟨xs, h, l, f⟩
  · exact .inl ⟨xs, s _ _ h⟩
  · exact .inr ⟨xs, s _ _ h, l, f⟩
theorem HdM.more {n m : Nat} (h : HdM Fr n G kvs) (l : n ≤ m) : HdM Fr m G kvs := fun kv hk => by
  obtain ⟨z, a, e, h⟩ := h kv hk
  refine ⟨z, a, e, ?_⟩
  rcases h with h | ⟨xs, h, l2, f⟩
  · exact .inl h
  · exact .inr ⟨xs, h, Nat.le_trans l2 l, f⟩
end
structure LvE (K : PySem.W.Frag) (C : Addr) : Prop where
  d : PySem.W.findIn K (.ref C) "__class__" = some (some (.builtin "object.__class__"))
  n : PySem.W.specialIn K (.builtin "object.__class__") "__get__" = some (some (.builtin "getset_descriptor.__get__"))
  tk : PySem.W.takesIn K (.builtin "object.__class__") = some true
  m : PySem.W.mroIn K C (.type "object") = some true
  me : PySem.W.kitOne K (.ref C) (.ref C) = some true
  tu : PySem.W.kitOne K (.type "tuple") (.ref C) = some false
  di : PySem.W.kitOne K (.type "dict") (.ref C) = some false
  f1 : PySem.W.notFirst K C (.ref C) = true
  f2 : PySem.W.notFirst K C (.type "tuple") = true
  f3 : PySem.W.notFirst K C (.type "dict") = true
theorem LvE.ty {K : PySem.W.Frag} {C : Addr} (h : LvE K C) (S : LvC K C) (G : Hp) (c : Addr) (bt : List (Str × List Int)) (hl : LivesAt C G c bt) : TyX K G (.ref c) (.ref C) := by
  obtain ⟨dx, D, od, kvs, h1, _⟩ := hl
  exact .base (.ins h1 S.c h.d h.n h.tk h.m)
end Q
namespace Q
open PySem PySem.Spec PyProof.Rows L2
theorem DrAt.nd (K : PySem.W.Frag) {G : Hp} {ps : List Addr} {kvs : List (Key × V)} {rows : List (Str × List V)} (h : DrAt G ps kvs rows) (nd : (rows.map (·.1)).Nodup) : (kvs.map (·.1)).Nodup ∧ kvs.length = rows.length := by
  have b : BegAt K G kvs rows := h.beg
  exact ⟨by rw [b.keysR]; exact nodup_inr nd, b.len⟩
end Q
namespace Q
open PySem PySem.Spec PyProof.Rows L2
theorem BegAt.snoc {K : PySem.W.Frag} {G : Hp} {kvs : List (Key × V)} {rows : List (Str × List V)} {s : Str} {a : Addr} {xs : List V} (r : BegAt K G kvs rows) (h : SqA K G a xs) : BegAt K G (kvs ++ [(.inr s, .ref a)]) (rows ++ [(s, xs)]) := by
  induction r with
  | nil => exact .cons h .nil
  | cons h2 _ ih => exact .cons h2 ih
/-- each with one more -/
def MoreAt : List (Str × List V) → List (Str × List Int) → Prop := Paired fun r q => r.1 = q.1 ∧ ∃ k : Int, r.2 = (q.2 ++ [k]).map V.int ∧ 1 ≤ k ∧ k < 99 ∧ k ∉ q.2
section
variable {rows : List (Str × List V)} {bt bL bL' : List (Str × List Int)} {ts : List Str}
theorem MoreAt.fst (h : MoreAt rows bt) : rows.map (·.1) = bt.map (·.1) := by
  induction h with
  | nil => rfl
  | cons h _ ih => rw [List.map_cons, List.map_cons, ih, h.1]
theorem MoreAt.mem (h : MoreAt rows bt) : ∀ r ∈ rows, ∃ q ∈ bt, r.1 = q.1 ∧ ∃ k : Int, r.2 = (q.2 ++ [k]).map V.int ∧ 1 ≤ k ∧ k < 99 ∧ k ∉ q.2 := by
  induction h with
  | nil => exact fun r h => by cases h
  | @cons r q _ _ h _ ih =>
    intro r' hr
    rcases List.mem_cons.mp hr with rfl | hr
    · exact ⟨q, List.mem_cons_self, h⟩
    · obtain ⟨q', h1, h2⟩ := ih r' hr
      exact ⟨q', List.mem_cons_of_mem _ h1, h2⟩
theorem MoreAt.rw (h : MoreAt rows bt) (ok : BgnOk bt) : RwOk rows := by
  refine ⟨fun r hr => ?_, by rw [h.fst]; exact ok.nd⟩
  obtain ⟨q, hq, e1, k, e2, k1, k2, k3⟩ := h.mem r hr
  obtain ⟨l1, l2⟩ := ok.ks q hq
  refine ⟨by rw [e1]; exact ok.nm q hq, by rw [e2, List.length_map, List.length_append]; simp; omega, fun v hv => ?_⟩
  rw [e2] at hv
  obtain ⟨j, hj, rfl⟩ := List.mem_map.mp hv
  refine ⟨j, rfl, ?_⟩
  rcases List.mem_append.mp hj with hj | hj
  · exact l2 j hj
  · rw [List.mem_singleton.mp hj]; omega
end
end Q
namespace Q
open PySem PySem.Spec PyProof.Rows L2
end Q
namespace Q
open PySem PySem.Spec PyProof.Rows L2
end Q
namespace Q
open PySem PySem.Spec PyProof.Rows L2
end Q
namespace Q
open PySem PySem.Spec PyProof.Rows L2
inductive Sg
  | n | m (l : Int) | t
def sgOk : Sg → V → Bool
  | .n, v => nameV v
  | .m l, v => momV v l
  | .t, v => isB v
def wordV : Sg → V → V
  | .m _, .int i => .str (toString i)
  | .t, .bl b => .str (if b = true then "sound" else "unsound")
  | _, v => v
def rowWords (kind : Str) (sg : List Sg) (vs : List V) : List V := List.zipWith wordV sg vs
def rowNamed : List Sg → List V → List V
  | .n :: ss, v :: vs => v :: rowNamed ss vs
  | _ :: ss, _ :: vs => rowNamed ss vs
  | _, _ => []
def rowTold : List Sg → List V → List V
  | .m _ :: ss, v :: vs => v :: rowTold ss vs
  | _ :: ss, _ :: vs => rowTold ss vs
  | _, _ => []
def rowFs (kind : Str) (aw an am : Addr) (fl : List Str) (vs : List V) : List (Str × V) := ([("kind", .str kind), ("words", .ref aw), ("named", .ref an), ("told_at", .ref am)] : List (Str × V)) ++ fl.zip vs
structure RwC (K : PySem.W.Frag) (C : Addr) (fl : List Str) : Prop where
  c : Cls K C
  k : NoAttr K C "kind"
  w : NoAttr K C "words"
  n : NoAttr K C "named"
  t : NoAttr K C "told_at"
  own : ∀ f ∈ fl, NoAttr K C f
def RowAt (C : Addr) (G : Hp) (a : Addr) (kind : Str) (sg : List Sg) (fl : List Str) (vs : List V) : Prop := ∃ dx aw an am, G a = some (.ins C dx (rowFs kind aw an am fl vs)) ∧ G aw = some (.tup (rowWords kind sg vs)) ∧ G an = some (.tup (rowNamed sg vs)) ∧ G am = some (.tup (rowTold sg vs))
theorem RowAt.same {C a : Addr} {G G' : Hp} {kind : Str} {sg : List Sg} {fl : List Str} {vs : List V} (h : RowAt C G a kind sg fl vs) (s : Same G G') : RowAt C G' a kind sg fl vs := by
  obtain ⟨dx, aw, an, am, h1, h2, h3, h4⟩ := h
  exact ⟨dx, aw, an, am, s _ _ h1, s _ _ h2, s _ _ h3, s _ _ h4⟩
end Q
namespace Q
open PySem PySem.Spec PyProof.Rows L2
def kindsS : List Str := ["begun", "setby", "found", "trusted", "passed", "failed", "agreed", "differed", "served", "backed"]
def kindN (i : Nat) : Str := kindsS.getD i ""
def sgsT : List (List Sg) := [[.n, .m 1], [.n, .m 1, .n], [.n, .m 0, .t], [.n], [.n, .m 0, .n], [.n, .m 0, .n], [.n, .m 0, .n, .m 0], [.n, .m 0, .n, .m 0], [.n, .m 0, .n, .m 0], [.n, .m 0, .n, .m 0]]
def sgN (i : Nat) : List Sg := sgsT.getD i []
def flsT : List (List Str) := [["tool", "moment"], ["tool", "moment", "by"], ["tool", "moment", "is_sound"], ["tool"], ["tool", "moment", "by"], ["tool", "moment", "by"], ["one", "moment", "other", "later"], ["one", "moment", "other", "later"], ["one", "moment", "other", "later"], ["one", "moment", "other", "later"]]
def flN (i : Nat) : List Str := flsT.getD i []
def SgAll (sg : List Sg) (as : List V) : Prop := as.length = sg.length ∧ ∀ p ∈ sg.zip as, sgOk p.1 p.2 = true
def sgWord : Sg → Str
  | .n => "name"
  | .m _ => "moment"
  | .t => "saying"
/-- what is due of a bent row -/
def DueB (G : Hp) (o : Option (Sg × V)) (u : V) : Prop := match o with
  | none => u = .non
  | some (s, v) => ∃ l, u = .ref l ∧ G l = some (.tup [.str (sgWord s), v])
theorem DueB.same {G G' : Hp} {o : Option (Sg × V)} {u : V} (h : DueB G o u) (s : Same G G') : DueB G' o u := by
  cases o with
  | none => exact h
  | some p =>
    obtain ⟨l, e, h⟩ := h
    exact ⟨l, e, s _ _ h⟩
section
variable {K : PySem.W.Frag} {e : En} {G H : Hp} {M : List Addr} {p c : Addr} {n i : Nat} {Q : VK} {E : XK}
theorem r_ixA {a : Addr} {xs : List V} {k : Int} {v : V} (h : SqA K H a xs) (e : atI xs k = some v) (q : Q v H) : rIx K (.ref a) (.int k) H Q := h.elim (fun h => r_ixL h e q) (fun h => r_ixT h e q)
theorem pe_fldK {X : Cx} {K : PySem.W.Frag} {e : Expr} {ta : TE} {f : Str} {pos : Pos} (hK : X.K = K) (he : PE X e ta) (hb : attributeBase e f X.env (eval e X.env) = eval e X.env) : PE X (.Attribute e f pos) (tFld K ta f) := by
  subst hK
  exact pe_fld he hb
end
end Q
namespace Q
open PySem PySem.Spec PyProof.Rows L2
abbrev FnW3 : Type := Option (Str × Str × Arguments × FuncBody × Scope × Addr × List Str × Addr)
structure DefS where
  at_ : PySem.W.Frag → Addr
  own : PySem.W.Frag → Addr
  name : Str
  qual : Str
  st : Stmt
def DefS.val (d : DefS) : FnW3 := some (d.name, d.qual, defArgs d.st, FuncBody.stmts (defBody d.st), defScope d.st, mainGlobals, [("__class__" : Str)], builtinsNs)
def cellB (K : PySem.W.Frag) (cc D : Addr) : Bool := match K.lookup cc with
  | some ⟨_, _, .cell (some (.ref a)), _⟩ => decide (a = D)
  | _ => false
def cloB (K : PySem.W.Frag) (cl : List (Str × Addr)) (D : Addr) : Bool := match cl with
  | [(_, cc)] => cellB K cc D
  | _ => false
def fileB (K : PySem.W.Frag) (file : Str) (cd : Value) : Bool := match cd with
  | .ref c => (match K.lookup c with
    | some ⟨_, _, .fields vs, _⟩ => (match (vs[2]? : Option Value) with
      | some (.str z _) => file == z
      | _ => false)
    | _ => false)
  | _ => false
def noneB : Value → Bool
  | .none => true
  | _ => false
def DefS.ok (file : Str) (K : PySem.W.Frag) (d : DefS) : Bool := PySem.W.keepIn K (.ref (d.at_ K)) && ((match K.lookup (d.at_ K) with
  | some ⟨_, _, .func fd, _⟩ => PySem.W.codeIn K fd.code d.qual && (fileB K file fd.code && (noneB fd.defaults && cloB K fd.closure (d.own K)))
  | _ => false) && (PySem.W.isClsIn K (d.own K) && (match PySem.W.nsIn K cStatics "thirdparty.any" with
    | some none => true
    | _ => false)))
end Q
namespace Q
open PySem PySem.Spec PyProof.Rows L2
end Q
namespace Q
open PySem PySem.Spec PyProof.Rows L2
def truthW (b : Bool) : Str := if b = true then "sound" else "unsound"
def wordS : Sg → V → Str
  | .n, .str z => z
  | .m _, .int i => toString i
  | .t, .bl b => truthW b
  | _, _ => ""
def rowTxts (i : Nat) (as : List V) : List Str := kindN i :: List.zipWith wordS (sgN i) as
def RowOf (K : PySem.W.Frag) (CL : Nat → Addr) (G : Hp) (a : Addr) (i : Nat) (as : List V) : Prop := i < 10 ∧ SgAll (sgN i) as ∧ RowAt (CL i) G a (kindN i) (sgN i) (flN i) as
theorem RowOf.same {K : PySem.W.Frag} {CL : Nat → Addr} {G G' : Hp} {a : Addr} {i : Nat} {as : List V} (h : RowOf K CL G a i as) (s : Same G G') : RowOf K CL G' a i as := ⟨h.1, h.2.1, h.2.2.same s⟩
end Q
namespace Q
open PySem PySem.Spec PyProof.Rows L2
end Q
namespace Q
open PySem PySem.Spec PyProof.Rows L2
def tysB : List String := ["NoneType", "int", "bool", "str", "list", "tuple", "dict"]
structure RwE (K : PySem.W.Frag) (CL : Nat → Addr) (Cw fe : Addr) : Prop where
  cn : PySem.W.specialIn K (.builtin "object.__class__") "__get__" = some (some (.builtin "getset_descriptor.__get__"))
  ct : PySem.W.takesIn K (.builtin "object.__class__") = some true
  bas : ∀ n ∈ tysB, PySem.W.kitOne K (.type n) (.ref Cw) = some false
  fn : PySem.W.isFn K (.ref fe) = true
  ca : ∀ i, i < 10 → PySem.W.findIn K (.ref (CL i)) "__class__" = some (some (.builtin "object.__class__"))
  cm : ∀ i, i < 10 → PySem.W.mroIn K (CL i) (.type "object") = some true
  me : ∀ i, i < 10 → PySem.W.kitOne K (.ref (CL i)) (.ref Cw) = some true
  nf : ∀ i, i < 10 → ∀ j, j < 10 → PySem.W.notFirst K (CL i) (.ref (CL j)) = true
  nb : ∀ i, i < 10 → ∀ n ∈ tysB, PySem.W.notFirst K (CL i) (.type n) = true
  eq : ∀ i, i < 10 → PySem.W.findIn K (.ref (CL i)) "__eq__" = some (some (.ref fe))
  ne : ∀ i, i < 10 → PySem.W.findIn K (.ref (CL i)) "__ne__" = some (some (.builtin "object.__ne__"))
/-- what == of a row with y answers -/
def RowTo (K : PySem.W.Frag) (CL : Nat → Addr) (Cw : Addr) (G : Hp) (i : Nat) (as : List V) (y : V) (r : Bool) : Prop :=
  (∃ t, TyX K G y t ∧ PySem.W.kitOne K t (.ref Cw) = some false ∧ r = false) ∨ ∃ (c : Addr) (j : Nat) (bs : List V), y = .ref c ∧ RowOf K CL G c j bs ∧ r = decide (rowTxts i as = rowTxts j bs)
section
variable {K : PySem.W.Frag} {CL : Nat → Addr} {Cw fe : Addr} {G G' H : Hp} {M : List Addr} {e : En} {a : Addr} {i j : Nat} {as bs : List V} {y : V} {r : Bool} {Q : VK} {E : XK}
theorem RowTo.same (h : RowTo K CL Cw G i as y r) (s : Same G G') : RowTo K CL Cw G' i as y r := by
  rcases h with ⟨t, h1, h2, h3⟩ | ⟨c, j, bs, h1, h2, h3⟩
  · exact .inl ⟨t, same_ty s h1, h2, h3⟩
  · exact .inr ⟨c, j, bs, h1, h2.same s, h3⟩
theorem RowTo.row {c : Addr} (h : RowOf K CL G c j bs) : RowTo K CL Cw G i as (.ref c) (decide (rowTxts i as = rowTxts j bs)) := .inr ⟨c, j, bs, rfl, h, rfl⟩
theorem RowOf.ty (S : RwE K CL Cw fe) (RC : ∀ i, i < 10 → RwC K (CL i) (flN i)) (h : RowOf K CL G a i as) : TyX K G (.ref a) (.ref (CL i)) := by
  obtain ⟨hi, _, dx, aw, an, am, h1, _⟩ := h
  exact .base (.ins h1 (RC i hi).c (S.ca i hi) S.cn S.ct (S.cm i hi))
theorem RowOf.ins (h : RowOf K CL G a i as) : ∃ dx fs, G a = some (.ins (CL i) dx fs) := by
  obtain ⟨hi, _, dx, aw, an, am, h1, _⟩ := h
  exact ⟨_, _, h1⟩
end
end Q
namespace Q
open PySem PySem.Spec PyProof.Rows L2
def EntTo (K : PySem.W.Frag) (C : Addr) (G : Hp) (t : Str) (i : Int) (b : Str) (y : V) (r : Bool) : Prop := (∃ u, TyX K G y u ∧ PySem.W.kitOne K u (.ref C) = some false ∧ r = false) ∨
  ∃ (c : Addr) (t' : Str) (i' : Int) (b' : Str), y = .ref c ∧ EntAt C G c t' i' b' ∧ r = PyData.eqv (faceE t i b) (faceE t' i' b')
section
variable {K : PySem.W.Frag} {C Ce : Addr} {CL : Nat → Addr} {G G' H : Hp} {M : List Addr} {e : En} {a c : Addr} {i i' : Int} {j : Nat} {t b t' b' : Str} {x y : V} {tx : Value} {r : Bool} {Q : VK} {E : XK}
theorem EntTo.same (h : EntTo K C G t i b y r) (s : Same G G') : EntTo K C G' t i b y r := by
  rcases h with ⟨u, h1, h2, h3⟩ | ⟨c, t', i', b', h1, h2, h3⟩
  · exact .inl ⟨u, same_ty s h1, h2, h3⟩
  · exact .inr ⟨c, t', i', b', h1, h2.same s, h3⟩
end
end Q
namespace Q
open PySem PySem.Spec PyProof.Rows L2
def PartsAt (G : Hp) (q : Addr) (t : Str) (m : Int) (b : Str) : Prop := RightE t m b ∧ G q = some (.tup [.str t, .int m, .str b])
theorem PartsAt.same {G G' : Hp} {q : Addr} {t b : Str} {m : Int} (h : PartsAt G q t m b) (s : Same G G') : PartsAt G' q t m b := ⟨h.1, s _ _ h.2⟩
end Q
namespace Q
open PySem PySem.Spec PyProof.Rows L2
end Q
namespace Q
open PySem PySem.Spec PyProof.Rows L2
end Q
namespace Q
open PySem PySem.Spec PyProof.Rows L2
/-- a row as a tuple: its kind and its arguments -/
def TupRow (G : Hp) (t : Addr) (i : Nat) (as : List V) : Prop := i < 10 ∧ G t = some (.tup (.str (kindN i) :: as)) ∧ SgAll (sgN i) as
theorem TupRow.same {G G' : Hp} {t : Addr} {i : Nat} {as : List V} (h : TupRow G t i as) (s : Same G G') : TupRow G' t i as := ⟨h.1, s _ _ h.2.1, h.2.2⟩
end Q
namespace Q
open PySem PySem.Spec PyProof.Rows L2
/-- values that may stand for names: known texts, all shown -/
def NewV (K : PySem.W.Frag) (G : Hp) (v : V) : Prop := (∀ z, v = .str z → PyData.strOk z = true) ∧ ∃ d, Odd K G v d
theorem NewV.same {K : PySem.W.Frag} {G G' : Hp} {v : V} (h : NewV K G v) (s : Same G G') : NewV K G' v := ⟨h.1, h.2.elim fun d o => ⟨d, o.same s⟩⟩
theorem newV_name {K : PySem.W.Frag} {G : Hp} {z : Str} (h : nmOk z = true) : NewV K G (.str z) := ⟨fun y e => by cases e; exact nmOk_str h, _, odd_name h⟩
def NamesOk (K : PySem.W.Frag) (G : Hp) (kvs : List (Key × V)) : Prop := ∀ kv ∈ kvs, (∃ z, kv.1 = .inr z ∧ nmOk z = true) ∧ NewV K G kv.2
theorem NamesOk.same {K : PySem.W.Frag} {G G' : Hp} {kvs : List (Key × V)} (h : NamesOk K G kvs) (s : Same G G') : NamesOk K G' kvs := fun kv m => ⟨(h kv m).1, (h kv m).2.same s⟩
theorem NamesOk.get {K : PySem.W.Frag} {G : Hp} {kvs : List (Key × V)} (h : NamesOk K G kvs) {z : Str} (hz : nmOk z = true) : NewV K G ((valV kvs (.inr z)).getD (.str z)) := by
  cases e : valV kvs (.inr z) with
  | none => exact newV_name hz
  | some v =>
    have e' : (kvs.find? fun kv => decide (kv.1 = (Sum.inr z : Key))).map (·.2) = some v := e
    cases q : kvs.find? fun kv => decide (kv.1 = (Sum.inr z : Key)) with
    | none => rw [q] at e'; cases e'
    | some kv =>
      rw [q] at e'
      cases e'
      exact (h kv (List.mem_of_find?_eq_some q)).2
end Q
namespace Q
open PySem PySem.Spec PyProof.Rows L2
end Q
namespace Q
open PySem PySem.Spec PyProof.Rows L2
theorem int_len {i : Int} (h : i.natAbs ≤ 1000000000000000000000000000000000) : (Str.ofString (toString i)).length ≤ 40 := by
  have e33 : (1000000000000000000000000000000000 : Int) < 10 ^ 36 := by decide
  cases i with
  | ofNat m => exact Nat.le_trans (toString_length_le (v := (m : Int)) (k := 36) (by omega) (by decide) (by have : (Int.ofNat m).natAbs = m := rfl; omega)) (by decide)
  | negSucc m =>
    have e : toString (Int.negSucc m) = "-" ++ toString (((m + 1 : Nat)) : Int) := rfl
    have a := toString_length_le (v := ((m + 1 : Nat) : Int)) (k := 36) (by omega) (by decide) (by have : (Int.negSucc m).natAbs = m + 1 := rfl; omega)
    rw [e]
    have b : (Str.ofString ("-" ++ toString ((m + 1 : Nat) : Int))).length = 1 + (Str.ofString (toString ((m + 1 : Nat) : Int))).length := by
      simp only [Str.ofString_eq_toList, Str.length]
      simp
      omega
    omega
theorem odd_num {K : PySem.W.Frag} {G : Hp} {i : Int} (h : i.natAbs ≤ 1000000000000000000000000000000000) : Odd K G (.int i) (.int i) := by
  refine odd_int ?_ ?_
  · have e : (PyData.int i).shown = Str.ofString (toString i) := by simp [PyData.shown]
    rw [e]
    exact Nat.le_trans (int_len h) (by decide)
  · have l : i.natAbs.log2 < 1920 := by
      by_cases z : i.natAbs = 0
      · rw [z]; decide
      · refine (Nat.log2_lt z).mpr (Nat.lt_of_le_of_lt h ?_)
        exact Nat.lt_of_lt_of_le (m := 2 ^ 120) (by decide) (Nat.pow_le_pow_right (by decide) (by decide))
    simp [PyData.showable, l]
end Q
namespace Q
open PySem PySem.Spec PyProof.Rows L2
end Q
namespace Q
open PySem PySem.Spec PyProof.Rows L2
end Q
namespace Q
open PySem PySem.Spec PyProof.Rows L2
end Q
namespace L2
open PySem PySem.Spec PyProof.Rows
end L2
namespace Q
open PySem PySem.Spec PyProof.Rows L2
end Q
namespace Q
open PySem PySem.Spec PyProof.Rows L2
end Q
namespace Q
open PySem PySem.Spec PyProof.Rows L2
end Q
namespace Q
open PySem PySem.Spec PyProof.Rows L2
end Q
namespace Q
open PySem PySem.Spec PyProof.Rows L2
end Q
namespace Q
open PySem PySem.Spec PyProof.Rows L2
end Q
namespace Q
open PySem PySem.Spec PyProof.Rows L2
end Q
namespace Q
open PySem PySem.Spec PyProof.Rows L2
end Q
namespace Q
open PySem PySem.Spec PyProof.Rows L2
end Q
namespace Q
open PySem PySem.Spec PyProof.Rows L2
end Q
namespace Q
open PySem PySem.Spec PyProof.Rows L2
end Q
namespace Q
open PySem PySem.Spec PyProof.Rows L2
end Q
namespace Q
open PySem PySem.Spec PyProof.Rows L2
end Q
namespace Q
open PySem PySem.Spec PyProof.Rows L2
end Q
namespace Q
open PySem PySem.Spec PyProof.Rows L2
end Q
namespace Q
open PySem PySem.Spec PyProof.Rows L2
theorem wt_sub {ws ys : List Str} {n : Nat} (s : ys.Sublist ws) (h : Wt ws n) : Wt ys n := by
  refine ⟨Nat.le_trans ?_ h.1, fun y hy => h.2 y (s.subset hy)⟩
  clear h
  induction s with
  | slnil => exact Nat.le_refl _
  | cons a _ ih =>
    simp only [List.map_cons, List.sum_cons, List.length_cons]
    omega
  | cons_cons a _ ih =>
    simp only [List.map_cons, List.sum_cons, List.length_cons]
    omega
theorem cut_strs {ws : List Str} {n : Nat} (h : Wt ws n) (lo hi : Option Int) : ∃ ys : List Str, cutV (ws.map V.str) lo hi = ys.map V.str ∧ Wt ys n := by
  unfold cutV
  refine ⟨(ws.drop (HT.sIx (ws.map V.str).length 0 lo)).take (HT.sIx (ws.map V.str).length (ws.map V.str).length hi - HT.sIx (ws.map V.str).length 0 lo), by rw [List.map_take, List.map_drop], ?_⟩
  exact wt_sub ((List.take_sublist _ _).trans (List.drop_sublist _ _)) h
theorem wt_all {ws : List Str} {n : Nat} (h : Wt ws n) : ws.length ≤ n := by
  have := h.1
  omega
end Q
namespace Q
open PySem PySem.Spec PyProof.Rows L2
end Q
namespace Q
open PySem PySem.Spec PyProof.Rows L2
/-- the text of an entry -/
def txOf (e : Int × Value) : Str := match e.2 with
  | .str z _ => z
  | _ => Str.empty
def TxE (w : World) (e : Int × Value) : Prop := ∃ (z : Str) (t : Tok), e = (hashStr w z, Value.str z t)
structure TxAt (w : World) (zs : List Str) (fs : Array (Int × Value)) (u : SetTable) : Prop where
  each : ∀ e ∈ fs.toList, TxE w e
  perm : (fs.toList.map txOf).Perm zs
  nd : zs.Nodup
  few : zs.length < scanBound
  fit : u.fits fs.size = true
  ris : Ris u.place.toList
  led : w.params.followText "set-order" = true ∨ u.led = true
def TxSet (w : World) (h : Heap) (a : Addr) (zs : List Str) : Prop := ∃ ob fs ep u, h.get? a = some ob ∧ ob.ExactSet ∧ ob.data = .set fs ep u ∧ TxAt w zs fs u
section
variable {P : Program} {w : World} {h h' : Heap} {a : Addr} {zs : List Str} {fs : Array (Int × Value)} {u : SetTable}
theorem TxSet.keep (R : TxSet w h a zs) (k : ∀ ob, h.get? a = some ob → h'.get? a = some ob) : TxSet w h' a zs := by
  obtain ⟨ob, fs, ep, u, g, r⟩ := R
  exact ⟨ob, fs, ep, u, k ob g, r⟩
theorem TxAt.size (R : TxAt w zs fs u) : fs.size = zs.length := by
  have := R.perm.length_eq
  rwa [List.length_map, Array.length_toList] at this
theorem tx_is {e : Int × Value} (x : TxE w e) (k : Str) : (PySem.strKind P w).is k e.2 = true ↔ txOf e = k := by
  obtain ⟨z, t, rfl⟩ := x
  show (Value.isStrOf k (.str z t) = true) ↔ z = k
  simp [Value.isStrOf]
theorem TxAt.mem (R : TxAt w zs fs u) (k : Str) : k ∈ zs ↔ ∃ e ∈ fs.toList, (PySem.strKind P w).is k e.2 = true := by
  rw [← R.perm.mem_iff, List.mem_map]
  constructor
  · rintro ⟨e, he, q⟩
    exact ⟨e, he, (tx_is (R.each e he) k).mpr q⟩
  · rintro ⟨e, he, q⟩
    exact ⟨e, he, (tx_is (R.each e he) k).mp q⟩
end
end Q
namespace Q
open PySem PySem.Spec PyProof.Rows L2
end Q
namespace Q
open PySem PySem.Spec PyProof.Rows L2
end Q
namespace Q
open PySem PySem.Spec PyProof.Rows L2
end Q
namespace Q
open PySem PySem.Spec PyProof.Rows L2
end Q
namespace Q
open PySem PySem.Spec PyProof.Rows L2
def datV : V → PyData
  | .str z => .str z
  | .int i => .int i
  | .bl b => .bool b
  | _ => .none
section
variable {K : PySem.W.Frag} {G : Hp} {as : List V}
theorem flat_sums : ∀ {as : List V}, (∀ v ∈ as, Odd K G v (datV v)) → PyData.showableAll (as.map datV) = true ∧ PyData.depthAll (as.map datV) ≤ 10 ∧ ((as.map datV).map fun d => d.shown.length).sum ≤ 1000 * as.length
  | [], _ => ⟨by simp [PyData.showableAll], by simp [PyData.depthAll], by simp⟩
  | v :: r, h => by
    obtain ⟨i1, i2, i3⟩ := flat_sums (as := r) fun y hy => h y (List.mem_cons_of_mem _ hy)
    have o := h v List.mem_cons_self
    have a := o.sh
    have b := o.dp
    have c := o.sz
    refine ⟨by simp [PyData.showableAll, a, i1], ?_, ?_⟩
    · simp only [List.map_cons, PyData.depthAll]
      omega
    · simp only [List.map_cons, List.sum_cons, List.length_cons]
      omega
theorem flat_show (h : ∀ v ∈ as, Odd K G v (datV v)) (hl : as.length ≤ 60) : ((PyData.list (as.map datV)).showable = true ∧ (PyData.list (as.map datV)).depth ≤ 60 ∧ (PyData.list (as.map datV)).shown.length ≤ sizeLine) ∧
    (PyData.tuple (as.map datV)).showable = true ∧ (PyData.tuple (as.map datV)).depth ≤ 60 ∧ (PyData.tuple (as.map datV)).shown.length ≤ sizeLine := by
  obtain ⟨i1, i2, i3⟩ := flat_sums h
  have f1 := sh_list (as.map datV) i3
  have f2 := sh_tup (as.map datV) i3
  rw [List.length_map] at f1 f2
  refine ⟨⟨by simp only [PyData.showable]; exact i1, by simp only [PyData.depth]; omega, sz_m (by omega)⟩, by simp only [PyData.showable]; exact i1, by simp only [PyData.depth]; omega, sz_m (by omega)⟩
end
end Q
namespace Q
open PySem PySem.Spec PyProof.Rows L2
end Q
namespace Q
open PySem PySem.Spec PyProof.Rows L2
end Q
namespace Q
open PySem PySem.Spec PyProof.Rows L2
abbrev Tri := Str × Int × Bool
def TwoOf (C : Addr) (G : Hp) (p : Addr) (t : Tri × Tri) : Prop := ∃ a b, G p = some (.tup [.ref a, .ref b]) ∧ SayAt C G a t.1.1 t.1.2.1 t.1.2.2 ∧ SayAt C G b t.2.1 t.2.2.1 t.2.2.2
theorem TwoOf.same {C p : Addr} {G G' : Hp} {t : Tri × Tri} (h : TwoOf C G p t) (s : Same G G') : TwoOf C G' p t := by
  obtain ⟨a, b, h1, h2, h3⟩ := h
  exact ⟨a, b, s _ _ h1, h2.same s, h3.same s⟩
def TwoAt (C : Addr) (G : Hp) (ps : List Addr) (ts : List (Tri × Tri)) : Prop := ps.length = ts.length ∧ ∀ (k : Nat) (p : Addr) (t : Tri × Tri), ps[k]? = some p → ts[k]? = some t → TwoOf C G p t
theorem TwoAt.same {C : Addr} {G G' : Hp} {ps : List Addr} {ts : List (Tri × Tri)} (h : TwoAt C G ps ts) (s : Same G G') : TwoAt C G' ps ts := ⟨h.1, fun k p t h1 h2 => (h.2 k p t h1 h2).same s⟩
theorem TwoAt.nil {C : Addr} {G : Hp} : TwoAt C G [] [] := ⟨rfl, fun k p t h => by simp at h⟩
theorem TwoAt.snoc {C p : Addr} {G : Hp} {ps : List Addr} {ts : List (Tri × Tri)} {t : Tri × Tri} (h : TwoAt C G ps ts) (q : TwoOf C G p t) : TwoAt C G (ps ++ [p]) (ts ++ [t]) := by
  refine ⟨by simp [h.1], fun k p' t' h1 h2 => ?_⟩
  rcases Nat.lt_or_ge k ps.length with c | c
  · rw [List.getElem?_append_left c] at h1
    rw [List.getElem?_append_left (by rw [← h.1]; exact c)] at h2
    exact h.2 k p' t' h1 h2
  · rw [List.getElem?_append_right c] at h1
    rw [List.getElem?_append_right (by rw [← h.1]; exact c)] at h2
    have : k - ps.length = 0 := by
      have := (List.getElem?_eq_some_iff.mp h1).1
      simp at this
      omega
    rw [this] at h1
    rw [← h.1, this] at h2
    cases h1
    cases h2
    exact q
theorem TwoAt.one {C p : Addr} {G : Hp} {t : Tri × Tri} (q : TwoOf C G p t) : TwoAt C G [p] [t] := TwoAt.nil.snoc q
theorem TwoAt.two {C p q : Addr} {G : Hp} {t u : Tri × Tri} (h1 : TwoOf C G p t) (h2 : TwoOf C G q u) : TwoAt C G [p, q] [t, u] := (TwoAt.one h1).snoc h2
end Q
namespace Q
open PySem PySem.Spec PyProof.Rows L2
def TriAt (G : Hp) (a : Addr) (t : Tri) : Prop := G a = some (.tup [.str t.1, .int t.2.1, .bl t.2.2])
def DuoAt (G : Hp) (p : Addr) (t : Tri × Tri) : Prop := ∃ a b, G p = some (.tup [.ref a, .ref b]) ∧ TriAt G a t.1 ∧ TriAt G b t.2
theorem DuoAt.same {G G' : Hp} {p : Addr} {t : Tri × Tri} (h : DuoAt G p t) (s : Same G G') : DuoAt G' p t := by
  obtain ⟨a, b, h1, h2, h3⟩ := h
  exact ⟨a, b, s _ _ h1, s _ _ h2, s _ _ h3⟩
inductive DuosAt (G : Hp) : List Addr → List (Tri × Tri) → Prop
  | nil : DuosAt G [] []
  | cons {p : Addr} {t : Tri × Tri} {ps : List Addr} {ts : List (Tri × Tri)} (h : DuoAt G p t) (r : DuosAt G ps ts) : DuosAt G (p :: ps) (t :: ts)
section
variable {G G' : Hp} {ps : List Addr} {ts : List (Tri × Tri)} {p : Addr} {t : Tri × Tri}
theorem DuosAt.same (h : DuosAt G ps ts) (s : Same G G') : DuosAt G' ps ts := by
  induction h with
  | nil => exact .nil
  | cons h _ ih => exact .cons (h.same s) ih
theorem DuosAt.snoc (r : DuosAt G ps ts) (h : DuoAt G p t) : DuosAt G (ps ++ [p]) (ts ++ [t]) := by
  induction r with
  | nil => exact .cons h .nil
  | cons h2 _ ih => exact .cons h2 ih
theorem DuosAt.len (h : DuosAt G ps ts) : ps.length = ts.length := by
  induction h with
  | nil => rfl
  | cons _ _ ih => simp [ih]
end
end Q
namespace Q
open PySem PySem.Spec PyProof.Rows L2
end Q
namespace Q
def memR (L : List (Int × Int)) (x : Int) : Prop := ∃ p ∈ L, p.1 ≤ x ∧ x ≤ p.2
/-- whole stretches, ascending, each apart from the next -/
structure NormR (L : List (Int × Int)) : Prop where
  each : ∀ p ∈ L, p.1 ≤ p.2
  apart : L.Pairwise fun p q => p.2 + 1 < q.1
theorem NormR.tail {p : Int × Int} {L : List (Int × Int)} (h : NormR (p :: L)) : NormR L := ⟨fun q hq => h.each q (List.mem_cons_of_mem _ hq), (List.pairwise_cons.mp h.apart).2⟩
theorem NormR.head {p : Int × Int} {L : List (Int × Int)} (h : NormR (p :: L)) : ∀ q ∈ L, p.2 + 1 < q.1 := (List.pairwise_cons.mp h.apart).1
theorem NormR.next {p : Int × Int} {L : List (Int × Int)} (h : NormR (p :: L)) {x : Int} (hx : memR L x) : p.2 + 1 < x := by
  obtain ⟨q, hq, h1⟩ := hx
  have := h.head q hq
  omega
end Q
namespace Q
open PySem PySem.Spec PyProof.Rows L2
/-- a pair of ints at p -/
def PrAt (G : Hp) (p : Addr) (q : Int × Int) : Prop := G p = some (.tup [.int q.1, .int q.2])
inductive PrsAt (G : Hp) : List Addr → List (Int × Int) → Prop
  | nil : PrsAt G [] []
  | cons {p : Addr} {q : Int × Int} {ps : List Addr} {qs : List (Int × Int)} (h : PrAt G p q) (t : PrsAt G ps qs) : PrsAt G (p :: ps) (q :: qs)
section
variable {G G' : Hp} {p : Addr} {q : Int × Int} {ps : List Addr} {qs : List (Int × Int)}
theorem PrsAt.same (h : PrsAt G ps qs) (s : Same G G') : PrsAt G' ps qs := by
  induction h with
  | nil => exact .nil
  | cons h _ ih => exact .cons (s _ _ h) ih
theorem PrsAt.app {ps' : List Addr} {qs' : List (Int × Int)} (h : PrsAt G ps qs) (h' : PrsAt G ps' qs') : PrsAt G (ps ++ ps') (qs ++ qs') := by
  induction h with
  | nil => exact h'
  | cons h _ ih => exact .cons h ih
theorem PrsAt.snoc (r : PrsAt G ps qs) (h : PrAt G p q) : PrsAt G (ps ++ [p]) (qs ++ [q]) := r.app (.cons h .nil)
theorem PrsAt.len (h : PrsAt G ps qs) : ps.length = qs.length := by
  induction h with
  | nil => rfl
  | cons _ _ ih => simp only [List.length_cons, ih]
theorem PrsAt.take (h : PrsAt G ps qs) : ∀ n, PrsAt G (ps.take n) (qs.take n) := by
  induction h with
  | nil => intro n; rw [List.take_nil, List.take_nil]; exact .nil
  | cons h _ ih =>
    intro n
    cases n with
    | zero => exact .nil
    | succ n => exact .cons h (ih n)
theorem PrsAt.get (h : PrsAt G ps qs) : ∀ {i : Nat} {p : Addr}, ps[i]? = some p → ∃ q, qs[i]? = some q ∧ PrAt G p q := by
  induction h with
  | nil => intro i p e; cases i <;> cases e
  | cons h _ ih =>
    intro i p e
    cases i with
    | zero => cases e; exact ⟨_, rfl, h⟩
    | succ i => exact ih e
theorem PrsAt.mem (h : PrsAt G ps qs) {p : Addr} (hp : p ∈ ps) : ∃ q, q ∈ qs ∧ PrAt G p q := by
  obtain ⟨i, hi, e⟩ := List.mem_iff_getElem.mp hp
  obtain ⟨q, e2, hq⟩ := h.get (i := i) (p := p) (by rw [List.getElem?_eq_getElem hi, e])
  exact ⟨q, List.mem_of_getElem? e2, hq⟩
/-- pairs in another order -/
theorem PrsAt.perm (h : PrsAt G ps qs) : ∀ {ps' : List Addr}, ps'.Perm ps → ∃ qs', PrsAt G ps' qs' ∧ qs'.Perm qs := by
  have key : ∀ {ps ps' : List Addr}, ps.Perm ps' → ∀ {qs : List (Int × Int)}, PrsAt G ps qs → ∃ qs', PrsAt G ps' qs' ∧ qs.Perm qs' := by
    intro ps ps' pm
    induction pm with
    | nil =>
      intro qs h
      exact ⟨qs, h, .refl _⟩
    | cons x _ ih =>
      intro qs h
      cases h with
      | cons h t =>
        obtain ⟨qs', r, pq⟩ := ih t
        exact ⟨_, .cons h r, pq.cons _⟩
    | swap x y l =>
      intro qs h
      cases h with
      | cons h t =>
        cases t with
        | cons h2 t => exact ⟨_, .cons h2 (.cons h t), .swap _ _ _⟩
    | trans _ _ ih1 ih2 =>
      intro qs h
      obtain ⟨q1, r1, p1⟩ := ih1 h
      obtain ⟨q2, r2, p2⟩ := ih2 r1
      exact ⟨q2, r2, p1.trans p2⟩
  intro ps' pm
  obtain ⟨q', r, p'⟩ := key pm.symm h
  exact ⟨q', r, p'.symm⟩
end
end Q
namespace Q
open PySem PySem.Spec PyProof.Rows L2
/-- whether x is a stretch within lo .. hi -/
def StrI (K : PySem.W.Frag) (G : Hp) (lo hi : Int) (x : V) (b : Bool) : Prop :=
  (∃ p q, x = .ref p ∧ PrAt G p q ∧ b = (decide (lo ≤ q.1) && (decide (q.1 ≤ q.2) && decide (q.2 ≤ hi)))) ∨
  (b = false ∧ ((∃ t, TyX K G x t ∧ PySem.W.kitOne K t (.type "tuple") = some false) ∨
    ∃ p xs, x = .ref p ∧ G p = some (.tup xs) ∧ xs.length ≤ 1000 ∧ (∀ y ∈ xs, ∃ t, Kd K G y t) ∧ (xs.length ≠ 2 ∨ xs.all isI = false)))
theorem StrI.same {K : PySem.W.Frag} {G G' : Hp} {lo hi : Int} {x : V} {b : Bool} (h : StrI K G lo hi x b) (s : Same G G') : StrI K G' lo hi x b := by
  rcases h with ⟨p, q, e, h, r⟩ | ⟨e, ⟨t, h, k⟩ | ⟨p, xs, e2, h, l, a, n⟩⟩
  · exact .inl ⟨p, q, e, s _ _ h, r⟩
  · exact .inr ⟨e, .inl ⟨t, same_ty s h, k⟩⟩
  · exact .inr ⟨e, .inr ⟨p, xs, e2, s _ _ h, l, fun y hy => (a y hy).elim fun t z => ⟨t, z.same s⟩, n⟩⟩
def StrsI (K : PySem.W.Frag) (G : Hp) (lo hi : Int) (xs : List V) (bs : List Bool) : Prop := xs.length = bs.length ∧ ∀ (i : Nat) (x : V) (b : Bool), xs[i]? = some x → bs[i]? = some b → StrI K G lo hi x b
theorem StrsI.same {K : PySem.W.Frag} {G G' : Hp} {lo hi : Int} {xs : List V} {bs : List Bool} (h : StrsI K G lo hi xs bs) (s : Same G G') : StrsI K G' lo hi xs bs := ⟨h.1, fun i x b e1 e2 => (h.2 i x b e1 e2).same s⟩
/-- what a set of turns is made of: the fault's value, or the stretches -/
def TuIn (K : PySem.W.Frag) (G : Hp) (lo hi : Int) (x : V) (o : V ⊕ List (Int × Int)) : Prop :=
  (o = .inl .non ∧ ∃ t, TyX K G x t ∧ PySem.W.kitOne K t (.type "list") = some false ∧ PySem.W.kitOne K t (.type "tuple") = some false) ∨
  ∃ s xs bs, x = .ref s ∧ SqA K G s xs ∧ xs.length ≤ 1000 ∧ StrsI K G lo hi xs bs ∧
    ((∃ j : Nat, bs[j]? = some false ∧ (∀ i, i < j → bs[i]? = some true) ∧ o = .inl (.int j)) ∨
      ∃ ps qs, (∀ (i : Nat) (b : Bool), bs[i]? = some b → b = true) ∧ xs = ps.map V.ref ∧ PrsAt G ps qs ∧ (∀ q ∈ qs, lo ≤ q.1 ∧ q.1 ≤ q.2 ∧ q.2 ≤ hi) ∧ o = .inr qs)
theorem TuIn.same {K : PySem.W.Frag} {G G' : Hp} {lo hi : Int} {x : V} {o : V ⊕ List (Int × Int)} (h : TuIn K G lo hi x o) (s : Same G G') : TuIn K G' lo hi x o := by
  rcases h with ⟨e, t, h, k⟩ | ⟨a, xs, bs, e, h, l, st, r⟩
  · exact .inl ⟨e, t, same_ty s h, k⟩
  · refine .inr ⟨a, xs, bs, e, h.same s, l, st.same s, r.elim .inl fun ⟨ps, qs, h1, h2, h3, h4⟩ => .inr ⟨ps, qs, h1, h2, h3.same s, h4⟩⟩
def TurAt (C : Addr) (G : Hp) (a : Addr) (lo hi : Int) (b : Bool) (ks : List (Int × Int)) : Prop := ∃ dx t fc ps, G a = some (.ins C dx [("low", .int lo), ("high", .int hi), ("has_none", .bl b), ("kept", .ref t), ("face", .ref fc)]) ∧
  G t = some (.tup (ps.map V.ref)) ∧ PrsAt G ps ks ∧ G fc = some (.tup [.int lo, .int hi, .ref t, .bl b])
theorem TurAt.same {C : Addr} {G G' : Hp} {a : Addr} {lo hi : Int} {b : Bool} {ks : List (Int × Int)} (h : TurAt C G a lo hi b ks) (s : Same G G') : TurAt C G' a lo hi b ks := by
  obtain ⟨dx, t, fc, ps, h1, h2, h3, h4⟩ := h
  exact ⟨dx, t, fc, ps, s _ _ h1, s _ _ h2, h3.same s, s _ _ h4⟩
structure TuC (K : PySem.W.Frag) (C : Addr) : Prop where
  c : Cls K C
  n1 : NoAttr K C "low"
  n2 : NoAttr K C "high"
  n3 : NoAttr K C "has_none"
  n4 : NoAttr K C "kept"
  n5 : NoAttr K C "face"
  ca : PySem.W.findIn K (.ref C) "__class__" = some (some (.builtin "object.__class__"))
  cn : PySem.W.specialIn K (.builtin "object.__class__") "__get__" = some (some (.builtin "getset_descriptor.__get__"))
  ct : PySem.W.takesIn K (.builtin "object.__class__") = some true
  cm : PySem.W.mroIn K C (.type "object") = some true
  me : PySem.W.kitOne K (.ref C) (.ref C) = some true
  kn : ∀ n ∈ ["NoneType", "int", "bool", "str", "list", "tuple", "dict"], PySem.W.kitOne K (.type n) (.ref C) = some false
  fme : PySem.W.notFirst K C (.ref C) = true
  fn : ∀ n ∈ ["NoneType", "int", "bool", "str", "list", "tuple", "dict"], PySem.W.notFirst K C (.type n) = true
theorem TuC.ty {K : PySem.W.Frag} {C a : Addr} {G : Hp} {lo hi : Int} {b : Bool} {ks : List (Int × Int)} (S : TuC K C) (h : TurAt C G a lo hi b ks) : TyX K G (.ref a) (.ref C) := by
  obtain ⟨dx, t, fc, ps, h1, _⟩ := h
  exact .base (.ins h1 S.c S.ca S.cn S.ct S.cm)
/-- numbers that can be written -/
def Fine (ks : List (Int × Int)) : Prop := ks.length ≤ 1000 ∧ ∀ q ∈ ks, -1000 ≤ q.1 ∧ q.1 ≤ q.2 ∧ q.2 ≤ 10000000000000000000000000000000
end Q
namespace Q
open PySem PySem.Spec PyProof.Rows L2
theorem Fine.mem {ks : List (Int × Int)} (h : Fine ks) {q : Int × Int} (hq : q ∈ ks) : (-1000 ≤ q.1 ∧ q.1 ≤ 10000000000000000000000000000000) ∧ (-1000 ≤ q.2 ∧ q.2 ≤ 10000000000000000000000000000000) := by
  obtain ⟨a, b, c⟩ := h.2 q hq
  exact ⟨⟨a, by omega⟩, ⟨by omega, c⟩⟩
end Q
namespace Q
open PySem PySem.Spec PyProof.Rows L2
end Q
namespace Q
open PySem PySem.Spec PyProof.Rows L2
end Q
namespace Q
open PySem PySem.Spec PyProof.Rows L2
end Q
namespace Q
open PySem PySem.Spec PyProof.Rows L2
end Q
namespace Q
open PySem PySem.Spec PyProof.Rows L2
end Q
namespace Q
open PySem PySem.Spec PyProof.Rows L2
end Q
namespace Q
open PySem PySem.Spec PyProof.Rows L2
end Q
namespace Q
open PySem PySem.Spec PyProof.Rows L2
end Q
namespace Q
open PySem PySem.Spec PyProof.Rows L2
/-- a list with odd values put in from behind: its values, whether each is a stretch, the list that tells the last one put in -/
structure BentS (K : PySem.W.Frag) (G : Hp) (lo hi : Int) (ps : List Addr) (m : Nat) (xs : List V) (bs : List Bool) (v : V) : Prop where
  st : StrsI K G lo hi xs bs
  len : xs.length = ps.length
  below : ∀ k, k < m → bs[k]? = some true
  due : (v = .non ∧ xs = ps.map V.ref ∧ ∀ (k : Nat) (b : Bool), bs[k]? = some b → b = true) ∨ ∃ (l : Addr) (k : Nat), v = .ref l ∧ G l = some (.lst [.int k]) ∧ k < ps.length ∧ bs[k]? = some false ∧ ∀ i, i < k → bs[i]? = some true
theorem BentS.same {K : PySem.W.Frag} {G G' : Hp} {lo hi : Int} {ps : List Addr} {m : Nat} {xs : List V} {bs : List Bool} {v : V} (h : BentS K G lo hi ps m xs bs v) (s : Same G G') : BentS K G' lo hi ps m xs bs v :=
  ⟨h.st.same s, h.len, h.below, h.due.elim .inl fun ⟨l, k, e, h1, h2⟩ => .inr ⟨l, k, e, s _ _ h1, h2⟩⟩
end Q
namespace Q
open PySem PySem.Spec PyProof.Rows L2
end Q
namespace Q
open PySem PySem.Spec PyProof.Rows L2
end Q
namespace Q
open PySem PySem.Spec PyProof.Rows L2
/-- what the stretches of a life lo .. hi are -/
structure TuOk (lo hi : Int) (ks : List (Int × Int)) : Prop where
  norm : NormR ks
  within : ∀ p ∈ ks, lo ≤ p.1 ∧ p.2 ≤ hi
  life : lo ≤ hi ∧ hi ≤ lo + 12
theorem TuOk.mem {lo hi : Int} {ks : List (Int × Int)} (h : TuOk lo hi ks) {x : Int} (m : memR ks x) : lo ≤ x ∧ x ≤ hi := by
  obtain ⟨p, hp, a, b⟩ := m
  have := h.within p hp
  omega
end Q
namespace Q
open PySem PySem.Spec PyProof.Rows L2
/-- a set of turns, its moments, whether None is in it -/
structure TkSet (lo hi : Int) (ks : List (Int × Int)) (ts : List Int) : Prop where
  up : ts.Pairwise (· < ·)
  mem : ∀ x, memR ks x ↔ x ∈ ts
  ok : TuOk lo hi ks
theorem TkSet.within {lo hi : Int} {ks : List (Int × Int)} {ts : List Int} (h : TkSet lo hi ks ts) : ∀ x ∈ ts, lo ≤ x ∧ x ≤ hi := fun x hx => h.ok.mem ((h.mem x).mpr hx)
def TrAt (C : Addr) (G : Hp) (p : Addr) (lo hi : Int) (b : Bool) (ks : List (Int × Int)) (ts : List Int) : Prop := ∃ a l, G p = some (.tup [.ref a, .ref l, .bl b]) ∧ TurAt C G a lo hi b ks ∧ G l = some (.lst (ts.map V.int)) ∧ TkSet lo hi ks ts
theorem TrAt.same {C : Addr} {G G' : Hp} {p : Addr} {lo hi : Int} {b : Bool} {ks : List (Int × Int)} {ts : List Int} (h : TrAt C G p lo hi b ks ts) (s : Same G G') : TrAt C G' p lo hi b ks ts := by
  obtain ⟨a, l, h1, h2, h3, h4⟩ := h
  exact ⟨a, l, s _ _ h1, h2.same s, s _ _ h3, h4⟩
theorem TurAt.ins {C a : Addr} {G : Hp} {lo hi : Int} {b : Bool} {ks : List (Int × Int)} (h : TurAt C G a lo hi b ks) : ∃ dx fs, G a = some (.ins C dx fs) := by
  obtain ⟨dx, t, fc, ps, h1, _⟩ := h
  exact ⟨dx, _, h1⟩
end Q
namespace Q
open PySem PySem.Spec PyProof.Rows L2
def TrIn (C : Addr) (G : Hp) (lo hi : Int) (p : Addr) : Prop := ∃ b ks ts, TrAt C G p lo hi b ks ts
theorem TrIn.same {C p : Addr} {G G' : Hp} {lo hi : Int} (h : TrIn C G lo hi p) (s : Same G G') : TrIn C G' lo hi p := by
  obtain ⟨b, ks, ts, h⟩ := h
  exact ⟨b, ks, ts, h.same s⟩
/-- a thing that a set of turns of the life lo .. hi is not equal to -/
def NoTu (K : PySem.W.Frag) (C : Addr) (G : Hp) (lo hi : Int) (x : V) : Prop := (∃ c lo' hi' b' ks', x = .ref c ∧ TurAt C G c lo' hi' b' ks' ∧ ks'.length ≤ 1000 ∧ ¬ (lo = lo' ∧ hi = hi')) ∨ ∃ n : String, TyX K G x (.type n) ∧ n ∈ ["NoneType", "int", "bool", "str", "list", "tuple", "dict"]
theorem NoTu.same {K : PySem.W.Frag} {C : Addr} {G G' : Hp} {lo hi : Int} {x : V} (h : NoTu K C G lo hi x) (s : Same G G') : NoTu K C G' lo hi x := by
  rcases h with ⟨c, lo', hi', b', ks', e, h, r⟩ | ⟨n, h, r⟩
  · exact .inl ⟨c, lo', hi', b', ks', e, h.same s, r⟩
  · exact .inr ⟨n, same_ty s h, r⟩
end Q
namespace Q
open PySem PySem.Spec PyProof.Rows L2
inductive Tr (α : Type) where
  | no : Tr α
  | done : Tr α
  | ask (e : α) (p f : Tr α) : Tr α
namespace Tr
variable {α β : Type}
def isNo : Tr α → Bool
  | .no => true
  | _ => false
/-- a plan of at most so many checks on a way -/
def ok : Tr α → Nat → Bool
  | .done, _ => true
  | .ask _ p f, d + 1 => (p.isNo || p.ok d) && ((f.isNo || f.ok d) && !(p.isNo && f.isNo))
  | _, _ => false
def map (g : α → β) : Tr α → Tr β
  | .no => .no
  | .done => .done
  | .ask e p f => .ask (g e) (p.map g) (f.map g)
theorem isNo_map (g : α → β) (t : Tr α) : (t.map g).isNo = t.isNo := by cases t <;> rfl
theorem ok_map (g : α → β) : ∀ (t : Tr α) (d : Nat), (t.map g).ok d = t.ok d
  | .no, d => by cases d <;> rfl
  | .done, d => by cases d <;> rfl
  | .ask e p f, 0 => rfl
  | .ask e p f, d + 1 => by
    simp only [map, ok, isNo_map, ok_map g p d, ok_map g f d]
end Tr
abbrev Ck := Str × Int × Str
abbrev zDone : Str := Str.ofString "done"
abbrev zNone : Str := Str.ofString "none"
def ckW (c : Ck) : List Str := entWords c.1 c.2.1 c.2.2
def ckText (c : Ck) : Str := entText c.1 c.2.1 c.2.2
def RightC (c : Ck) : Prop := RightE c.1 c.2.1 c.2.2
def Tr.words : Tr Ck → List Str
  | .no => [zNone]
  | .done => [zDone]
  | .ask c p f => ckW c ++ (p.words ++ f.words)
def Tr.text : Tr Ck → Str
  | .no => zNone
  | .done => zDone
  | .ask c p f => Txt.join zBlank [ckText c, p.text, f.text]
def Tr.right : Tr Ck → Prop
  | .ask c p f => RightC c ∧ p.right ∧ f.right
  | _ => True
/-- how many checks -/
def Tr.size {α : Type} : Tr α → Nat
  | .ask _ p f => 1 + p.size + f.size
  | _ => 0
theorem Tr.words_ne (t : Tr Ck) : t.words ≠ [] := by
  cases t with
  | no => simp [Tr.words]
  | done => simp [Tr.words]
  | ask c p f => simp [Tr.words, ckW, entWords]
theorem joinL_app (S : List Nat) : ∀ (xs ys : List (List Nat)), xs ≠ [] → ys ≠ [] → TL.joinL S (xs ++ ys) = TL.joinL S xs ++ (S ++ TL.joinL S ys)
  | [], _, h, _ => absurd rfl h
  | [a], y :: ys, _, _ => rfl
  | [a], [], _, h => absurd rfl h
  | a :: b :: xs, ys, _, h => by
    show a ++ (S ++ TL.joinL S ((b :: xs) ++ ys)) = (a ++ (S ++ TL.joinL S (b :: xs))) ++ _
    rw [joinL_app S (b :: xs) ys (by simp) h]
    simp only [List.append_assoc]
theorem Tr.text_join : ∀ t : Tr Ck, Txt.join zBlank t.words = t.text
  | .no => by
    refine TL.ext_tl ?_
    rw [TL.join_eq, TL.tl_join]
    rfl
  | .done => by
    refine TL.ext_tl ?_
    rw [TL.join_eq, TL.tl_join]
    rfl
  | .ask c p f => by
    have h1 := congrArg TL.tl (ent_join c.1 c.2.1 c.2.2)
    have h2 := congrArg TL.tl p.text_join
    have h3 := congrArg TL.tl f.text_join
    refine TL.ext_tl ?_
    rw [TL.join_eq, TL.tl_join] at h1 h2 h3 ⊢
    show TL.joinL _ ((ckW c ++ (p.words ++ f.words)).map TL.tl) = TL.tl (Txt.join zBlank [ckText c, p.text, f.text])
    rw [TL.join_eq, TL.tl_join, List.map_append, List.map_append, joinL_app _ _ _ (by simp [ckW, entWords]) (by simp [p.words_ne]), joinL_app _ _ _ (by simp [p.words_ne]) (by simp [f.words_ne])]
    unfold ckW ckText
    rw [h1, h2, h3]
    rfl
theorem Tr.free {c : Nat} (hc : c < 48) : ∀ {t : Tr Ck}, t.right → ∀ w ∈ t.words, c ∉ TL.tl w
  | .no, _, w, hw => by
    rw [List.mem_singleton.mp hw]
    have e : (TL.tl zNone).all (fun c => decide (48 ≤ c)) = true := by decide +kernel
    intro m
    have := of_decide_eq_true (List.all_eq_true.mp e c m)
    omega
  | .done, _, w, hw => by
    rw [List.mem_singleton.mp hw]
    have e : (TL.tl zDone).all (fun c => decide (48 ≤ c)) = true := by decide +kernel
    intro m
    have := of_decide_eq_true (List.all_eq_true.mp e c m)
    omega
  | .ask k p f, h, w, hw => by
    rcases List.mem_append.mp hw with hw | hw
    · exact ent_free h.1.1 h.1.2.1 h.1.2.2.1 hc w hw
    · rcases List.mem_append.mp hw with hw | hw
      · exact Tr.free hc h.2.1 w hw
      · exact Tr.free hc h.2.2 w hw
theorem Tr.split {t : Tr Ck} (h : t.right) : Txt.split t.text zNl = [t.text] ∧ wordsOf t.text = t.words := by
  have e1 : Txt.split t.text zNl = [t.text] := by
    refine TL.split_join (y := zNl) (s := 10) (S := []) (by decide +kernel) (by decide +kernel) (parts := [t.text]) (by simp) (fun p hp => ?_)
    rw [List.mem_singleton.mp hp, ← t.text_join, TL.join_eq, TL.tl_join]
    intro m
    rcases joinL_mem m with m | ⟨q, hq, m⟩
    · have e : TL.tl zBlank = [32] := by decide +kernel
      rw [e] at m
      cases List.mem_singleton.mp m
    · obtain ⟨p, hp, rfl⟩ := List.mem_map.mp hq
      exact Tr.free (by decide) h p hp m
  refine ⟨e1, ?_⟩
  unfold wordsOf
  rw [e1]
  show Txt.split t.text zBlank = _
  rw [← t.text_join]
  exact TL.split_join (y := zBlank) (s := 32) (S := []) (by decide +kernel) (by decide +kernel) t.words_ne (Tr.free (by decide) h)
def ckAt (ws : List Str) (n : Nat) : Ck := ((ws[n + 1]?).getD Str.empty, ((ws[n + 2]?).bind momW).getD 0, (ws[n + 4]?).getD Str.empty)
def brR (R : Nat → Nat ⊕ (Tr Ck × Nat)) (ws : List Str) (n : Nat) (may : Bool) : Nat ⊕ (Tr Ck × Nat) := if may = true ∧ ws[n]? = some zNone then .inr (.no, n + 1) else R n
def rdP (ws : List Str) : Nat → Nat → Nat ⊕ (Tr Ck × Nat)
  | 0, n => if ws[n]? = some zDone then .inr (.done, n + 1) else .inl n
  | d + 1, n => if ws[n]? = some zDone then .inr (.done, n + 1) else match firstBad ws n with
    | some k => .inl (n + k)
    | none => match brR (rdP ws d) ws (n + 5) true with
      | .inl k => .inl k
      | .inr (p, m) => match brR (rdP ws d) ws m (!p.isNo) with
        | .inl k => .inl k
        | .inr (f, e) => .inr (.ask (ckAt ws n) p f, e)
def pgR (z : Str) : (Int × Int) ⊕ Tr Ck := match rdP (wordsOf z) 4 0 with
  | .inl k => .inl (0, (k : Int))
  | .inr (t, e) => if e < (wordsOf z).length then .inl (0, (e : Int)) else if 1 < (Txt.split z zNl).length then .inl (1, 0) else .inr t
def valR : V → (Int × Int) ⊕ Tr Ck
  | .str z => pgR z
  | _ => .inl (0, 0)
theorem get_at {α : Type} {xs : List α} {n : Nat} {x : α} (h : xs[n]? = some x) : (xs.drop n).take 1 = [x] ∧ n < xs.length := by
  have hl := (List.getElem?_eq_some_iff.mp h).1
  refine ⟨?_, hl⟩
  rw [List.drop_eq_getElem_cons hl]
  rw [List.getElem?_eq_getElem hl] at h
  rw [Option.some.inj h]
  rfl
theorem ck_at {ws : List Str} {n : Nat} (h : firstBad ws n = none) : n + 5 ≤ ws.length ∧ (ws.drop n).take 5 = ckW (ckAt ws n) ∧ RightC (ckAt ws n) ∧
    ws[n + 1]? = some (ckAt ws n).1 ∧ (∃ m, ws[n + 2]? = some m ∧ momW m = some (ckAt ws n).2.1) ∧ ws[n + 4]? = some (ckAt ws n).2.2 := by
  obtain ⟨z0, a0, b0⟩ := none_bad h (k := 0) (by decide)
  obtain ⟨z1, a1, b1⟩ := none_bad h (k := 1) (by decide)
  obtain ⟨z2, a2, b2⟩ := none_bad h (k := 2) (by decide)
  obtain ⟨z3, a3, b3⟩ := none_bad h (k := 3) (by decide)
  obtain ⟨z4, a4, b4⟩ := none_bad h (k := 4) (by decide)
  obtain ⟨i, hi⟩ : ∃ i, momW z2 = some i := Option.isSome_iff_exists.mp b2
  obtain ⟨i0, i1, ei⟩ := momW_some hi
  have e0 : z0 = Str.ofString "check" := of_decide_eq_true b0
  have e3 : z3 = Str.ofString "by" := of_decide_eq_true b3
  have ec : ckAt ws n = (z1, i, z4) := by
    unfold ckAt
    rw [a1, a2, a4]
    show (z1, (momW z2).getD 0, z4) = _
    rw [hi]
    rfl
  have len := (List.getElem?_eq_some_iff.mp a4).1
  rw [ec]
  refine ⟨by omega, ?_, ⟨b1, b4, i0, i1⟩, a1, ⟨z2, a2, hi⟩, a4⟩
  have hd : ∀ k, k < 5 → (ws.drop n)[k]? = ws[n + k]? := fun k _ => List.getElem?_drop
  have l5 : 5 ≤ (ws.drop n).length := by rw [List.length_drop]; omega
  have g0 := (hd 0 (by decide)).trans a0
  have g1 := (hd 1 (by decide)).trans a1
  have g2 := (hd 2 (by decide)).trans a2
  have g3 := (hd 3 (by decide)).trans a3
  have g4 := (hd 4 (by decide)).trans a4
  generalize ws.drop n = xs at *
  match xs, l5 with
  | p0 :: p1 :: p2 :: p3 :: p4 :: r, _ =>
    cases g0
    cases g1
    cases g2
    cases g3
    cases g4
    unfold ckW entWords
    rw [e0, e3, ← ei]
    rfl
/-- what is read stands there -/
def RdOk (ws : List Str) (d n : Nat) (t : Tr Ck) (e : Nat) : Prop := n ≤ e ∧ e ≤ ws.length ∧ (ws.drop n).take (e - n) = t.words ∧ t.right
theorem brR_ok {ws : List Str} {d n e : Nat} {may : Bool} {t : Tr Ck} (R : Nat → Nat ⊕ (Tr Ck × Nat)) (hR : ∀ n t e, R n = .inr (t, e) → RdOk ws d n t e ∧ t.ok d = true) (h : brR R ws n may = .inr (t, e)) : RdOk ws d n t e ∧ (t.isNo = true ∧ may = true ∨ t.ok d = true ∧ t.isNo = false) := by
  unfold brR at h
  split at h
  · rename_i c
    cases h
    obtain ⟨g1, g2⟩ := get_at c.2
    refine ⟨⟨Nat.le_succ _, g2, ?_, trivial⟩, .inl ⟨rfl, c.1⟩⟩
    rw [Nat.add_sub_cancel_left]
    exact g1
  · obtain ⟨h1, h2⟩ := hR _ _ _ h
    refine ⟨h1, .inr ⟨h2, ?_⟩⟩
    cases t with
    | no => cases d <;> cases h2
    | done => rfl
    | ask c p f => rfl
theorem rdP_ok (ws : List Str) : ∀ (d n : Nat) (t : Tr Ck) (e : Nat), rdP ws d n = .inr (t, e) → RdOk ws d n t e ∧ t.ok d = true
  | 0, n, t, e, h => by
    unfold rdP at h
    split at h
    · rename_i c
      cases h
      obtain ⟨g1, g2⟩ := get_at c
      refine ⟨⟨Nat.le_succ _, g2, ?_, trivial⟩, rfl⟩
      rw [Nat.add_sub_cancel_left]
      exact g1
    · cases h
  | d + 1, n, t, e, h => by
    unfold rdP at h
    split at h
    · rename_i c
      cases h
      obtain ⟨g1, g2⟩ := get_at c
      refine ⟨⟨Nat.le_succ _, g2, ?_, trivial⟩, rfl⟩
      rw [Nat.add_sub_cancel_left]
      exact g1
    · cases fb : firstBad ws n with
      | some k => rw [fb] at h; cases h
      | none =>
        rw [fb] at h
        simp only at h
        obtain ⟨c1, c2, c3, _⟩ := ck_at fb
        cases hp : brR (rdP ws d) ws (n + 5) true with
        | inl k => rw [hp] at h; cases h
        | inr q =>
          obtain ⟨p, m⟩ := q
          rw [hp] at h
          simp only at h
          cases hf : brR (rdP ws d) ws m (!p.isNo) with
          | inl k => rw [hf] at h; cases h
          | inr q =>
            obtain ⟨f, e'⟩ := q
            rw [hf] at h
            simp only at h
            cases h
            obtain ⟨⟨p1, p2, p3, p4⟩, p5⟩ := brR_ok _ (rdP_ok ws d) hp
            obtain ⟨⟨f1, f2, f3, f4⟩, f5⟩ := brR_ok _ (rdP_ok ws d) hf
            refine ⟨⟨by omega, f2, ?_, c3, p4, f4⟩, ?_⟩
            · have e1 : e - n = 5 + ((m - (n + 5)) + (e - m)) := by omega
              rw [e1]
              show _ = ckW _ ++ (p.words ++ f.words)
              rw [List.take_add, c2]
              congr 1
              rw [List.drop_drop, List.take_add, p3, List.drop_drop, show n + 5 + (m - (n + 5)) = m by omega, f3]
            · show ((p.isNo || p.ok d) && ((f.isNo || f.ok d) && !(p.isNo && f.isNo))) = true
              rcases p5 with ⟨a1, _⟩ | ⟨a1, a2⟩
              · rcases f5 with ⟨b1, b2⟩ | ⟨b1, b2⟩
                · rw [a1] at b2
                  cases b2
                · rw [a1, b1, b2]
                  rfl
              · rcases f5 with ⟨b1, b2⟩ | ⟨b1, b2⟩
                · rw [a1, a2, b1]
                  rfl
                · rw [a1, a2, b1, b2]
                  rfl
theorem brR_bad {ws : List Str} {n k : Nat} {may : Bool} (R : Nat → Nat ⊕ (Tr Ck × Nat)) (hR : ∀ n k, n ≤ ws.length → R n = .inl k → k ≤ ws.length) (hn : n ≤ ws.length) (h : brR R ws n may = .inl k) : k ≤ ws.length := by
  unfold brR at h
  split at h
  · cases h
  · exact hR _ _ hn h
theorem rdP_bad (ws : List Str) : ∀ (d n k : Nat), n ≤ ws.length → rdP ws d n = .inl k → k ≤ ws.length
  | 0, n, k, hn, h => by
    unfold rdP at h
    split at h
    · cases h
    · cases h
      exact hn
  | d + 1, n, k, hn, h => by
    unfold rdP at h
    split at h
    · cases h
    · cases fb : firstBad ws n with
      | some j =>
        rw [fb] at h
        cases h
        unfold firstBad at fb
        rw [List.find?_range_eq_some] at fb
        obtain ⟨_, _, f3⟩ := fb
        by_cases q : n + j ≤ ws.length
        · exact q
        · exfalso
          have := f3 (ws.length - n) (by omega)
          unfold badAt at this
          rw [show n + (ws.length - n) = ws.length by omega, List.getElem?_eq_none (Nat.le_refl _)] at this
          cases this
      | none =>
        rw [fb] at h
        simp only at h
        obtain ⟨c1, _⟩ := ck_at fb
        cases hp : brR (rdP ws d) ws (n + 5) true with
        | inl j =>
          rw [hp] at h
          cases h
          exact brR_bad _ (rdP_bad ws d) c1 hp
        | inr q =>
          obtain ⟨p, m⟩ := q
          rw [hp] at h
          simp only at h
          obtain ⟨⟨_, p2, _⟩, _⟩ := brR_ok _ (rdP_ok ws d) hp
          cases hf : brR (rdP ws d) ws m (!p.isNo) with
          | inl j =>
            rw [hf] at h
            cases h
            exact brR_bad _ (rdP_bad ws d) p2 hf
          | inr q => rw [hf] at h; cases h
theorem pre_get {α : Type} {a b : List α} {x : α} {k : Nat} (h : b[k]? = some x) : (a ++ b)[a.length + k]? = some x := by
  rw [List.getElem?_append_right (Nat.le_add_right _ _), Nat.add_sub_cancel_left]
  exact h
theorem ck_good {c : Ck} (r : RightC c) (a b : List Str) : firstBad (a ++ (ckW c ++ b)) a.length = none ∧ ckAt (a ++ (ckW c ++ b)) a.length = c := by
  have g : ∀ k z, (ckW c)[k]? = some z → (a ++ (ckW c ++ b))[a.length + k]? = some z := fun k z h => pre_get (by
    rw [List.getElem?_append_left (List.getElem?_eq_some_iff.mp h).1]
    exact h)
  have m := momW_num r.2.2.1 r.2.2.2
  constructor
  · refine bad_none fun j hj => ?_
    unfold badAt
    match j, hj with
    | 0, _ => rw [g 0 _ rfl]; show (!okW 0 (Str.ofString "check")) = false; rfl
    | 1, _ => rw [g 1 _ rfl]; show (!nmOk c.1) = false; rw [r.1]; rfl
    | 2, _ => rw [g 2 _ rfl]; show (!(momW (Str.ofString (toString c.2.1))).isSome) = false; rw [m]; rfl
    | 3, _ => rw [g 3 _ rfl]; show (!okW 3 (Str.ofString "by")) = false; rfl
    | 4, _ => rw [g 4 _ rfl]; show (!nmOk c.2.2) = false; rw [r.2.1]; rfl
  · unfold ckAt
    rw [g 1 _ rfl, g 2 _ rfl, g 4 _ rfl]
    show (c.1, (momW (Str.ofString (toString c.2.1))).getD 0, c.2.2) = c
    rw [m]
    rfl
theorem head_word (t : Tr Ck) : ∃ z r, t.words = z :: r ∧ (t.isNo = false → z ≠ zNone) ∧ (∀ c p f, t = .ask c p f → z ≠ zDone) := by
  cases t with
  | no => exact ⟨zNone, [], rfl, (fun h => absurd h (by decide)), (fun c p f h => nomatch h)⟩
  | done => exact ⟨zDone, [], rfl, (fun _ => by decide +kernel), (fun c p f h => nomatch h)⟩
  | ask c p f => exact ⟨Str.ofString "check", _, rfl, (fun _ => by decide +kernel), (fun _ _ _ _ => by decide +kernel)⟩
theorem brR_back {d : Nat} {t : Tr Ck} (a b : List Str) (may : Bool) (hm : t.isNo = true → may = true) (R : Nat → Nat ⊕ (Tr Ck × Nat)) (hR : t.ok d = true → R a.length = .inr (t, a.length + t.words.length)) (h : t.isNo = true ∨ t.ok d = true) :
    brR R (a ++ (t.words ++ b)) a.length may = .inr (t, a.length + t.words.length) := by
  obtain ⟨z, r, e1, e2, _⟩ := head_word t
  have g : (a ++ (t.words ++ b))[a.length]? = some z := by
    have := pre_get (a := a) (b := t.words ++ b) (k := 0) (x := z) (by rw [e1]; rfl)
    exact this
  unfold brR
  cases t with
  | no =>
    cases e1
    rw [if_pos ⟨hm rfl, g⟩]
    rfl
  | done =>
    rw [if_neg (fun c => e2 rfl (Option.some.inj (g.symm.trans c.2)))]
    exact hR (h.resolve_left (by intro h; cases h))
  | ask c p f =>
    rw [if_neg (fun c => e2 rfl (Option.some.inj (g.symm.trans c.2)))]
    exact hR (h.resolve_left (by intro h; cases h))
theorem or_no {t : Tr Ck} {d : Nat} (h : (t.isNo || t.ok d) = true) : t.isNo = true ∨ t.ok d = true := Bool.or_eq_true_iff.mp h
theorem rdP_back : ∀ (d : Nat) (t : Tr Ck) (a b : List Str), t.ok d = true → t.right → rdP (a ++ (t.words ++ b)) d a.length = .inr (t, a.length + t.words.length)
  | d, .no, a, b, h, _ => by cases d <;> cases h
  | d, .done, a, b, _, _ => by
    have g : (a ++ (([zDone] : List Str) ++ b))[a.length]? = some zDone := pre_get (k := 0) rfl
    cases d with
    | zero =>
      unfold rdP
      exact if_pos g
    | succ d =>
      unfold rdP
      exact if_pos g
  | 0, .ask c p f, a, b, h, _ => by cases h
  | d + 1, .ask c p f, a, b, h, r => by
    obtain ⟨z, rr, e1, _, e3⟩ := head_word (.ask c p f)
    have g : (a ++ ((Tr.ask c p f).words ++ b))[a.length]? = some z := pre_get (k := 0) (by rw [e1]; rfl)
    have nd : ¬ (a ++ ((Tr.ask c p f).words ++ b))[a.length]? = some zDone := fun q => e3 c p f rfl (Option.some.inj (g.symm.trans q))
    have h : ((p.isNo || p.ok d) && ((f.isNo || f.ok d) && !(p.isNo && f.isNo))) = true := h
    rw [Bool.and_eq_true, Bool.and_eq_true] at h
    obtain ⟨h1, h2, h3⟩ := h
    have ew : a ++ ((Tr.ask c p f).words ++ b) = a ++ (ckW c ++ (p.words ++ (f.words ++ b))) := by
      show a ++ ((ckW c ++ (p.words ++ f.words)) ++ b) = _
      simp only [List.append_assoc]
    have ew2 : a ++ ((Tr.ask c p f).words ++ b) = (a ++ ckW c) ++ (p.words ++ (f.words ++ b)) := by rw [ew, List.append_assoc]
    have ew3 : a ++ ((Tr.ask c p f).words ++ b) = (a ++ ckW c ++ p.words) ++ (f.words ++ b) := by rw [ew2, List.append_assoc (a ++ ckW c)]
    have l1 : (a ++ ckW c).length = a.length + 5 := by rw [List.length_append]; rfl
    have l2 : (a ++ ckW c ++ p.words).length = a.length + 5 + p.words.length := by rw [List.length_append, l1]
    obtain ⟨g1, g2⟩ := ck_good r.1 a (p.words ++ (f.words ++ b))
    rw [← ew] at g1 g2
    have b1 := brR_back (t := p) (d := d) (a ++ ckW c) (f.words ++ b) true (fun _ => rfl) (rdP ((a ++ ckW c) ++ (p.words ++ (f.words ++ b))) d) (fun o => rdP_back d p _ _ o r.2.1) (or_no h1)
    rw [← ew2, l1] at b1
    have b2 := brR_back (t := f) (d := d) (a ++ ckW c ++ p.words) b (!p.isNo) (fun q => by
      rw [q, Bool.and_true] at h3
      exact h3) (rdP ((a ++ ckW c ++ p.words) ++ (f.words ++ b)) d) (fun o => rdP_back d f _ _ o r.2.2) (or_no h2)
    rw [← ew3, l2] at b2
    unfold rdP
    rw [if_neg nd, g1]
    simp only
    rw [b1]
    simp only
    rw [b2]
    simp only
    rw [g2]
    congr 2
    show _ = a.length + (ckW c ++ (p.words ++ f.words)).length
    rw [List.length_append, List.length_append]
    show _ = a.length + (5 + _)
    omega
/-- a plan's own text is read as this plan -/
theorem pgR_back {t : Tr Ck} (h : t.ok 4 = true) (r : t.right) : pgR t.text = .inr t := by
  obtain ⟨e1, e2⟩ := Tr.split r
  have b := rdP_back 4 t [] [] h r
  rw [List.append_nil, List.nil_append, List.length_nil, Nat.zero_add] at b
  unfold pgR
  rw [e2, b]
  simp only
  rw [if_neg (Nat.lt_irrefl _), e1]
  rfl
/-- what is read has this text -/
theorem pgR_text {z : Str} {t : Tr Ck} (h : pgR z = .inr t) : t.ok 4 = true ∧ t.right ∧ z = t.text := by
  unfold pgR at h
  cases hr : rdP (wordsOf z) 4 0 with
  | inl k => rw [hr] at h; cases h
  | inr q =>
    obtain ⟨t', e⟩ := q
    rw [hr] at h
    simp only at h
    split at h
    · cases h
    · rename_i le
      split at h
      · cases h
      · rename_i l1
        cases h
        obtain ⟨⟨_, r2, r3, r4⟩, r5⟩ := rdP_ok _ _ _ _ _ hr
        refine ⟨r5, r4, ?_⟩
        rw [List.drop_zero, Nat.sub_zero, List.take_of_length_le (by omega)] at r3
        obtain ⟨p, r, es⟩ := split_cons z zNl
        have er : r = [] := by
          rw [es] at l1
          cases r with
          | nil => rfl
          | cons q r => simp at l1
        have ex := StrLaws.join_split z zNl
        rw [es, er] at ex
        have ex : p = z := ex
        have ej := StrLaws.join_split p zBlank
        have e2 : Txt.split p zBlank = t.words := by
          rw [← r3]
          unfold wordsOf
          rw [es]
          rfl
        rw [e2, ← TL.join_eq, t.text_join] at ej
        rw [← ex, ej]
theorem pgR_bad {z : Str} {l k : Int} (h : pgR z = .inl (l, k)) : (l = 0 ∨ l = 1) ∧ 0 ≤ k ∧ k ≤ (wordsOf z).length := by
  unfold pgR at h
  cases hr : rdP (wordsOf z) 4 0 with
  | inl j =>
    rw [hr] at h
    cases h
    have := rdP_bad _ _ _ _ (Nat.zero_le _) hr
    exact ⟨.inl rfl, by omega, by omega⟩
  | inr q =>
    obtain ⟨t', e⟩ := q
    rw [hr] at h
    simp only at h
    split at h
    · cases h
      exact ⟨.inl rfl, by omega, by omega⟩
    · split at h
      · cases h
        exact ⟨.inr rfl, by omega, by omega⟩
      · cases h
theorem Tr.text_len : ∀ (d : Nat) (t : Tr Ck), t.right → t.isNo = true ∨ t.ok d = true → t.text.length ≤ 67 * 2 ^ d - 63 ∧ Low t.text
  | d, .no, _, _ => ⟨by
    have e : (Tr.no : Tr Ck).text.length = 4 := by decide +kernel
    have : 1 ≤ 2 ^ d := Nat.one_le_two_pow
    omega, low_of (by decide +kernel)⟩
  | d, .done, _, _ => ⟨by
    have e : (Tr.done : Tr Ck).text.length = 4 := by decide +kernel
    have : 1 ≤ 2 ^ d := Nat.one_le_two_pow
    omega, low_of (by decide +kernel)⟩
  | 0, .ask c p f, _, h => by
    rcases h with h | h <;> cases h
  | d + 1, .ask c p f, r, h => by
    have h : ((p.isNo || p.ok d) && ((f.isNo || f.ok d) && !(p.isNo && f.isNo))) = true := h.resolve_left (by intro h; cases h)
    rw [Bool.and_eq_true, Bool.and_eq_true] at h
    obtain ⟨p1, p2⟩ := Tr.text_len d p r.2.1 (or_no h.1)
    obtain ⟨f1, f2⟩ := Tr.text_len d f r.2.2 (or_no h.2.1)
    have l1 := ent_len r.1
    have w1 := ent_low (i := c.2.1) r.1.1 r.1.2.1
    have one : 1 ≤ 2 ^ d := Nat.one_le_two_pow
    have w : Wt [ckText c, p.text, f.text] (60 + p.text.length + f.text.length + 3) := ⟨by
      simp only [List.map_cons, List.map_nil, List.sum_cons, List.sum_nil, List.length_cons, List.length_nil]
      have : (ckText c).length ≤ 60 := l1
      omega, fun y hy => by
      simp only [List.mem_cons, List.not_mem_nil, or_false] at hy
      rcases hy with rfl | rfl | rfl
      · exact w1
      · exact p2
      · exact f2⟩
    obtain ⟨j1, j2⟩ := wt_join w
    refine ⟨?_, j2⟩
    show (Txt.join zBlank [ckText c, p.text, f.text]).length ≤ _
    rw [Nat.pow_succ]
    omega
theorem two_showN (K : PySem.W.Frag) (G : Hp) {l k : Int} (hl : l = 0 ∨ l = 1) (h0 : 0 ≤ k) (h1 : k ≤ 1000000) : (PyData.tuple [.int l, .int k]).showable = true ∧ (PyData.tuple [.int l, .int k]).depth ≤ 60 ∧ (PyData.tuple [.int l, .int k]).shown.length ≤ sizeLine := by
  have := (flat_show (K := K) (G := G) (as := [.int l, .int k]) (fun v hv => by
    simp only [List.mem_cons, List.not_mem_nil, or_false] at hv
    rcases hv with rfl | rfl
    · exact odd_num (by rcases hl with rfl | rfl <;> decide)
    · exact odd_num (by omega)) (by simp)).2
  exact this
end Q
namespace Q
open PySem PySem.Spec PyProof.Rows L2
section
variable {X : Cx} {CX : CXT} {k j : Nat} {C : Addr} {sp : Sp} {E : XK} {o : Expr} {m : Str} {pos apos : Pos} {ta : TE} {pl : Sem Bool}
theorem pe_statD0 (he : PE X o ta) (D : StD X.prog X.w X.K X.mg X.base CX k C m sp) (hr : Room j X.A) (hx : Passes CX X E) (hj : k ≤ j := by decide)
    (ht : eval (.Call (.Attribute o m apos) [] [] pos) X.env = (do
      let ov ← eval o X.env
      standAt apos.atName
      let (f, first) ← holding [ov] (getMethod ov m pl)
      callWith pos f first (backTo pos (starEach [] X.env)) (backToKw pos (keywordEach [] X.env))) := by rfl) : PE X (.Call (.Attribute o m apos) [] [] pos) (tStat C sp E ta tNil) := by
  obtain ⟨mc, p, g, fd, ps, r, c, hb, F⟩ := D.ex
  refine ⟨fun pins s σ H Q I h => ?_⟩
  refine PySem.W.methodCall_KW (pl := pl) (thn (he.run pins s σ H _ I h) fun u s1 told => ?_) ht
  obtain ⟨x, H1, I1, rx, ex, q⟩ := told
  subst ex
  obtain rfl : u = Value.ref C := rx
  refine get_stat I1 r c fun s2 I2 => ?_
  exact PySem.W.callWith_K0 (first := []) I2.kIn c.kp (run_under (us := []) (vs := []) F (hr.mono hj) I2.env0 hb hx I2 .nil q)
end
theorem get_ix {ws : List Str} {n : Nat} {z : Str} (h : ws[n]? = some z) : atI (ws.map V.str) (n : Int) = some (.str z) := atI_nat (by rw [List.getElem?_map, h] <;> rfl)
theorem get_ix2 {ws : List Str} {n j : Nat} {z : Str} (h : ws[n + j]? = some z) : atI (ws.map V.str) ((n : Int) + (j : Int)) = some (.str z) := by
  have := get_ix h
  rw [Int.natCast_add] at this
  exact this
def RdAt (G : Hp) : Tr Ck → V → Prop
  | .no, v => v = .non
  | .done, v => ∃ a, v = .ref a ∧ G a = some (.tup [])
  | .ask c p f, v => ∃ a b vp vf, v = .ref a ∧ G a = some (.tup [.ref b, vp, vf]) ∧ G b = some (.tup [.str c.1, .int c.2.1, .str c.2.2]) ∧ RdAt G p vp ∧ RdAt G f vf
theorem RdAt.same {G G' : Hp} (s : Same G G') : ∀ {t : Tr Ck} {v : V}, RdAt G t v → RdAt G' t v
  | .no, _, h => h
  | .done, _, ⟨a, e, h⟩ => ⟨a, e, s _ _ h⟩
  | .ask c p f, _, ⟨a, b, vp, vf, e, h1, h2, h3, h4⟩ => ⟨a, b, vp, vf, e, s _ _ h1, s _ _ h2, RdAt.same s h3, RdAt.same s h4⟩
theorem RdAt.non {G : Hp} {t : Tr Ck} {v : V} (h : RdAt G t v) : decide (v = .non) = t.isNo := by
  cases t with
  | no => rw [show v = .non from h] <;> rfl
  | done =>
    obtain ⟨a, rfl, _⟩ := h
    rfl
  | ask c p f =>
    obtain ⟨a, b, vp, vf, rfl, _⟩ := h
    rfl
structure PlC (K : PySem.W.Frag) (C : Addr) : Prop where
  c : Cls K C
  n1 : NoAttr K C "entry"
  n2 : NoAttr K C "own_passed"
  n3 : NoAttr K C "own_failed"
  n4 : NoAttr K C "below"
  n5 : NoAttr K C "each"
  ca : PySem.W.findIn K (.ref C) "__class__" = some (some (.builtin "object.__class__"))
  cn : PySem.W.specialIn K (.builtin "object.__class__") "__get__" = some (some (.builtin "getset_descriptor.__get__"))
  ct : PySem.W.takesIn K (.builtin "object.__class__") = some true
  cm : PySem.W.mroIn K C (.type "object") = some true
  me : PySem.W.kitOne K (.ref C) (.ref C) = some true
  fme : PySem.W.notFirst K C (.ref C) = true
  ki : PySem.W.kitOne K (.ref C) (.type "int") = some false
  kb : PySem.W.kitOne K (.ref C) (.type "bool") = some false
  ks : PySem.W.kitOne K (.ref C) (.type "str") = some false
  tup : PySem.W.kitOne K (.type "tuple") (.ref C) = some false
def planF (v1 v2 v3 : V) (b e : Addr) : List (Str × V) := [("entry", v1), ("own_passed", v2), ("own_failed", v3), ("below", .ref b), ("each", .ref e)]
/-- a plan, or None -/
def BrAt (C Ce : Addr) (G : Hp) : Tr Ck → V → Prop
  | .no, v => v = .non
  | .done, v => ∃ a dx bl el, v = .ref a ∧ G a = some (.ins C dx (planF .non .non .non bl el)) ∧ G bl = some (.lst []) ∧ G el = some (.lst [])
  | .ask c p f, v => ∃ a dx bl el en vp vf bs es, v = .ref a ∧ G a = some (.ins C dx (planF (.ref en) vp vf bl el)) ∧ G bl = some (.lst bs) ∧ G el = some (.lst es) ∧ es.length ≤ (Tr.ask c p f).size ∧ EntAt Ce G en c.1 c.2.1 c.2.2 ∧ BrAt C Ce G p vp ∧ BrAt C Ce G f vf
section
variable {K : PySem.W.Frag} {C Ce Ct : Addr} {G G' : Hp}
theorem BrAt.same (s : Same G G') : ∀ {t : Tr Ck} {v : V}, BrAt C Ce G t v → BrAt C Ce G' t v
  | .no, _, h => h
  | .done, _, ⟨a, dx, bl, el, e, h1, h2, h3⟩ => ⟨a, dx, bl, el, e, s _ _ h1, s _ _ h2, s _ _ h3⟩
  | .ask c p f, _, ⟨a, dx, bl, el, en, vp, vf, bs, es, e, h1, h2, h3, h4, h5, h6, h7⟩ => ⟨a, dx, bl, el, en, vp, vf, bs, es, e, s _ _ h1, s _ _ h2, s _ _ h3, h4, h5.same s, BrAt.same s h6, BrAt.same s h7⟩
theorem BrAt.non {t : Tr Ck} {v : V} (h : BrAt C Ce G t v) : decide (v = .non) = t.isNo := by
  cases t with
  | no => rw [show v = .non from h] <;> rfl
  | done =>
    obtain ⟨a, _, _, _, rfl, _⟩ := h
    rfl
  | ask c p f =>
    obtain ⟨a, _, _, _, _, _, _, _, _, rfl, _⟩ := h
    rfl
/-- what all plans have: an instance with the five fields -/
theorem BrAt.ins {t : Tr Ck} {v : V} (h : BrAt C Ce G t v) (n : t.isNo = false) : ∃ a dx v1 v2 v3 bl el es, v = .ref a ∧ G a = some (.ins C dx (planF v1 v2 v3 bl el)) ∧ G el = some (.lst es) ∧ es.length ≤ t.size := by
  cases t with
  | no => cases n
  | done =>
    obtain ⟨a, dx, bl, el, e, h1, h2, h3⟩ := h
    exact ⟨a, dx, _, _, _, bl, el, [], e, h1, h3, Nat.le_refl _⟩
  | ask c p f =>
    obtain ⟨a, dx, bl, el, en, vp, vf, bs, es, e, h1, h2, h3, h4, _⟩ := h
    exact ⟨a, dx, _, _, _, bl, el, es, e, h1, h3, h4⟩
theorem PlC.ty (S : PlC K C) {a dx : Addr} {fs : List (Str × V)} (h : G a = some (.ins C dx fs)) : TyX K G (.ref a) (.ref C) := .base (.ins h S.c S.ca S.cn S.ct S.cm)
theorem PlC.kd (S : PlC K C) {a dx : Addr} {fs : List (Str × V)} (h : G a = some (.ins C dx fs)) : Kd K G (.ref a) (.ref C) := ⟨S.ty h, S.ki, S.kb, S.ks⟩
def retR (Ct : Addr) (G H : Hp) (r : Nat ⊕ (Tr Ck × Nat)) (Q : VK) (E : XK) : Prop :=
  (∀ t e, r = .inr (t, e) → Ret G H (fun v G' => ∃ q tv, v = .ref q ∧ G' q = some (.tup [tv, .int (e : Int)]) ∧ RdAt G' t tv) Q) ∧ ∀ k, r = .inl k → RetXf G H Ct (textF 0 (k : Int)) E
def spPlanAt (Ct : Addr) : Nat → Sp
  | 0 => fun _ _ _ _ => False
  | d + 1 => fun vs H Q E => ∃ (G : Hp) (p : Addr) (ws : List Str) (n : Nat), vs = [.ref p, .int (n : Int), .int (4 - (d : Int))] ∧ d ≤ 4 ∧ Gh G H ∧ WsAt G p ws ∧ ws.length ≤ 100000 ∧ n ≤ ws.length ∧ retR Ct G H (rdP ws d n) Q E
def spBranch (Ct : Addr) : Nat → Sp
  | 0 => fun _ _ _ _ => False
  | d + 1 => fun vs H Q E => ∃ (G : Hp) (p : Addr) (ws : List Str) (n : Nat) (may : Bool), vs = [.ref p, .int (n : Int), .int (4 - (d : Int)), .bl may] ∧ d ≤ 4 ∧ Gh G H ∧ WsAt G p ws ∧ ws.length ≤ 100000 ∧ n ≤ ws.length ∧ retR Ct G H (brR (rdP ws d) ws n may) Q E
def spPlanTree (K : PySem.W.Frag) (Ct : Addr) : Sp := fun vs H Q E => ∃ (G : Hp) (x : V) (u : Value), vs = [x] ∧ Gh G H ∧ Kd K G x u ∧ (∀ z, x = .str z → z.length ≤ 50000) ∧
  (∀ t, valR x = .inr t → Ret G H (fun v G' => RdAt G' t v) Q) ∧ ∀ l k, valR x = .inl (l, k) → RetXf G H Ct (textF l k) E
def spPlInit (C Ce : Addr) : Sp := fun vs H Q _ => ∃ (G : Hp) (x dx : Addr) (v1 v2 v3 : V) (p f : Tr Ck), vs = [.ref x, v1, v2, v3] ∧ Gh G H ∧ G x = none ∧ H x = some (.ins C dx []) ∧ (v1 = .non ∨ ∃ a t i b, v1 = .ref a ∧ EntAt Ce G a t i b) ∧ BrAt C Ce G p v2 ∧ BrAt C Ce G f v3 ∧ p.size ≤ 1000 ∧ f.size ≤ 1000 ∧
  ∀ (G' H' : Hp) (bl el : Addr) (bs es : List V), But x H H' → Gh G' H' → Same G G' → (∀ a, H a ≠ none → G' a = G a) → G' bl = some (.lst bs) → G' el = some (.lst es) → (v1 = .non → v2 = .non → v3 = .non → bs = [] ∧ es = []) → es.length ≤ 1 + p.size + f.size → H' x = some (.ins C dx (planF v1 v2 v3 bl el)) → Q .non H'
def spDone (C Ce : Addr) : Sp := fun vs H Q _ => ∃ (G : Hp), vs = [] ∧ Gh G H ∧ Ret G H (fun v G' => BrAt C Ce G' .done v) Q
def spAsk (C Ce : Addr) : Sp := fun vs H Q _ => ∃ (G : Hp) (a : Addr) (v2 v3 : V) (c : Ck) (p f : Tr Ck), vs = [.ref a, v2, v3] ∧ Gh G H ∧ EntAt Ce G a c.1 c.2.1 c.2.2 ∧ BrAt C Ce G p v2 ∧ BrAt C Ce G f v3 ∧ (p.isNo && f.isNo) = false ∧ p.size ≤ 1000 ∧ f.size ≤ 1000 ∧
  Ret G H (fun v G' => BrAt C Ce G' (.ask c p f) v) Q
def Tr.okB {α : Type} (t : Tr α) (d : Nat) : Bool := t.isNo || t.ok d
def spPlanOf (C Ce : Addr) : Nat → Sp
  | 0 => fun _ _ _ _ => False
  | d + 1 => fun vs H Q _ => ∃ (G : Hp) (v : V) (t : Tr Ck), vs = [v] ∧ d ≤ 4 ∧ Gh G H ∧ RdAt G t v ∧ t.right ∧ t.okB d = true ∧ Ret G H (fun r G' => BrAt C Ce G' t r) Q
def spPlRead (K : PySem.W.Frag) (C Ce Ct : Addr) : Sp := fun vs H Q E => ∃ (G : Hp) (x : V) (u : Value), vs = [.ref C, x] ∧ Gh G H ∧ Kd K G x u ∧ (∀ z, x = .str z → z.length ≤ 50000) ∧
  (∀ t, valR x = .inr t → Ret G H (fun v G' => BrAt C Ce G' t v) Q) ∧ ∀ l k, valR x = .inl (l, k) → RetXf G H Ct (textF l k) E
def spPlEq (C Ce : Addr) : Nat → Sp
  | 0 => fun _ _ _ _ => False
  | d + 1 => fun vs H Q _ => ∃ (G : Hp) (v1 v2 : V) (t : Tr Ck), vs = [v1, v2] ∧ d ≤ 4 ∧ Gh G H ∧ BrAt C Ce G t v1 ∧ BrAt C Ce G t v2 ∧ t.ok d = true ∧ Ret G H (fun r _ => r = .bl true) Q
def spPlStr (C Ce : Addr) : Nat → Sp
  | 0 => fun _ _ _ _ => False
  | d + 1 => fun vs H Q _ => ∃ (G : Hp) (v1 : V) (t : Tr Ck), vs = [v1] ∧ d ≤ 4 ∧ Gh G H ∧ BrAt C Ce G t v1 ∧ t.ok d = true ∧ t.right ∧ Ret G H (fun r _ => r = .str t.text) Q
def Tr.sub {α : Type} (fst : Bool) : Tr α → Tr α
  | .ask _ p f => if fst = true then p else f
  | _ => .no
def spPlBranch (C Ce : Addr) (fst : Bool) : Sp := fun vs H Q _ => ∃ (G : Hp) (v : V) (t : Tr Ck), vs = [v] ∧ Gh G H ∧ BrAt C Ce G t v ∧ t.isNo = false ∧ Ret G H (fun r G' => BrAt C Ce G' (t.sub fst) r) Q
def spPlanText (C Ce : Addr) : Sp := fun vs H Q _ => ∃ (G : Hp) (v : V) (t : Tr Ck), vs = [v] ∧ Gh G H ∧ BrAt C Ce G t v ∧ t.ok 4 = true ∧ t.right ∧ Ret G H (fun r _ => r = .str t.text) Q
end
section
variable {K : PySem.W.Frag} {C Ce Ct : Addr} {e : En} {G H : Hp} {M : List Addr} {Q : VK} {E : XK}
theorem retR_use {r : Nat ⊕ (Tr Ck × Nat)} (w : Wd e G H M) (good : ∀ t n, r = .inr (t, n) → ∀ q tv G' H', Wd e G' H' M → Same G G' → Same H H' → G' q = some (.tup [tv, .int (n : Int)]) → RdAt G' t tv → Q (.ref q) H')
    (bad : ∀ k, r = .inl k → ∀ d G' H', Wd e G' H' M → Same G G' → Same H H' → G' d = some (.xd (textF 0 (k : Int))) → E (.ref Ct) (some d) H') : retR Ct G H r Q E :=
  ⟨fun t n c => ret_use w fun v G' H' w' s1 s2 ⟨q, tv, e1, e2, e3⟩ => by subst e1; exact good t n c q tv G' H' w' s1 s2 e2 e3, fun k c => retXf_use w (bad k c)⟩
theorem u_planAt {p : Addr} {ws : List Str} {n d : Nat} {dv : Int} (w : Wd e G H M) (h : WsAt G p ws) (hd : d ≤ 4) (hv : dv = 4 - (d : Int)) (hl : ws.length ≤ 100000) (hn : n ≤ ws.length)
    (good : ∀ t n', rdP ws d n = .inr (t, n') → ∀ q tv G' H', Wd e G' H' M → Same G G' → Same H H' → G' q = some (.tup [tv, .int (n' : Int)]) → RdAt G' t tv → Q (.ref q) H')
    (bad : ∀ k, rdP ws d n = .inl k → ∀ d' G' H', Wd e G' H' M → Same G G' → Same H H' → G' d' = some (.xd (textF 0 (k : Int))) → E (.ref Ct) (some d') H') : spPlanAt Ct (d + 1) [.ref p, .int (n : Int), .int dv] H Q E :=
  ⟨G, p, ws, n, by rw [hv], hd, w.gh, h, hl, hn, retR_use w good bad⟩
theorem u_branch {p : Addr} {ws : List Str} {n d : Nat} {dv : Int} {may : Bool} (w : Wd e G H M) (h : WsAt G p ws) (hd : d ≤ 4) (hv : dv = 4 - (d : Int)) (hl : ws.length ≤ 100000) (hn : n ≤ ws.length)
    (good : ∀ t n', brR (rdP ws d) ws n may = .inr (t, n') → ∀ q tv G' H', Wd e G' H' M → Same G G' → Same H H' → G' q = some (.tup [tv, .int (n' : Int)]) → RdAt G' t tv → Q (.ref q) H')
    (bad : ∀ k, brR (rdP ws d) ws n may = .inl k → ∀ d' G' H', Wd e G' H' M → Same G G' → Same H H' → G' d' = some (.xd (textF 0 (k : Int))) → E (.ref Ct) (some d') H') : spBranch Ct (d + 1) [.ref p, .int (n : Int), .int dv, .bl may] H Q E :=
  ⟨G, p, ws, n, may, by rw [hv], hd, w.gh, h, hl, hn, retR_use w good bad⟩
theorem u_planTree {x : V} {u : Value} (w : Wd e G H M) (hx : Kd K G x u) (hz : ∀ z, x = .str z → z.length ≤ 50000) (good : ∀ t, valR x = .inr t → ∀ v G' H', Wd e G' H' M → Same G G' → Same H H' → RdAt G' t v → Q v H')
    (bad : ∀ l k, valR x = .inl (l, k) → ∀ d G' H', Wd e G' H' M → Same G G' → Same H H' → G' d = some (.xd (textF l k)) → E (.ref Ct) (some d) H') : spPlanTree K Ct [x] H Q E :=
  ⟨G, x, u, rfl, w.gh, hx, hz, fun t c => ret_use w fun v G' H' w' s1 s2 p => good t c v G' H' w' s1 s2 p, fun l k c => retXf_use w (bad l k c)⟩
theorem u_plMake {v1 v2 v3 : V} {p f : Tr Ck} (w : Wd e G H M) (h1 : v1 = .non ∨ ∃ a t i b, v1 = .ref a ∧ EntAt Ce G a t i b) (h2 : BrAt C Ce G p v2) (h3 : BrAt C Ce G f v3) (z1 : p.size ≤ 1000) (z2 : f.size ≤ 1000)
    (k : ∀ a dx bl el bs es G' H', Wd e G' H' M → Same G G' → Same H H' → G' a = some (.ins C dx (planF v1 v2 v3 bl el)) → G' bl = some (.lst bs) → G' el = some (.lst es) → (v1 = .non → v2 = .non → v3 = .non → bs = [] ∧ es = []) → es.length ≤ 1 + p.size + f.size → Q (.ref a) H') :
    MakeGo C (spPlInit C Ce) [v1, v2, v3] E H Q := by
  refine make_go w fun x dx G1 H1 hx nm s1 t1 w1 hi1 n0 => ?_
  refine ⟨G1, x, dx, v1, v2, v3, p, f, rfl, w1.gh, (w1.mu x List.mem_cons_self).1, hi1, h1.imp id (fun ⟨a, t, i, b, e, h⟩ => ⟨a, t, i, b, e, h.same s1⟩), h2.same s1, h3.same s1, z1, z2, fun G2 H2 bl el bs es b2 s2 s3 fr hbl hel hem hle hi2 => ⟨rfl, ?_⟩⟩
  have w2 : Wd e G2 H2 (x :: M) := by
    have w3 := wd_but w1 List.mem_cons_self b2 hi2
    refine ⟨s2.1, fun a ha => ?_, w1.nd, w3.dom, fun a o h => s3 _ _ (w1.gr _ _ h), fun a ha => by rw [fr a (w1.dom a ha)]; exact w1.fr a ha, w3.kp, s2.2, w3.mt, w3.tb⟩
    obtain ⟨g1, ⟨o, g2⟩, g3⟩ := w1.mu a ha
    obtain ⟨_, g4, _⟩ := w3.mu a ha
    exact ⟨by rw [fr a (some_ne g2)]; exact g1, g4, g3⟩
  obtain ⟨w4, s4⟩ := wd_freeze w2 hi2 n0
  refine k x dx bl el bs es _ H2 w4 (s1.trans (s3.trans s4)) (fun a o h => ?_) upd_same (s4 _ _ hbl) (s4 _ _ hel) hem hle
  refine b2 a o (fun q => ?_) (t1 _ _ h)
  subst q
  rw [hx] at h
  cases h
theorem u_done (w : Wd e G H M) (k : ∀ v G' H', Wd e G' H' M → Same G G' → Same H H' → BrAt C Ce G' .done v → Q v H') : spDone C Ce [] H Q E :=
  ⟨G, rfl, w.gh, ret_use w fun v G' H' w' s1 s2 p => k v G' H' w' s1 s2 p⟩
theorem u_askP {a : Addr} {v2 v3 : V} {c : Ck} {p f : Tr Ck} (w : Wd e G H M) (h1 : EntAt Ce G a c.1 c.2.1 c.2.2) (h2 : BrAt C Ce G p v2) (h3 : BrAt C Ce G f v3) (hn : (p.isNo && f.isNo) = false) (z1 : p.size ≤ 1000) (z2 : f.size ≤ 1000)
    (k : ∀ v G' H', Wd e G' H' M → Same G G' → Same H H' → BrAt C Ce G' (.ask c p f) v → Q v H') : spAsk C Ce [.ref a, v2, v3] H Q E :=
  ⟨G, a, v2, v3, c, p, f, rfl, w.gh, h1, h2, h3, hn, z1, z2, ret_use w fun v G' H' w' s1 s2 p => k v G' H' w' s1 s2 p⟩
theorem u_planOf {v : V} {t : Tr Ck} {d : Nat} (w : Wd e G H M) (h : RdAt G t v) (hd : d ≤ 4) (r : t.right) (o : t.okB d = true) (k : ∀ r G' H', Wd e G' H' M → Same G G' → Same H H' → BrAt C Ce G' t r → Q r H') : spPlanOf C Ce (d + 1) [v] H Q E :=
  ⟨G, v, t, rfl, hd, w.gh, h, r, o, ret_use w fun v G' H' w' s1 s2 p => k v G' H' w' s1 s2 p⟩
theorem u_plRead {x : V} {u : Value} (w : Wd e G H M) (hx : Kd K G x u) (hz : ∀ z, x = .str z → z.length ≤ 50000) (good : ∀ t, valR x = .inr t → ∀ v G' H', Wd e G' H' M → Same G G' → Same H H' → BrAt C Ce G' t v → Q v H')
    (bad : ∀ l k, valR x = .inl (l, k) → ∀ d G' H', Wd e G' H' M → Same G G' → Same H H' → G' d = some (.xd (textF l k)) → E (.ref Ct) (some d) H') : spPlRead K C Ce Ct [.ref C, x] H Q E :=
  ⟨G, x, u, rfl, w.gh, hx, hz, fun t c => ret_use w fun v G' H' w' s1 s2 p => good t c v G' H' w' s1 s2 p, fun l k c => retXf_use w (bad l k c)⟩
theorem u_plEq {v1 v2 : V} {t : Tr Ck} {d : Nat} (w : Wd e G H M) (h1 : BrAt C Ce G t v1) (h2 : BrAt C Ce G t v2) (hd : d ≤ 4) (o : t.ok d = true) (k : ∀ G' H', Wd e G' H' M → Same G G' → Same H H' → Q (.bl true) H') : spPlEq C Ce (d + 1) [v1, v2] H Q E :=
  ⟨G, v1, v2, t, rfl, hd, w.gh, h1, h2, o, ret_use w fun v G' H' w' s1 s2 p => by subst p; exact k G' H' w' s1 s2⟩
theorem u_plStr {v : V} {t : Tr Ck} {d : Nat} (w : Wd e G H M) (h1 : BrAt C Ce G t v) (hd : d ≤ 4) (o : t.ok d = true) (r : t.right) (k : ∀ G' H', Wd e G' H' M → Same G G' → Same H H' → Q (.str t.text) H') : spPlStr C Ce (d + 1) [v] H Q E :=
  ⟨G, v, t, rfl, hd, w.gh, h1, o, r, ret_use w fun v G' H' w' s1 s2 p => by subst p; exact k G' H' w' s1 s2⟩
theorem u_plBranch {v : V} {t : Tr Ck} {fst : Bool} (w : Wd e G H M) (h1 : BrAt C Ce G t v) (n : t.isNo = false) (k : ∀ r G' H', Wd e G' H' M → Same G G' → Same H H' → BrAt C Ce G' (t.sub fst) r → Q r H') : spPlBranch C Ce fst [v] H Q E :=
  ⟨G, v, t, rfl, w.gh, h1, n, ret_use w fun v G' H' w' s1 s2 p => k v G' H' w' s1 s2 p⟩
theorem u_planText {v : V} {t : Tr Ck} (w : Wd e G H M) (h1 : BrAt C Ce G t v) (o : t.ok 4 = true) (r : t.right) (k : ∀ G' H', Wd e G' H' M → Same G G' → Same H H' → Q (.str t.text) H') : spPlanText C Ce [v] H Q E :=
  ⟨G, v, t, rfl, w.gh, h1, o, r, ret_use w fun v G' H' w' s1 s2 p => by subst p; exact k G' H' w' s1 s2⟩
end
section
variable {K : PySem.W.Frag} {C Ce : Addr} {e : En} {G H : Hp} {M : List Addr} {Q : VK} {E : XK}
theorem Tr.sub_ok {t : Tr Ck} {i : Nat} (fst : Bool) (h : t.ok i = true) : (t.sub fst).isNo = true ∨ ∃ j, i = j + 1 ∧ (t.sub fst).ok j = true := by
  cases t with
  | no => exact .inl rfl
  | done => exact .inl rfl
  | ask c p f =>
    cases i with
    | zero => cases h
    | succ j =>
      have h : ((p.isNo || p.ok j) && ((f.isNo || f.ok j) && !(p.isNo && f.isNo))) = true := h
      rw [Bool.and_eq_true, Bool.and_eq_true] at h
      have a := Bool.or_eq_true_iff.mp h.1
      have b := Bool.or_eq_true_iff.mp h.2.1
      cases fst with
      | true => exact a.imp id fun a => ⟨j, rfl, a⟩
      | false => exact b.imp id fun b => ⟨j, rfl, b⟩
end
theorem size_ok {α : Type} : ∀ (d : Nat) (t : Tr α), t.okB d = true → t.size ≤ 2 ^ d - 1
  | d, .no, _ => Nat.zero_le _
  | d, .done, _ => Nat.zero_le _
  | 0, .ask c p f, h => by cases h
  | d + 1, .ask c p f, h => by
    have h : ((p.isNo || p.ok d) && ((f.isNo || f.ok d) && !(p.isNo && f.isNo))) = true := h
    rw [Bool.and_eq_true, Bool.and_eq_true] at h
    have a := size_ok d p h.1
    have b := size_ok d f h.2.1
    have : 1 ≤ 2 ^ d := Nat.one_le_two_pow
    show 1 + p.size + f.size ≤ _
    rw [Nat.pow_succ]
    omega
end Q
namespace Q
open PySem PySem.Spec PyProof.Rows L2
def rEqB (K : PySem.W.Frag) (C : Addr) (sp : Sp) (E : XK) : R2 := fun x y H Q => rEqX K x y H Q ∨ rEqI K C sp E x y H Q
def rNeB (K : PySem.W.Frag) (C : Addr) (sp : Sp) (E : XK) : R2 := fun x y H Q => rNeX K x y H Q ∨ rNeI K C sp E x y H Q
section
variable {X : Cx} {CX : CXT} {k j : Nat} {C : Addr} {sp : Sp} {E : XK}
theorem q_eqB (hu : X.A.units + 64 < cLine) (D : SpD X.prog X.w X.K X.mg X.base CX k C "__eq__" sp) (hr : Room j X.A) (hx : Passes CX X E) (hj : k ≤ j := by decide) : OpR X (compareOp .Eq) (rEqB X.K C sp E) := opr_or (q_eq hu) (q_eqD D hr hx hj)
theorem q_neB (hu : X.A.units + 64 < cLine) (hne : PySem.W.findIn X.K (.ref C) "__ne__" = some (some (.builtin "object.__ne__"))) (hm : PySem.W.mroIn X.K C (.type "object") = some true) (D : SpD X.prog X.w X.K X.mg X.base CX k C "__eq__" sp) (hr : Room j X.A) (hx : Passes CX X E)
    (hj : k + 1 ≤ j := by decide) : OpR X (compareOp .NotEq) (rNeB X.K C sp E) := opr_or (q_ne hu) (q_neD hne hm D hr hx hj)
end
def brs {α : Type} (p f : Tr α) : List (Tr α) := [p, f].filter fun t => !t.isNo
theorem brs_size {α : Type} (p f : Tr α) : ((brs p f).map Tr.size).sum ≤ p.size + f.size := by
  unfold brs
  cases p <;> cases f <;> simp [Tr.isNo]
theorem brs_at {C Ce : Addr} {G : Hp} {p f : Tr Ck} {v2 v3 : V} (h2 : BrAt C Ce G p v2) (h3 : BrAt C Ce G f v3) :
    ∀ i, i ≤ 2 → Paired (fun v t => BrAt C Ce G t v) (([v2, v3].take i).filter fun v => !decide (v = .non)) (([p, f].take i).filter fun t => !t.isNo) := by
  intro i hi
  have e2 := h2.non
  have e3 := h3.non
  match i, hi with
  | 0, _ => exact .nil
  | 1, _ =>
    show Paired _ ([v2].filter _) ([p].filter _)
    rw [List.filter_cons, List.filter_cons, e2]
    cases p.isNo
    · exact .cons h2 .nil
    · exact .nil
  | 2, _ =>
    show Paired _ ([v2, v3].filter _) ([p, f].filter _)
    rw [List.filter_cons, List.filter_cons, List.filter_cons, List.filter_cons, e2, e3]
    cases p.isNo
    · cases f.isNo
      · exact .cons h2 (.cons h3 .nil)
      · exact .cons h2 .nil
    · cases f.isNo
      · exact .cons h3 .nil
      · exact .nil
theorem brs_no {α : Type} (p f : Tr α) : ∀ t ∈ brs p f, t.isNo = false := fun t ht => by
  have := (List.mem_filter.mp ht).2
  simpa using this
theorem sum_take (ns : List Nat) {i n : Nat} (h : ns[i]? = some n) : (ns.take (i + 1)).sum = (ns.take i).sum + n := by
  rw [take_snoc h, List.sum_append, List.sum_singleton]
theorem sum_le (ns : List Nat) (i : Nat) : (ns.take i).sum ≤ ns.sum := by
  conv => rhs; rw [← List.take_append_drop i ns, List.sum_append]
  exact Nat.le_add_right _ _
end Q
namespace Q
open PySem PySem.Spec PyProof.Rows L2
section
variable {K : PySem.W.Frag} {C Ce : Addr} {e : En} {G H : Hp} {M : List Addr} {Q : VK} {E : XK}
theorem eqB_go {i : Nat} {r1 r2 : V} {t : Tr Ck} (w : Wd e G H M) (S : PlC K C) (hi : i ≤ 4) (h1 : BrAt C Ce G t r1) (h2 : BrAt C Ce G t r2) (o : t.isNo = true ∨ ∃ j, i = j + 1 ∧ t.ok j = true) (k : ∀ G' H', Wd e G' H' M → Same G G' → Same H H' → Q (.bl true) H') :
    rEqB K C (spPlEq C Ce i) E r1 r2 H Q := by
  rcases o with o | ⟨j, rfl, o⟩
  · cases t with
    | no =>
      rw [show r1 = .non from h1, show r2 = .non from h2]
      exact .inl (r_eqS rfl (k _ _ w (Same.refl _) (Same.refl _)))
    | done => cases o
    | ask c p f => cases o
  · have nn : t.isNo = false := by
      cases t with
      | no => cases j <;> cases o
      | done => rfl
      | ask c p f => rfl
    obtain ⟨a1, dx1, u1, u2, u3, bl1, el1, es1, rfl, ha1, _⟩ := id (h1.ins nn)
    obtain ⟨a2, dx2, w1', w2', w3', bl2, el2, es2, rfl, ha2, _⟩ := id (h2.ins nn)
    exact .inr (r_eqI (w.le _ _ ha1) (same_ty w.le (S.ty ha2)) S.fme (u_plEq w h1 h2 (by omega) o k))
theorem neB_go {x y : V} (w : Wd e G H M) (Se : EnC K Ce) (h : (x = .non ∧ y = .non) ∨ ∃ a1 a2 t i b, x = .ref a1 ∧ y = .ref a2 ∧ EntAt Ce G a1 t i b ∧ EntAt Ce G a2 t i b) (k : ∀ G' H', Wd e G' H' M → Same G G' → Same H H' → Q (.bl false) H') :
    rNeB K Ce (spEntEq Ce) E x y H Q := by
  rcases h with ⟨rfl, rfl⟩ | ⟨a1, a2, t, i, b, rfl, rfl, h1, h2⟩
  · exact .inl (r_neS rfl (k _ _ w (Same.refl _) (Same.refl _)))
  · obtain ⟨_, dx, fc, hi, _⟩ := id h1
    exact .inr (r_neI (w.le _ _ hi) (same_ty w.le (Se.ty h2)) Se.fme (u_entEq w h1 h2 fun G' H' w' s' t' => ⟨true, rfl, k G' H' w' s' t'⟩))
/-- the entries of two plans of one tree -/
theorem ent_two {t : Tr Ck} {a1 a2 dx1 dx2 b1 b2 e1 e2 : Addr} {u1 u2 u3 v1 v2 v3 : V} (h1 : BrAt C Ce G t (.ref a1)) (h2 : BrAt C Ce G t (.ref a2)) (g1 : G a1 = some (.ins C dx1 (planF u1 u2 u3 b1 e1))) (g2 : G a2 = some (.ins C dx2 (planF v1 v2 v3 b2 e2))) :
    (u1 = .non ∧ v1 = .non) ∨ ∃ a1 a2 t i b, u1 = .ref a1 ∧ v1 = .ref a2 ∧ EntAt Ce G a1 t i b ∧ EntAt Ce G a2 t i b := by
  have first : ∀ {a d d' b b' e e' : Addr} {x y z x' y' z' : V}, G a = some (.ins C d (planF x y z b e)) → G a = some (.ins C d' (planF x' y' z' b' e')) → x = x' := fun g g' => by
    rw [g] at g'
    injection g' with g'
    injection g' with _ _ g'
    injection g' with g' _
    injection g' with _ g'
  cases t with
  | no => cases (show V.ref a1 = .non from h1)
  | done =>
    obtain ⟨_, _, _, _, q1, i1, _⟩ := h1
    obtain ⟨_, _, _, _, q2, i2, _⟩ := h2
    cases q1
    cases q2
    exact .inl ⟨first g1 i1, first g2 i2⟩
  | ask c p f =>
    obtain ⟨_, _, _, _, x1, _, _, _, _, q1, i1, _, _, _, k1, _⟩ := h1
    obtain ⟨_, _, _, _, x2, _, _, _, _, q2, i2, _, _, _, k2, _⟩ := h2
    cases q1
    cases q2
    exact .inr ⟨x1, x2, _, _, _, first g1 i1, first g2 i2, k1, k2⟩
end
theorem Tr.len_le {t : Tr Ck} {i : Nat} (r : t.right) (hi : i ≤ 4) (o : t.isNo = true ∨ ∃ j, i = j + 1 ∧ t.ok j = true) : t.text.length ≤ 1100 ∧ Low t.text := by
  rcases o with o | ⟨j, rfl, o⟩
  · obtain ⟨a, b⟩ := Tr.text_len 0 t r (.inl o)
    exact ⟨by omega, b⟩
  · obtain ⟨a, b⟩ := Tr.text_len j t r (.inr o)
    have : 2 ^ j ≤ 2 ^ 4 := Nat.pow_le_pow_right (by decide) (by omega)
    have e : 2 ^ 4 = 16 := rfl
    exact ⟨by omega, b⟩
theorem Tr.len4 {t : Tr Ck} (r : t.right) (o : t.ok 4 = true) : t.text.length ≤ 1100 ∧ Low t.text := by
  obtain ⟨a, b⟩ := Tr.text_len 4 t r (.inr o)
  have e : 2 ^ 4 = 16 := rfl
  exact ⟨by omega, b⟩
end Q
namespace Q
open PySem PySem.Spec PyProof.Rows L2
def LtAt (G : Hp) : Tr Nat → V → Prop
  | .no, v => v = .non
  | .done, v => v = .str zDone
  | .ask k p f, v => ∃ a vp vf, v = .ref a ∧ G a = some (.tup [.int (k : Int), vp, vf]) ∧ k < 3 ∧ LtAt G p vp ∧ LtAt G f vf
theorem LtAt.same {G G' : Hp} (s : Same G G') : ∀ {t : Tr Nat} {v : V}, LtAt G t v → LtAt G' t v
  | .no, _, h => h
  | .done, _, h => h
  | .ask k p f, _, ⟨a, vp, vf, e, h1, h2, h3, h4⟩ => ⟨a, vp, vf, e, s _ _ h1, h2, LtAt.same s h3, LtAt.same s h4⟩
theorem LtAt.non {G : Hp} {t : Tr Nat} {v : V} (h : LtAt G t v) : decide (v = .non) = t.isNo := by
  cases t with
  | no => rw [show v = .non from h] <;> rfl
  | done => rw [show v = .str zDone from h] <;> rfl
  | ask k p f =>
    obtain ⟨a, vp, vf, rfl, _⟩ := h
    rfl
def treeD : Tr Nat → PyData
  | .no => .none
  | .done => .str zDone
  | .ask k p f => .tuple [.int (k : Int), treeD p, treeD f]
theorem LtAt.dp {K : PySem.W.Frag} {G : Hp} : ∀ {t : Tr Nat} {v : V}, LtAt G t v → Dp K G v (treeD t)
  | .no, v, h => by rw [show v = .non from h]; exact .non
  | .done, v, h => by rw [show v = .str zDone from h]; exact .str _
  | .ask k p f, v, ⟨a, vp, vf, e, h1, h2, h3, h4⟩ => by
    rw [e]
    exact .tup (SqT.of h1) (.cons (.int _) (.cons (LtAt.dp h3) (.cons (LtAt.dp h4) .nil)))
theorem treeD_lay : ∀ t : Tr Nat, (treeD t).canLay0 = true
  | .no => by simp [treeD, PyData.canLay0]
  | .done => by
    have e : PyData.strOk zDone = true := by decide +kernel
    simp [treeD, PyData.canLay0, e]
  | .ask k p f => by simp [treeD, PyData.canLay0, PyData.canLayAll0, treeD_lay p, treeD_lay f]
theorem treeD_depth : ∀ (d : Nat) (t : Tr Nat), t.okB d = true → (treeD t).depth ≤ d
  | d, .no, _ => by simp [treeD, PyData.depth]
  | d, .done, _ => by simp [treeD, PyData.depth]
  | 0, .ask k p f, h => by cases h
  | d + 1, .ask k p f, h => by
    have h : ((p.isNo || p.ok d) && ((f.isNo || f.ok d) && !(p.isNo && f.isNo))) = true := h
    rw [Bool.and_eq_true, Bool.and_eq_true] at h
    have a := treeD_depth d p h.1
    have b := treeD_depth d f h.2.1
    simp only [treeD, PyData.depth, PyData.depthAll]
    omega
theorem treeD_shaped {t : Tr Nat} {d : Nat} (hd : d ≤ 4) (h : t.okB d = true) : SeqAt.shaped (treeD t) = true := by
  have a := treeD_depth d t h
  unfold SeqAt.shaped
  rw [treeD_lay, decide_eq_true (by omega : (treeD t).depth ≤ 64)] <;> rfl
theorem treeD_done {t : Tr Nat} (n : t.isNo = false) : PyData.eqv (treeD t) (.str zDone) = (match t with | .done => true | _ => false) := by
  cases t with
  | no => cases n
  | done => simp [treeD, PyData.eqv]
  | ask k p f => simp [treeD, PyData.eqv]
theorem shaped_done : SeqAt.shaped (.str zDone) = true := by decide +kernel
def costT (d : Nat) : Nat := 3 * (2 ^ d - 1)
theorem costT_succ (d : Nat) : costT (d + 1) = 3 + 2 * costT d := by
  unfold costT
  have : 1 ≤ 2 ^ d := Nat.one_le_two_pow
  rw [Nat.pow_succ]
  omega
def spLTree : Nat → Sp
  | 0 => fun _ _ _ _ => False
  | d + 1 => fun vs H Q _ => ∃ (G : Hp) (p c : Addr) (n : Nat), vs = [.ref p, .int 3, .int (d : Int)] ∧ d ≤ 4 ∧ Gh G H ∧ G p = none ∧ Cells c G ∧ PenAt p c n H ∧ n + costT d ≤ 1000000 ∧ RetP p c (n + costT d) G H (fun v G' => ∃ t, LtAt G' t v ∧ t.ok d = true) Q
def ckOf (a b c : Ck) : Nat → Ck
  | 0 => a
  | 1 => b
  | _ => c
def ChecksAt (Ce : Addr) (G : Hp) (l : Addr) (g : Nat → Ck) : Prop := ∃ e0 e1 e2, G l = some (.lst [.ref e0, .ref e1, .ref e2]) ∧ EntAt Ce G e0 (g 0).1 (g 0).2.1 (g 0).2.2 ∧ EntAt Ce G e1 (g 1).1 (g 1).2.1 (g 1).2.2 ∧ EntAt Ce G e2 (g 2).1 (g 2).2.1 (g 2).2.2
theorem ChecksAt.same {Ce l : Addr} {G G' : Hp} {g : Nat → Ck} (h : ChecksAt Ce G l g) (s : Same G G') : ChecksAt Ce G' l g := by
  obtain ⟨a, b, c, h1, h2, h3, h4⟩ := h
  exact ⟨a, b, c, s _ _ h1, h2.same s, h3.same s, h4.same s⟩
theorem ChecksAt.get {Ce l : Addr} {G : Hp} {g : Nat → Ck} {k : Nat} (h : ChecksAt Ce G l g) (hk : k < 3) : ∃ e xs, G l = some (.lst xs) ∧ atI xs (k : Int) = some (.ref e) ∧ EntAt Ce G e (g k).1 (g k).2.1 (g k).2.2 := by
  obtain ⟨a, b, c, h1, h2, h3, h4⟩ := h
  match k, hk with
  | 0, _ => exact ⟨a, _, h1, rfl, h2⟩
  | 1, _ => exact ⟨b, _, h1, rfl, h3⟩
  | 2, _ => exact ⟨c, _, h1, rfl, h4⟩
def spPlanned (C Ce : Addr) : Nat → Sp
  | 0 => fun _ _ _ _ => False
  | d + 1 => fun vs H Q _ => ∃ (G : Hp) (v : V) (l : Addr) (g : Nat → Ck) (t : Tr Nat), vs = [v, .ref l] ∧ d ≤ 4 ∧ Gh G H ∧ LtAt G t v ∧ t.okB d = true ∧ ChecksAt Ce G l g ∧ Ret G H (fun r G' => BrAt C Ce G' (t.map g) r) Q
def spFitsL : Sp := fun vs H Q _ => ∃ (G : Hp) (z : Str) (k : Nat), vs = [.str z, .int (k : Int)] ∧ k < 5 ∧ Gh G H ∧ z.length ≤ 1000000 ∧ PyData.strOk z = true ∧ Ret G H (fun v _ => v = .bl (okW k z)) Q
def rdV : Nat ⊕ (Tr Ck × Nat) → List V
  | .inl k => [.non, .int (k : Int)]
  | .inr q => [.int (q.2 : Int), .non]
def WsL (G : Hp) (p : Addr) (ws : List Str) : Prop := G p = some (.lst (ws.map V.str)) ∧ ws.length ≤ 100000 ∧ ∀ z ∈ ws, z.length ≤ 1000000 ∧ PyData.strOk z = true
theorem WsL.same {G G' : Hp} {p : Addr} {ws : List Str} (h : WsL G p ws) (s : Same G G') : WsL G' p ws := ⟨s _ _ h.1, h.2⟩
def spRdL : Nat → Sp
  | 0 => fun _ _ _ _ => False
  | d + 1 => fun vs H Q _ => ∃ (G : Hp) (p : Addr) (ws : List Str) (n : Nat), vs = [.ref p, .int (n : Int), .int (4 - (d : Int))] ∧ d ≤ 4 ∧ Gh G H ∧ WsL G p ws ∧ n ≤ ws.length ∧ Ret G H (fun v G' => ∃ q, v = .ref q ∧ G' q = some (.tup (rdV (rdP ws d n)))) Q
def dueP (z : Str) : Option (Int × Int) := match pgR z with
  | .inl q => some q
  | .inr _ => none
def spDueP : Sp := fun vs H Q _ => ∃ (G : Hp) (z : Str), vs = [.str z] ∧ Gh G H ∧ z.length ≤ 50000 ∧ Low z ∧ Ret G H (fun v G' => optP G' (dueP z) v) Q
def spBentP : Sp := fun vs H Q _ => ∃ (G : Hp) (p c : Addr) (n : Nat) (z : Str), vs = [.ref p, .str z] ∧ Gh G H ∧ G p = none ∧ Cells c G ∧ PenAt p c n H ∧ n ≤ 1000000 ∧ z.length ≤ 2000 ∧ Low z ∧
  RetP p c (n + 6) G H (fun v _ => ∃ y : Str, v = .str y ∧ y.length ≤ z.length + 100 ∧ Low y) Q
def HeardP (C Ce : Addr) (G : Hp) (x v : V) : Prop := (∃ l k, valR x = .inl (l, k) ∧ optP G (some (l, k)) v) ∨ ∃ t, valR x = .inr t ∧ BrAt C Ce G t v
def spHeardP (K : PySem.W.Frag) (C Ce : Addr) : Sp := fun vs H Q _ => ∃ (G : Hp) (x : V) (u : Value), vs = [x] ∧ Gh G H ∧ Kd K G x u ∧ (∀ z, x = .str z → z.length ≤ 50000) ∧ Ret G H (fun v G' => HeardP C Ce G' x v) Q
section
variable {K : PySem.W.Frag} {C Ce : Addr} {e : En} {G H : Hp} {M : List Addr} {Q : VK} {E : XK}
theorem u_lTree {p c : Addr} {n d : Nat} {dv : Int} (w : Wd e G H M) (hm : p ∈ M) (hc : Cells c G) (P : PenAt p c n H) (hn : n + costT d ≤ 1000000) (hd : d ≤ 4) (hv : dv = (d : Int))
    (k : ∀ v t G' H', Wd e G' H' M → Same G G' → But p H H' → PenAt p c (n + costT d) H' → LtAt G' t v → t.ok d = true → Q v H') : spLTree (d + 1) [.ref p, .int 3, .int dv] H Q E :=
  ⟨G, p, c, n, by rw [hv], hd, w.gh, (w.mu p hm).1, hc, P, hn, retP_use w hm fun v G' H' w' s b P' ⟨t, h1, h2⟩ => k v t G' H' w' s b P' h1 h2⟩
theorem u_planned {v : V} {l : Addr} {g : Nat → Ck} {t : Tr Nat} {d : Nat} (w : Wd e G H M) (h : LtAt G t v) (hd : d ≤ 4) (o : t.okB d = true) (hl : ChecksAt Ce G l g)
    (k : ∀ r G' H', Wd e G' H' M → Same G G' → Same H H' → BrAt C Ce G' (t.map g) r → Q r H') : spPlanned C Ce (d + 1) [v, .ref l] H Q E :=
  ⟨G, v, l, g, t, rfl, hd, w.gh, h, o, hl, ret_use w fun v G' H' w' s1 s2 p => k v G' H' w' s1 s2 p⟩
theorem u_fitsL {z : Str} {k : Nat} (w : Wd e G H M) (hk : k < 5) (h : z.length ≤ 1000000) (ht : PyData.strOk z = true) (g : ∀ G' H', Wd e G' H' M → Same G G' → Same H H' → Q (.bl (okW k z)) H') : spFitsL [.str z, .int (k : Int)] H Q E :=
  ⟨G, z, k, rfl, hk, w.gh, h, ht, ret_use w fun v G' H' w' s1 s2 p => by subst p; exact g G' H' w' s1 s2⟩
theorem u_rdL {p : Addr} {ws : List Str} {n d : Nat} {dv : Int} (w : Wd e G H M) (h : WsL G p ws) (hd : d ≤ 4) (hv : dv = 4 - (d : Int)) (hn : n ≤ ws.length)
    (k : ∀ q G' H', Wd e G' H' M → Same G G' → Same H H' → G' q = some (.tup (rdV (rdP ws d n))) → Q (.ref q) H') : spRdL (d + 1) [.ref p, .int (n : Int), .int dv] H Q E :=
  ⟨G, p, ws, n, by rw [hv], hd, w.gh, h, hn, ret_use w fun v G' H' w' s1 s2 ⟨q, e1, e2⟩ => by subst e1; exact k q G' H' w' s1 s2 e2⟩
theorem u_dueP {z : Str} (w : Wd e G H M) (h : z.length ≤ 50000) (ht : Low z) (k : ∀ v G' H', Wd e G' H' M → Same G G' → Same H H' → optP G' (dueP z) v → Q v H') : spDueP [.str z] H Q E :=
  ⟨G, z, rfl, w.gh, h, ht, ret_use w fun v G' H' w' s1 s2 p => k v G' H' w' s1 s2 p⟩
theorem u_bentP {p c : Addr} {n : Nat} {z : Str} (w : Wd e G H M) (hm : p ∈ M) (hc : Cells c G) (P : PenAt p c n H) (hn : n ≤ 1000000) (hz : z.length ≤ 2000) (hl : Low z)
    (k : ∀ y G' H', Wd e G' H' M → Same G G' → But p H H' → PenAt p c (n + 6) H' → y.length ≤ z.length + 100 → Low y → Q (.str y) H') : spBentP [.ref p, .str z] H Q E :=
  ⟨G, p, c, n, z, rfl, w.gh, (w.mu p hm).1, hc, P, hn, hz, hl, retP_use w hm fun v G' H' w' s b P' ⟨y, e1, h1, h2⟩ => by subst e1; exact k y G' H' w' s b P' h1 h2⟩
theorem u_heardP {x : V} {u : Value} (w : Wd e G H M) (hx : Kd K G x u) (hz : ∀ z, x = .str z → z.length ≤ 50000) (k : ∀ v G' H', Wd e G' H' M → Same G G' → Same H H' → HeardP C Ce G' x v → Q v H') : spHeardP K C Ce [x] H Q E :=
  ⟨G, x, u, rfl, w.gh, hx, hz, ret_use w fun v G' H' w' s1 s2 p => k v G' H' w' s1 s2 p⟩
end
def TwoIv (ws : List Str) (d n j spot : Nat) (lk : Bool) : Prop := spot ≤ ws.length ∧ ((j = 0 ∧ spot = n + 5 ∧ lk = false) ∨ (j = 1 ∧ ∃ p, brR (rdP ws d) ws (n + 5) true = .inr (p, spot) ∧ lk = p.isNo) ∨ (j = 2 ∧ ∃ t, rdP ws (d + 1) n = .inr (t, spot)))
theorem two_step {ws : List Str} {d n j spot : Nat} {lk : Bool} (nd : ¬ ws[n]? = some zDone) (fb : firstBad ws n = none) (hj : j < 2) (h : TwoIv ws d n j spot lk) :
    (∀ t e, brR (rdP ws d) ws spot (!lk) = .inr (t, e) → ∀ lk', (j = 0 → lk' = t.isNo) → TwoIv ws d n (j + 1) e lk') ∧ ∀ k, brR (rdP ws d) ws spot (!lk) = .inl k → rdP ws (d + 1) n = .inl k := by
  have eR : rdP ws (d + 1) n = match brR (rdP ws d) ws (n + 5) true with
      | .inl k => .inl k
      | .inr (p, m) => match brR (rdP ws d) ws m (!p.isNo) with
        | .inl k => .inl k
        | .inr (f, e) => .inr (.ask (ckAt ws n) p f, e) := by
    conv => lhs; unfold rdP
    rw [if_neg nd, fb] <;> rfl
  obtain ⟨hs, ⟨rfl, rfl, rfl⟩ | ⟨rfl, p, hp, rfl⟩ | ⟨rfl, _⟩⟩ := h
  · refine ⟨fun t e h1 lk' h2 => ⟨(brR_ok _ (rdP_ok ws d) h1).1.2.1, .inr (.inl ⟨rfl, t, h1, h2 rfl⟩)⟩, fun k h1 => ?_⟩
    rw [eR, show brR (rdP ws d) ws (n + 5) true = .inl k from h1]
  · refine ⟨fun t e h1 lk' h2 => ⟨(brR_ok _ (rdP_ok ws d) h1).1.2.1, .inr (.inr ⟨rfl, .ask (ckAt ws n) p t, ?_⟩)⟩, fun k h1 => ?_⟩
    · rw [eR, hp]
      simp only
      rw [h1]
    · rw [eR, hp]
      simp only
      rw [h1]
  · omega
end Q
namespace Q
open PySem PySem.Spec PyProof.Rows L2
structure DfK (P : Program) (w : World) (K : PySem.W.Frag) (mg : Str → Option Value) (base : Heap) (CX : CXT) (k : Nat) (x : Str) (ks : List Str) (gV : List V → List V → List V) (sp : Sp) : Prop where
  ex : ∃ (f : Addr) (fd : FuncData) (ps : List Str) (g : List Value → List Value → List Value), mg x = some (.ref f) ∧ PySem.W.keepIn K (.ref f) = true ∧ KBn K fd ps 0 ks g gV ∧ FnOk P w K mg base CX k f fd ps sp
def tCallKw (n : Nat) (sp : Sp) (gV : List V → List V → List V) (E : XK) (tk : TA) : TE := fun σ H Q => tk σ H fun zs H2 => zs.length = n ∧ sp (gV [] zs) H2 Q E
section
variable {X : Cx} {CX : CXT} {k j : Nat} {ks : List Str} {gV : List V → List V → List V} {sp : Sp} {E : XK} {x : Str} {p pos : Pos} {kws : List Keyword} {tk : TA}
theorem pe_callKw (D : DfK X.prog X.w X.K X.mg X.base CX k x ks gV sp) (hr : Room j X.A) (hx : Passes CX X E) (hkw : PK X kws tk) (hj : k ≤ j := by decide) (hg : Gl X x := by rfl)
    (hall : (backToKw pos (keywordEach kws X.env)).all (·.1.isSome) = true := by rfl) (hks : (backToKw pos (keywordEach kws X.env)).filterMap (·.1) = ks := by rfl) (hdb : (x == ("__debug__" : Str)) = false := by decide)
    (hpl : ((backTo pos (starEach [] X.env)).any (·.1) || (backToKw pos (keywordEach kws X.env)).any (·.1.isNone)) = false := by rfl) : PE X (.Call (.Name x p) [] kws pos) (tCallKw ks.length sp gV E tk) := by
  obtain ⟨f, fd, ps, g, h1, h2, h3, F⟩ := D.ex
  refine ⟨fun pins s σ H Q I h => ?_⟩
  refine wpAny_Call_Name_kw (ld_glob I hg h1 ?_ hdb)
  refine PySem.W.callWith_KW0 (h₀ := X.base) I.ok.mod.kin h2 hall ?_ hpl
  refine thn (hkw.run pos pins s σ H _ I h) fun ws s2 told => ?_
  obtain ⟨zs, H2, I2, rz, l2, q2⟩ := told
  refine ⟨I2.kIn, ?_⟩
  rw [hks]
  refine wpAny_call (codeAny_mono (F.run X.A X.stack s2 H2 ⟨[], ks.zip ws⟩ (g [] ws) (gV [] zs) Q E (hr.mono hj) I2.env0 (h3.to s2 [] ws I2.kIn rfl (rz.length.symm.trans l2)) (h3.rel .nil rz) q2) fun r s' hq => ?_)
  match r, hq with
  | .error e, hq => exact hx pins σ H2 s2 e s' I2 hq
  | .ok (.ret u), hq => exact I2.after hq
  | .ok .next, hq => exact hq.elim
  | .ok .brk, hq => exact hq.elim
  | .ok .cont, hq => exact hq.elim
end
theorem r_tCallKw {n : Nat} {sp : Sp} {gV : List V → List V → List V} {E : XK} {tk : TA} {σ : L2.St} {H : Hp} {Qv : VK} (q : tk σ H fun zs H2 => zs.length = n ∧ sp (gV [] zs) H2 Qv E) : tCallKw n sp gV E tk σ H Qv := q
theorem r_insB {e : En} {G H : Hp} {M : List Addr} {l : Addr} {xs : List V} {i : Int} {y : V} {Qv : VK} (w : Wd e G H M) (hm : l ∈ M) (h : H l = some (.lst xs)) (hl : xs.length ≤ 100000) (h0 : 0 ≤ i) (h1 : i ≤ 100000)
    (q : ∀ H', Wd e G H' M → H' l = some (.lst (xs.take i.toNat ++ [y] ++ xs.drop i.toNat)) → But l H H' → Qv .non H') : rInsert (.ref l) [.int i, y] H Qv :=
  ⟨l, xs, i, y, rfl, rfl, h, Nat.lt_of_le_of_lt hl (by decide), h0, by omega, q _ (wd_mut w hm) upd_same but_upd⟩
theorem Tr.right_map {g : Nat → Ck} (h : ∀ k, RightC (g k)) : ∀ t : Tr Nat, (t.map g).right
  | .no => trivial
  | .done => trivial
  | .ask k p f => ⟨h k, Tr.right_map h p, Tr.right_map h f⟩
theorem right_ckOf {a b c : Ck} (h1 : RightC a) (h2 : RightC b) (h3 : RightC c) : ∀ k, RightC (ckOf a b c k)
  | 0 => h1
  | 1 => h2
  | _ + 2 => h3
theorem words_few {z : Str} (hz : z.length ≤ 100000) : (wordsOf z).length ≤ 100001 := by
  obtain ⟨p0, r0, es⟩ := split_cons z zNl
  have ew : wordsOf z = Txt.split p0 zBlank := by unfold wordsOf; rw [es]; rfl
  have lp0 := split_part (x := z) (y := zNl) (by decide +kernel) (show p0 ∈ Txt.split z zNl by rw [es]; exact List.mem_cons_self)
  have lnw := split_len (x := p0) (y := zBlank) (by decide +kernel)
  rw [ew]
  omega
theorem dueP_some {z : Str} {l k : Int} (h : pgR z = .inl (l, k)) : dueP z = some (l, k) := by unfold dueP; rw [h]
theorem dueP_none {z : Str} {t : Tr Ck} (h : pgR z = .inr t) : dueP z = none := by unfold dueP; rw [h]
theorem dueP_back {z : Str} {l k : Int} (h : dueP z = some (l, k)) : pgR z = .inl (l, k) := by
  unfold dueP at h
  cases hr : pgR z with
  | inl q => rw [hr] at h; cases h; rfl
  | inr t => rw [hr] at h; cases h
end Q
namespace Q
open PySem PySem.Spec PyProof.Rows L2
def top (i : Nat) : Stmt := PySem.Challenge.pw_soundtill_k81_plans_read.main.body.getD i (.Pass ⟨0, 0, 0, 0⟩)
abbrev sDraw : Stmt := top 69
abbrev sPen : Stmt := top 68
abbrev sPick : Stmt := top 70
abbrev sIsInt : Stmt := top 16
abbrev sMoment : Stmt := top 17
abbrev sIsName : Stmt := top 18
abbrev sErrX : Stmt := inClass (top 8) 0
abbrev sMomIn : Stmt := top 19
abbrev sCan : Stmt := top 27
abbrev sNeed : Stmt := top 28
abbrev sNeedE : Stmt := top 29
abbrev sLines : Stmt := top 30
abbrev sOneL : Stmt := top 31
abbrev sEnA : Stmt := top 32
abbrev sEnInit : Stmt := inClass (top 61) 0
abbrev sEnEq : Stmt := inClass (top 61) 6
abbrev sEnStr : Stmt := inClass (top 61) 7
abbrev sPlAt : Stmt := top 34
abbrev sBrAt : Stmt := top 35
abbrev sPlTree : Stmt := top 36
abbrev sPlInit : Stmt := inClass (top 63) 0
abbrev sPlDone : Stmt := inClass (top 63) 1
abbrev sPlAsk : Stmt := inClass (top 63) 2
abbrev sPlP : Stmt := inClass (top 63) 4
abbrev sPlF : Stmt := inClass (top 63) 5
abbrev sPlEq : Stmt := inClass (top 63) 9
abbrev sPlStr : Stmt := inClass (top 63) 10
abbrev sPlOf : Stmt := top 64
abbrev sPlRead : Stmt := inClass (top 63) 3
abbrev sPlText : Stmt := top 66
abbrev sLTree : Stmt := top 71
abbrev sPlanned : Stmt := top 72
abbrev sNameL : Stmt := top 73
abbrev sMomL : Stmt := top 74
abbrev sFitsL : Stmt := top 75
abbrev sRdL : Stmt := top 76
abbrev sDuePl : Stmt := top 77
abbrev sHeardP : Stmt := top 79
abbrev sBentP : Stmt := top 78
abbrev sLaw : Stmt := top 80
def fnL : List He5.DefA := [⟨fun K => He.ga K "law", "law", "law", defArgs sLaw, defBody sLaw, defScope sLaw, [], []⟩,
  ⟨fun K => He.ga K "is_integer", "is_integer", "is_integer", defArgs sIsInt, defBody sIsInt, defScope sIsInt, [], []⟩,
  ⟨fun K => He.ga K "is_moment", "is_moment", "is_moment", defArgs sMoment, defBody sMoment, defScope sMoment, [.int 0], []⟩,
  ⟨fun K => He.ga K "is_name", "is_name", "is_name", defArgs sIsName, defBody sIsName, defScope sIsName, [], []⟩,
  ⟨fun K => He.ma K (He.ga K "BadText") "__init__", "__init__", "BadText.__init__", defArgs sErrX, defBody sErrX, defScope sErrX, [], []⟩,
  ⟨fun K => He.ga K "moment_in", "moment_in", "moment_in", defArgs sMomIn, defBody sMomIn, defScope sMomIn, [], []⟩,
  ⟨fun K => He.ga K "can_stand", "can_stand", "can_stand", defArgs sCan, defBody sCan, defScope sCan, [], []⟩,
  ⟨fun K => He.ga K "need_forms", "need_forms", "need_forms", defArgs sNeed, defBody sNeed, defScope sNeed, [], []⟩,
  ⟨fun K => He.ga K "need_end", "need_end", "need_end", defArgs sNeedE, defBody sNeedE, defScope sNeedE, [], []⟩,
  ⟨fun K => He.ga K "lines_of", "lines_of", "lines_of", defArgs sLines, defBody sLines, defScope sLines, [], []⟩,
  ⟨fun K => He.ga K "need_one_line", "need_one_line", "need_one_line", defArgs sOneL, defBody sOneL, defScope sOneL, [], []⟩,
  ⟨fun K => He.ga K "entry_at", "entry_at", "entry_at", defArgs sEnA, defBody sEnA, defScope sEnA, [], []⟩,
  ⟨fun K => He.ga K "plan_at", "plan_at", "plan_at", defArgs sPlAt, defBody sPlAt, defScope sPlAt, [], []⟩,
  ⟨fun K => He.ga K "branch_at", "branch_at", "branch_at", defArgs sBrAt, defBody sBrAt, defScope sBrAt, [], []⟩,
  ⟨fun K => He.ga K "plan_tree", "plan_tree", "plan_tree", defArgs sPlTree, defBody sPlTree, defScope sPlTree, [], []⟩,
  ⟨fun K => He.ma K (He.ga K "Entry") "__init__", "__init__", "Entry.__init__", defArgs sEnInit, defBody sEnInit, defScope sEnInit, [], []⟩,
  ⟨fun K => He.ma K (He.ga K "Entry") "__eq__", "__eq__", "Entry.__eq__", defArgs sEnEq, defBody sEnEq, defScope sEnEq, [], []⟩,
  ⟨fun K => He.ma K (He.ga K "Entry") "__str__", "__str__", "Entry.__str__", defArgs sEnStr, defBody sEnStr, defScope sEnStr, [], []⟩,
  ⟨fun K => He.ma K (He.ga K "Plan") "__init__", "__init__", "Plan.__init__", defArgs sPlInit, defBody sPlInit, defScope sPlInit, [], []⟩,
  ⟨fun K => He5.wf K (He.ga K "Plan") "staticmethod" "done", "done", "Plan.done", defArgs sPlDone, defBody sPlDone, defScope sPlDone, [], []⟩,
  ⟨fun K => He5.wf K (He.ga K "Plan") "staticmethod" "ask", "ask", "Plan.ask", defArgs sPlAsk, defBody sPlAsk, defScope sPlAsk, [], []⟩,
  ⟨fun K => getterOf K (He.ma K (He.ga K "Plan") "passed"), "passed", "Plan.passed", defArgs sPlP, defBody sPlP, defScope sPlP, [], []⟩,
  ⟨fun K => getterOf K (He.ma K (He.ga K "Plan") "failed"), "failed", "Plan.failed", defArgs sPlF, defBody sPlF, defScope sPlF, [], []⟩,
  ⟨fun K => He.ma K (He.ga K "Plan") "__eq__", "__eq__", "Plan.__eq__", defArgs sPlEq, defBody sPlEq, defScope sPlEq, [], []⟩,
  ⟨fun K => He.ma K (He.ga K "Plan") "__str__", "__str__", "Plan.__str__", defArgs sPlStr, defBody sPlStr, defScope sPlStr, [], []⟩,
  ⟨fun K => He.ga K "plan_of", "plan_of", "plan_of", defArgs sPlOf, defBody sPlOf, defScope sPlOf, [], []⟩,
  ⟨fun K => He5.wf K (He.ga K "Plan") "classmethod" "read", "read", "Plan.read", defArgs sPlRead, defBody sPlRead, defScope sPlRead, [], []⟩,
  ⟨fun K => He.ga K "plan_text", "plan_text", "plan_text", defArgs sPlText, defBody sPlText, defScope sPlText, [], []⟩,
  ⟨fun K => He.ga K "_law_pen", "_law_pen", "_law_pen", defArgs sPen, defBody sPen, defScope sPen, [], []⟩,
  ⟨fun K => He.ga K "_law_draw", "_law_draw", "_law_draw", defArgs sDraw, defBody sDraw, defScope sDraw, [], []⟩,
  ⟨fun K => He.ga K "_law_pick", "_law_pick", "_law_pick", defArgs sPick, defBody sPick, defScope sPick, [], []⟩,
  ⟨fun K => He.ga K "_law_tree", "_law_tree", "_law_tree", defArgs sLTree, defBody sLTree, defScope sLTree, [], []⟩,
  ⟨fun K => He.ga K "_law_planned", "_law_planned", "_law_planned", defArgs sPlanned, defBody sPlanned, defScope sPlanned, [], []⟩,
  ⟨fun K => He.ga K "_law_is_name", "_law_is_name", "_law_is_name", defArgs sNameL, defBody sNameL, defScope sNameL, [], []⟩,
  ⟨fun K => He.ga K "_law_is_moment", "_law_is_moment", "_law_is_moment", defArgs sMomL, defBody sMomL, defScope sMomL, [], []⟩,
  ⟨fun K => He.ga K "_law_fits", "_law_fits", "_law_fits", defArgs sFitsL, defBody sFitsL, defScope sFitsL, [], []⟩,
  ⟨fun K => He.ga K "_law_read", "_law_read", "_law_read", defArgs sRdL, defBody sRdL, defScope sRdL, [], []⟩,
  ⟨fun K => He.ga K "_law_due", "_law_due", "_law_due", defArgs sDuePl, defBody sDuePl, defScope sDuePl, [], []⟩,
  ⟨fun K => He.ga K "_law_bent", "_law_bent", "_law_bent", defArgs sBentP, defBody sBentP, defScope sBentP, [], []⟩,
  ⟨fun K => He.ga K "_law_heard", "_law_heard", "_law_heard", defArgs sHeardP, defBody sHeardP, defScope sHeardP, [], []⟩]
def faL : List He.Fa := [.free "int", .free "len", .free "abs", .free "list", .free "range", .free "repr", .free "str", .free "isinstance", .free "all", .free "any", .free "bool", .free "tuple", .free "sorted", .free "set", .free "dict", .free "enumerate", .free "zip", .free "min", .free "max", .free "ValueError", .glo "law", .glo "is_integer", .glo "is_moment", .glo "is_name", .glo "RESERVED", .str "LETTERS" zLetters, .str "FIGURES" zFigures, .int "MOST_SIGNS" 8, .int "MOST_MOMENT" 1000000000000000000000000000000, .int "MOST_FIGURES" 31, .int "MOST_CHECKS" 4, .glo "ENTRY_FORMS", .meth "BadText" "__init__", .glo "BadText", .glo "moment_in", .glo "can_stand", .glo "need_forms", .glo "need_end", .glo "lines_of", .glo "need_one_line", .glo "entry_at", .glo "plan_at", .glo "branch_at", .glo "plan_tree", .glo "Entry", .cls "Entry", .mkr "Entry", .noat "Entry" "tool", .noat "Entry" "moment", .noat "Entry" "by", .noat "Entry" "face", .meth "Entry" "__init__", .meth "Entry" "__eq__", .meth "Entry" "__str__", .glo "Plan", .cls "Plan", .mkr "Plan", .noat "Plan" "entry", .noat "Plan" "own_passed", .noat "Plan" "own_failed", .noat "Plan" "below", .noat "Plan" "each", .meth "Plan" "__init__", .meth "Plan" "__eq__", .meth "Plan" "__str__", .glo "plan_of", .glo "TillError", .glo "plan_text", .glo "_law_pen", .glo "_law_draw", .glo "_law_pick", .glo "_law_tree", .glo "_law_planned", .glo "_law_is_name", .glo "_law_is_moment", .glo "_law_fits", .glo "_law_read", .glo "_law_due", .glo "_law_bent", .glo "_law_heard"]
def exL (K : PySem.W.Frag) : Bool := He.tupB K "RESERVED" [.str "begun", .str "setby", .str "found", .str "trusted", .str "passed", .str "failed", .str "agreed", .str "differed", .str "served", .str "backed", .str "sound", .str "unsound", .str "sure", .str "never", .str "open", .str "none", .str "record", .str "lot", .str "menu", .str "wanted"] &&
  (He.tupB K "ENTRY_FORMS" [.str "check", .str "TOOL", .str "MOMENT", .str "by", .str "TOOL"] &&
  (oexB K (He.ga K "BadText") &&
  (hdB K (He.ga K "BadText") "line" &&
  (hdB K (He.ga K "BadText") "word" &&
  (He.eqO (PySem.W.findIn K (.ref (He.ga K "Entry")) "__class__") (some (some (.builtin "object.__class__"))) &&
  (He.eqO (PySem.W.findIn K (.ref (He.ga K "Entry")) "__ne__") (some (some (.builtin "object.__ne__"))) &&
  (eqS K (He.ga K "Entry") &&
  (He.eqO (PySem.W.findIn K (.ref (He.ga K "Plan")) "__class__") (some (some (.builtin "object.__class__"))) &&
  (He.eqO (PySem.W.findIn K (.ref (He.ga K "Plan")) "__ne__") (some (some (.builtin "object.__ne__"))) &&
  (eqS K (He.ga K "Plan") &&
  (decide (PySem.W.kitOne K (.ref (He.ga K "Plan")) (.type "int") = some false ∧ PySem.W.kitOne K (.ref (He.ga K "Plan")) (.type "bool") = some false ∧ PySem.W.kitOne K (.ref (He.ga K "Plan")) (.type "str") = some false) &&
  (readB K (He.ga K "Plan") &&
  (statB K (He.ga K "Plan") "done" &&
  (statB K (He.ga K "Plan") "ask" &&
  (propB K (He.ga K "Plan") "passed" &&
  (propB K (He.ga K "Plan") "failed" &&
  (He5.wrapB K (He.ga K "Plan") "classmethod" "classmethod.__get__" "read" &&
  (PySem.W.fnIn K (He5.wf K (He.ga K "Plan") "classmethod" "read") &&
  (decide (PySem.W.exmOne K (.ref (He.ga K "BadText")) (.ref (He.ga K "TillError")) = some true ∧ PySem.W.kitOne K (.ref (He.ga K "BadText")) (.ref (He.ga K "BadText")) = some true))))))))))))))))))))
abbrev tfL : List (PySem.W.Frag → Addr) := [fun K => He.ga K "law"]
abbrev RL : PySem.W.OpenRow := PySem.W.OpenLaw.row PySem.Challenge.rw_soundtill_k81_plans_read
abbrev nsL : List Str := (("BadText" : PySem.Str) :: ("ENTRY_FORMS" : PySem.Str) :: ("Entry" : PySem.Str) :: ("Plan" : PySem.Str) :: ("RESERVED" : PySem.Str) :: ("TillError" : PySem.Str) :: ("_law_bent" : PySem.Str) :: ("_law_draw" : PySem.Str) :: ("_law_due" : PySem.Str) :: ("_law_fits" : PySem.Str) :: ("_law_heard" : PySem.Str) :: ("_law_is_moment" : PySem.Str) :: ("_law_is_name" : PySem.Str) :: ("_law_pen" : PySem.Str) :: ("_law_pick" : PySem.Str) :: ("_law_planned" : PySem.Str) :: ("_law_read" : PySem.Str) :: ("_law_tree" : PySem.Str) :: ("branch_at" : PySem.Str) :: ("can_stand" : PySem.Str) :: ("entry_at" : PySem.Str) :: ("is_integer" : PySem.Str) :: ("is_moment" : PySem.Str) :: ("is_name" : PySem.Str) :: ("law" : PySem.Str) :: ("lines_of" : PySem.Str) :: ("moment_in" : PySem.Str) :: ("need_end" : PySem.Str) :: ("need_forms" : PySem.Str) :: ("need_one_line" : PySem.Str) :: ("plan_at" : PySem.Str) :: ("plan_of" : PySem.Str) :: ("plan_text" : PySem.Str) :: ("plan_tree" : PySem.Str) :: [])
abbrev tsL : List He.Tab := []
abbrev hkL : PySem.W.Hook := hookV nsL 6 faL fnL tfL exL tsL
def obL (s : PySem.W.SharedT) : AlD2 := obsV nsL 6 faL fnL tfL exL tsL (HandSHeadRun.getT s)
theorem obL_eq (s : PySem.W.SharedT) : obL s = hkL.obs s.abs := obsV_eq (HandSHeadRun.getT_eq s)
theorem runA (w : World) : HandSHeadRun.RunEq RL (PySem.W.view RL.prog [80]) hkL obL 12000 (("_wall" : PySem.Str) :: ("__name__" : PySem.Str) :: ("TillError" : PySem.Str) :: ("BadName" : PySem.Str) :: ("BadMoment" : PySem.Str) :: ("BadSaying" : PySem.Str) :: ("NoTool" : PySem.Str) :: ("BadEntry" : PySem.Str) :: ("BadText" : PySem.Str) :: ("RESERVED" : PySem.Str) :: ("LETTERS" : PySem.Str) :: ("FIGURES" : PySem.Str) :: ("MOST_SIGNS" : PySem.Str) :: ("MOST_FIGURES" : PySem.Str) :: ("MOST_MOMENT" : PySem.Str) :: ("is_integer" : PySem.Str) :: ("is_moment" : PySem.Str) :: ("is_name" : PySem.Str) :: ("moment_in" : PySem.Str) :: ("TRUTHS" : PySem.Str) :: ("MANY_WORDS" : PySem.Str) :: ("Saying" : PySem.Str) :: ("ENTRY_FORMS" : PySem.Str) :: ("MOST_CHECKS" : PySem.Str) :: ("can_stand" : PySem.Str) :: ("need_forms" : PySem.Str) :: ("need_end" : PySem.Str) :: ("lines_of" : PySem.Str) :: ("need_one_line" : PySem.Str) :: ("entry_at" : PySem.Str) :: ("entry_parts" : PySem.Str) :: ("plan_at" : PySem.Str) :: ("branch_at" : PySem.Str) :: ("plan_tree" : PySem.Str) :: ("FORMS" : PySem.Str) :: ("BEGINNINGS" : PySem.Str) :: ("need_name" : PySem.Str) :: ("need_moment" : PySem.Str) :: ("Row" : PySem.Str) :: ("Beginning" : PySem.Str) :: ("Check" : PySem.Str) :: ("Meeting" : PySem.Str) :: ("Begun" : PySem.Str) :: ("SetBy" : PySem.Str) :: ("Found" : PySem.Str) :: ("Trusted" : PySem.Str) :: ("Passed" : PySem.Str) :: ("Failed" : PySem.Str) :: ("Agreed" : PySem.Str) :: ("Differed" : PySem.Str) :: ("Served" : PySem.Str) :: ("Backed" : PySem.Str) :: ("made_meeting" : PySem.Str) :: ("made_row" : PySem.Str) :: ("fits" : PySem.Str) :: ("row_in" : PySem.Str) :: ("Entry" : PySem.Str) :: ("Plan" : PySem.Str) :: ("plan_of" : PySem.Str) :: ("plan_text" : PySem.Str) :: ("_law_pen" : PySem.Str) :: ("_law_draw" : PySem.Str) :: ("_law_pick" : PySem.Str) :: ("_law_tree" : PySem.Str) :: ("_law_planned" : PySem.Str) :: ("_law_is_name" : PySem.Str) :: ("_law_is_moment" : PySem.Str) :: ("_law_fits" : PySem.Str) :: ("_law_read" : PySem.Str) :: ("_law_due" : PySem.Str) :: ("_law_bent" : PySem.Str) :: ("_law_heard" : PySem.Str) :: []) (w.withFollow "special-get-raises" false) := by
  intro os
  kernel_rfl
theorem runB (w : World) : HandSHeadRun.RunEq RL (PySem.W.view RL.prog [80]) hkL obL 12000 (("_wall" : PySem.Str) :: ("__name__" : PySem.Str) :: ("TillError" : PySem.Str) :: ("BadName" : PySem.Str) :: ("BadMoment" : PySem.Str) :: ("BadSaying" : PySem.Str) :: ("NoTool" : PySem.Str) :: ("BadEntry" : PySem.Str) :: ("BadText" : PySem.Str) :: ("RESERVED" : PySem.Str) :: ("LETTERS" : PySem.Str) :: ("FIGURES" : PySem.Str) :: ("MOST_SIGNS" : PySem.Str) :: ("MOST_FIGURES" : PySem.Str) :: ("MOST_MOMENT" : PySem.Str) :: ("is_integer" : PySem.Str) :: ("is_moment" : PySem.Str) :: ("is_name" : PySem.Str) :: ("moment_in" : PySem.Str) :: ("TRUTHS" : PySem.Str) :: ("MANY_WORDS" : PySem.Str) :: ("Saying" : PySem.Str) :: ("ENTRY_FORMS" : PySem.Str) :: ("MOST_CHECKS" : PySem.Str) :: ("can_stand" : PySem.Str) :: ("need_forms" : PySem.Str) :: ("need_end" : PySem.Str) :: ("lines_of" : PySem.Str) :: ("need_one_line" : PySem.Str) :: ("entry_at" : PySem.Str) :: ("entry_parts" : PySem.Str) :: ("plan_at" : PySem.Str) :: ("branch_at" : PySem.Str) :: ("plan_tree" : PySem.Str) :: ("FORMS" : PySem.Str) :: ("BEGINNINGS" : PySem.Str) :: ("need_name" : PySem.Str) :: ("need_moment" : PySem.Str) :: ("Row" : PySem.Str) :: ("Beginning" : PySem.Str) :: ("Check" : PySem.Str) :: ("Meeting" : PySem.Str) :: ("Begun" : PySem.Str) :: ("SetBy" : PySem.Str) :: ("Found" : PySem.Str) :: ("Trusted" : PySem.Str) :: ("Passed" : PySem.Str) :: ("Failed" : PySem.Str) :: ("Agreed" : PySem.Str) :: ("Differed" : PySem.Str) :: ("Served" : PySem.Str) :: ("Backed" : PySem.Str) :: ("made_meeting" : PySem.Str) :: ("made_row" : PySem.Str) :: ("fits" : PySem.Str) :: ("row_in" : PySem.Str) :: ("Entry" : PySem.Str) :: ("Plan" : PySem.Str) :: ("plan_of" : PySem.Str) :: ("plan_text" : PySem.Str) :: ("_law_pen" : PySem.Str) :: ("_law_draw" : PySem.Str) :: ("_law_pick" : PySem.Str) :: ("_law_tree" : PySem.Str) :: ("_law_planned" : PySem.Str) :: ("_law_is_name" : PySem.Str) :: ("_law_is_moment" : PySem.Str) :: ("_law_fits" : PySem.Str) :: ("_law_read" : PySem.Str) :: ("_law_due" : PySem.Str) :: ("_law_bent" : PySem.Str) :: ("_law_heard" : PySem.Str) :: []) (w.withFollow "special-get-raises" true) := by
  intro os
  kernel_rfl
theorem runL (w : World) : HandSHeadRun.RunEq RL (PySem.W.view RL.prog [80]) hkL obL 12000 (("_wall" : PySem.Str) :: ("__name__" : PySem.Str) :: ("TillError" : PySem.Str) :: ("BadName" : PySem.Str) :: ("BadMoment" : PySem.Str) :: ("BadSaying" : PySem.Str) :: ("NoTool" : PySem.Str) :: ("BadEntry" : PySem.Str) :: ("BadText" : PySem.Str) :: ("RESERVED" : PySem.Str) :: ("LETTERS" : PySem.Str) :: ("FIGURES" : PySem.Str) :: ("MOST_SIGNS" : PySem.Str) :: ("MOST_FIGURES" : PySem.Str) :: ("MOST_MOMENT" : PySem.Str) :: ("is_integer" : PySem.Str) :: ("is_moment" : PySem.Str) :: ("is_name" : PySem.Str) :: ("moment_in" : PySem.Str) :: ("TRUTHS" : PySem.Str) :: ("MANY_WORDS" : PySem.Str) :: ("Saying" : PySem.Str) :: ("ENTRY_FORMS" : PySem.Str) :: ("MOST_CHECKS" : PySem.Str) :: ("can_stand" : PySem.Str) :: ("need_forms" : PySem.Str) :: ("need_end" : PySem.Str) :: ("lines_of" : PySem.Str) :: ("need_one_line" : PySem.Str) :: ("entry_at" : PySem.Str) :: ("entry_parts" : PySem.Str) :: ("plan_at" : PySem.Str) :: ("branch_at" : PySem.Str) :: ("plan_tree" : PySem.Str) :: ("FORMS" : PySem.Str) :: ("BEGINNINGS" : PySem.Str) :: ("need_name" : PySem.Str) :: ("need_moment" : PySem.Str) :: ("Row" : PySem.Str) :: ("Beginning" : PySem.Str) :: ("Check" : PySem.Str) :: ("Meeting" : PySem.Str) :: ("Begun" : PySem.Str) :: ("SetBy" : PySem.Str) :: ("Found" : PySem.Str) :: ("Trusted" : PySem.Str) :: ("Passed" : PySem.Str) :: ("Failed" : PySem.Str) :: ("Agreed" : PySem.Str) :: ("Differed" : PySem.Str) :: ("Served" : PySem.Str) :: ("Backed" : PySem.Str) :: ("made_meeting" : PySem.Str) :: ("made_row" : PySem.Str) :: ("fits" : PySem.Str) :: ("row_in" : PySem.Str) :: ("Entry" : PySem.Str) :: ("Plan" : PySem.Str) :: ("plan_of" : PySem.Str) :: ("plan_text" : PySem.Str) :: ("_law_pen" : PySem.Str) :: ("_law_draw" : PySem.Str) :: ("_law_pick" : PySem.Str) :: ("_law_tree" : PySem.Str) :: ("_law_planned" : PySem.Str) :: ("_law_is_name" : PySem.Str) :: ("_law_is_moment" : PySem.Str) :: ("_law_fits" : PySem.Str) :: ("_law_read" : PySem.Str) :: ("_law_due" : PySem.Str) :: ("_law_bent" : PySem.Str) :: ("_law_heard" : PySem.Str) :: []) w :=
  PySem.W.byRow2 "special-get-raises" (P := fun w => HandSHeadRun.RunEq RL (PySem.W.view RL.prog [80]) hkL obL 12000 (("_wall" : PySem.Str) :: ("__name__" : PySem.Str) :: ("TillError" : PySem.Str) :: ("BadName" : PySem.Str) :: ("BadMoment" : PySem.Str) :: ("BadSaying" : PySem.Str) :: ("NoTool" : PySem.Str) :: ("BadEntry" : PySem.Str) :: ("BadText" : PySem.Str) :: ("RESERVED" : PySem.Str) :: ("LETTERS" : PySem.Str) :: ("FIGURES" : PySem.Str) :: ("MOST_SIGNS" : PySem.Str) :: ("MOST_FIGURES" : PySem.Str) :: ("MOST_MOMENT" : PySem.Str) :: ("is_integer" : PySem.Str) :: ("is_moment" : PySem.Str) :: ("is_name" : PySem.Str) :: ("moment_in" : PySem.Str) :: ("TRUTHS" : PySem.Str) :: ("MANY_WORDS" : PySem.Str) :: ("Saying" : PySem.Str) :: ("ENTRY_FORMS" : PySem.Str) :: ("MOST_CHECKS" : PySem.Str) :: ("can_stand" : PySem.Str) :: ("need_forms" : PySem.Str) :: ("need_end" : PySem.Str) :: ("lines_of" : PySem.Str) :: ("need_one_line" : PySem.Str) :: ("entry_at" : PySem.Str) :: ("entry_parts" : PySem.Str) :: ("plan_at" : PySem.Str) :: ("branch_at" : PySem.Str) :: ("plan_tree" : PySem.Str) :: ("FORMS" : PySem.Str) :: ("BEGINNINGS" : PySem.Str) :: ("need_name" : PySem.Str) :: ("need_moment" : PySem.Str) :: ("Row" : PySem.Str) :: ("Beginning" : PySem.Str) :: ("Check" : PySem.Str) :: ("Meeting" : PySem.Str) :: ("Begun" : PySem.Str) :: ("SetBy" : PySem.Str) :: ("Found" : PySem.Str) :: ("Trusted" : PySem.Str) :: ("Passed" : PySem.Str) :: ("Failed" : PySem.Str) :: ("Agreed" : PySem.Str) :: ("Differed" : PySem.Str) :: ("Served" : PySem.Str) :: ("Backed" : PySem.Str) :: ("made_meeting" : PySem.Str) :: ("made_row" : PySem.Str) :: ("fits" : PySem.Str) :: ("row_in" : PySem.Str) :: ("Entry" : PySem.Str) :: ("Plan" : PySem.Str) :: ("plan_of" : PySem.Str) :: ("plan_text" : PySem.Str) :: ("_law_pen" : PySem.Str) :: ("_law_draw" : PySem.Str) :: ("_law_pick" : PySem.Str) :: ("_law_tree" : PySem.Str) :: ("_law_planned" : PySem.Str) :: ("_law_is_name" : PySem.Str) :: ("_law_is_moment" : PySem.Str) :: ("_law_fits" : PySem.Str) :: ("_law_read" : PySem.Str) :: ("_law_due" : PySem.Str) :: ("_law_bent" : PySem.Str) :: ("_law_heard" : PySem.Str) :: []) w) runA runB w
end Q
open PySem PySem.Spec PyProof.Rows L2 Q
local macro_rules | `(tactic| walk_at "ne") => `(tactic| first
  | assumption
  | (refine' Ne.symm ?h; (case h => assumption))
  | (refine' (by assumption : ∀ m ∈ _, _ ≠ m) _ ?h; (case h => simp))
  | (refine' Ne.symm ((by assumption : ∀ m ∈ _, _ ≠ m) _ ?h); (case h => simp)))
local macro_rules | `(tactic| walk_at "atg") => `(tactic| first
  | assumption
  | (refine' same_at ?s ?h; (case s => assumption); (case h => walk_at "atg")))
local macro_rules | `(tactic| walk_at "at") => `(tactic| first
  | assumption
  | exact upd_same
  | (refine' wd_at ?w ?h; (case w => assumption); (case h => walk_at "atg"))
  | (refine' same_at ?s ?h; (case s => assumption); (case h => walk_at "at"))
  | (refine' but_at ?b ?n ?h; (case b => assumption); (case h => walk_at "at"); (case n => walk_at "ne")))
local macro_rules | `(tactic| walk_at "sqg") => `(tactic| first
  | assumption
  | (refine' SqL.of ?h; (case h => walk_at "atg"))
  | (refine' SqT.of ?h; (case h => walk_at "atg"))
  | (refine' same_sqL ?s ?h; (case s => assumption); (case h => walk_at "sqg"))
  | (refine' same_sqT ?s ?h; (case s => assumption); (case h => walk_at "sqg")))
local macro_rules | `(tactic| walk_at "sq") => `(tactic| first
  | assumption
  | (refine' SqL.of ?h; (case h => walk_at "at"))
  | (refine' SqT.of ?h; (case h => walk_at "at"))
  | (refine' wd_sqL ?w ?h; (case w => assumption); (case h => walk_at "sqg"))
  | (refine' wd_sqT ?w ?h; (case w => assumption); (case h => walk_at "sqg")))
local macro_rules | `(tactic| walk_at "dpaG") => `(tactic| first
  | exact DpAll.nil
  | (refine' DpAll.cons ?a ?b; (case a => walk_at "dpG"); (case b => walk_at "dpaG"))
  | exact dpa_ints _
  | assumption
  | (refine' same_dpa ?s ?h; (case s => assumption); (case h => assumption)))
local macro_rules | `(tactic| walk_at "dpG") => `(tactic| first
  | exact Dp.bl _ | exact Dp.int _ | exact Dp.str _ | exact Dp.non
  | assumption
  | (refine' Dp.lst ?h ?a; (case h => walk_at "sqg"); (case a => walk_at "dpaG"))
  | (refine' Dp.tup ?h ?a; (case h => walk_at "sqg"); (case a => walk_at "dpaG"))
  | (refine' same_dp ?s ?h; (case s => assumption); (case h => walk_at "dpG")))
local macro_rules | `(tactic| walk_at "dpa") => `(tactic| first
  | exact DpAll.nil
  | (refine' DpAll.cons ?a ?b; (case a => walk_at "dp"); (case b => walk_at "dpa"))
  | exact dpa_ints _
  | assumption)
local macro_rules | `(tactic| walk_at "dp") => `(tactic| first
  | exact Dp.bl _ | exact Dp.int _ | exact Dp.str _ | exact Dp.non
  | assumption
  | (refine' wd_dp ?w ?h; (case w => assumption); (case h => walk_at "dpG"))
  | (refine' Dp.lst ?h ?a; (case h => walk_at "sq"); (case a => walk_at "dpa"))
  | (refine' Dp.tup ?h ?a; (case h => walk_at "sq"); (case a => walk_at "dpa")))
local macro_rules | `(tactic| walk_at "pen") => `(tactic| first
  | assumption
  | (refine' PenAt.same ?P ?s; (case s => assumption); (case P => walk_at "pen"))
  | (refine' PenAt.but ?P ?b ?n; (case b => assumption); (case P => walk_at "pen"); (case n => walk_at "ne")))
local macro_rules | `(tactic| walk_at "cells") => `(tactic| first
  | assumption
  | (refine' Cells.same ?P ?s; (case s => assumption); (case P => walk_at "cells")))
local macro_rules | `(tactic| walk_at "cond") => `(tactic| first | omega | decide | with_reducible assumption | (simp; done))
local macro_rules | `(tactic| walk_at "size") => `(tactic| first | decide | (refine' sz_m ?h; (case h => first | omega | exact Nat.le_of_ble_eq_true rfl | (simp; done) | (simp; omega))))
local macro_rules | `(tactic| walk_at "js") => `(tactic| (refine' sz_m ?h; (case h => (simp only [Str.length_append]; first | omega | (simp; omega) | (simp [Str.length, Str.empty]; omega)))))
local macro_rules | `(tactic| walk_at "lsz") => `(tactic| first | assumption | (refine' Nat.lt_of_lt_of_le (m := 1000000) ?h ?g; (case g => decide); (case h => first | exact Nat.le_of_ble_eq_true rfl | omega | (simp; done) | (simp; omega))))
local macro_rules | `(tactic| walk_at "say") => `(tactic| first
  | assumption
  | (refine' SayAt.same ?h ?s; (case s => assumption); (case h => walk_at "say")))
local macro_rules | `(tactic| walk_at "qu") => `(tactic| fail "no user step")
local macro_rules | `(tactic| walk_at "q") => `(tactic| first
  | with_reducible refine' r_seq ?_ | with_reducible refine' r_asg ?_ | with_reducible refine' r_name ?_ | with_reducible refine' r_op ?_
  | ((with_reducible refine' r_var ?h ?_); (case h => exact rfl))
  | with_reducible refine' r_c ?_ | with_reducible refine' r_cb ?_ | with_reducible refine' r_cons ?_ | with_reducible refine' r_nil ?_
  | with_reducible refine' r_call0 ?_ | with_reducible refine' r_call ?_ | with_reducible refine' r_ret ?_ | with_reducible refine' r_next ?_ | with_reducible refine' r_drop ?_ | with_reducible refine' r_ifS ?_
  | with_reducible refine' r_test ?_ | with_reducible refine' r_tB ?_ | with_reducible refine' r_exb ?_ | with_reducible refine' r_and ?_ | with_reducible refine' r_or ?_ | with_reducible refine' r_not ?_
  | with_reducible refine' r_andV ?_ | with_reducible refine' r_orV ?_ | with_reducible refine' r_notV ?_ | with_reducible refine' r_ifE ?_ | with_reducible refine' r_chain ?_ | with_reducible refine' r_un ?_
  | with_reducible refine' r_tup ?_ | with_reducible refine' r_lst ?_ | with_reducible refine' r_lstM ?_ | with_reducible refine' r_gSub ?_ | with_reducible refine' r_sl ?_ | with_reducible refine' r_noPart ?_ | with_reducible refine' r_part ?_ | with_reducible refine' r_exi ?_
  | with_reducible refine' iteT ?_ | with_reducible refine' iteF ?_ | with_reducible refine' ite_nt ?_ | with_reducible refine' ite_nf ?_
  | with_reducible refine' r_addI ?_ | with_reducible refine' r_sub ?_ | with_reducible refine' r_lt ?_ | with_reducible refine' r_le ?_ | with_reducible refine' r_gt ?_ | with_reducible refine' r_ge ?_ | with_reducible refine' r_ltS ?_
  | with_reducible refine' r_isN ?_ | with_reducible refine' r_notN ?_
  | with_reducible refine' r_int ?_ | with_reducible refine' r_intB ?_ | with_reducible refine' r_abs ?_
  | ((with_reducible refine' r_addS ?h ?_); (case h => first | walk_at "size" | walk_at "cond"))
  | ((with_reducible refine' r_mul ?h ?_); (case h => first | (exact Or.inl ⟨by walk_at "cond", by walk_at "cond"⟩) | (exact Or.inr ⟨by walk_at "cond", by walk_at "cond"⟩)))
  | ((with_reducible refine' r_mod ?h ?_); (case h => walk_at "cond"))
  | ((with_reducible refine' r_fdiv ?h ?_); (case h => first | with_reducible assumption | exact cdiv_lit (by decide) (by decide) | (refine ‹∀ x : Int, CDivW x _› _)))
  | ((with_reducible refine' r_pow ?h ?_); (case h => exact ⟨by walk_at "cond", by walk_at "cond", by walk_at "cond"⟩))
  | ((with_reducible refine' r_ixL ?h ?e ?_); (case h => walk_at "sq"); (case e => first | exact rfl | assumption))
  | ((with_reducible refine' r_ixT ?h ?e ?_); (case h => walk_at "sq"); (case e => first | exact rfl | assumption))
  | ((with_reducible refine' r_setM ?w ?m ?h ?e ?_); (case w => assumption); (case m => simp; done); (case h => walk_at "at"); (case e => exact rfl); intro H' w' h' b')
  | ((with_reducible refine' r_lenL ?h ?_); (case h => walk_at "sq"))
  | ((with_reducible refine' r_lenT ?h ?_); (case h => walk_at "sq"))
  | ((with_reducible refine' r_lenS ?h ?_); (case h => walk_at "size"))
  | ((with_reducible refine' r_ixS ?h ?e ?_); (case h => walk_at "size"); (case e => first | assumption | exact rfl))
  | ((with_reducible refine' r_ixA ?h ?e ?_); (case h => assumption); (case e => first | assumption | exact rfl))
  | ((with_reducible refine' r_listL ?h ?_); (case h => walk_at "sq"))
  | ((with_reducible refine' r_listT ?h ?_); (case h => walk_at "sq"))
  | ((with_reducible refine' r_slS ?h ?_); (case h => walk_at "size"))
  | ((with_reducible refine' r_addL ?h1 ?h2 ?_); (case h1 => walk_at "at"); (case h2 => walk_at "at"))
  | ((with_reducible refine' r_slL ?h ?_); (case h => walk_at "sq"))
  | ((with_reducible refine' r_eq ?h ?_); (case h => exact rfl))
  | with_reducible refine' r_tFldX ?_ | ((with_reducible refine' r_tyL ?h ?_); (case h => walk_at "sq"))
  | ((with_reducible refine' r_eqS ?h ?_); (case h => exact rfl))
  | ((with_reducible refine' r_neS ?h ?_); (case h => exact rfl))
  | ((with_reducible refine' r_eqD ?h1 ?h2 ?s1 ?s2 ?_); (case h1 => walk_at "dp"); (case h2 => walk_at "dp"); (case s1 => walk_at "shp"); (case s2 => walk_at "shp"))
  | ((with_reducible refine' r_neD ?h1 ?h2 ?s1 ?s2 ?_); (case h1 => walk_at "dp"); (case h2 => walk_at "dp"); (case s1 => walk_at "shp"); (case s2 => walk_at "shp"))
  | ((with_reducible refine' r_repr ?h ?s ?d ?z ?_); (case h => walk_at "dp"); (case s => walk_at "shw"); (case d => walk_at "shw"); (case z => walk_at "shw"))
  | ((with_reducible refine' r_layM ?w ?l ?n ?_); (case w => assumption); (case l => walk_at "size"); (case n => rfl); intro p' H' n' w' h' s' d')
  | ((with_reducible refine' r_lay ?w ?l ?n ?_); (case w => assumption); (case l => walk_at "size"); (case n => (intro ps z; cases z)); intro p' G' H' n' w' s' h' t')
  | with_reducible refine' r_for ?_ | with_reducible refine' r_lc ?_ | with_reducible refine' r_iList ?_ | with_reducible refine' r_iTup ?_ | with_reducible refine' r_iStr ?_ | with_reducible refine' r_exs ?_
  | with_reducible refine' r_rng1 ?_ | with_reducible refine' r_rng2 ?_ | with_reducible refine' r_iEnum ?_ | with_reducible refine' r_yes ?_ | with_reducible refine' r_inSign ?_
  | ((with_reducible refine' r_rng1R ?a ?b ?_); (case a => walk_at "cond"); (case b => walk_at "cond"))
  | ((with_reducible refine' r_rng2R ?a ?_); (case a => exact ⟨by walk_at "cond", by walk_at "cond", by walk_at "cond", by walk_at "cond"⟩))
  | ((with_reducible refine' r_iListR ?h ?_); (case h => walk_at "sq"))
  | ((with_reducible refine' r_iTupR ?h ?_); (case h => walk_at "sq"))
  | ((with_reducible refine' r_iEnumR ?h ?_); (case h => walk_at "sq"))
  | ((with_reducible refine' r_lcT ?h ?_); (case h => exact rfl))
  | ((with_reducible refine' r_all ?h ?_); (case h => walk_at "sq"))
  | with_reducible refine' r_isi_int_int ?_ | with_reducible refine' r_isi_int_bool ?_ | with_reducible refine' r_isi_int_str ?_ | with_reducible refine' r_isi_int_list ?_ | with_reducible refine' r_isi_int_tuple ?_ | with_reducible refine' r_isi_int_dict ?_ | with_reducible refine' r_isi_bl_int ?_ | with_reducible refine' r_isi_bl_bool ?_ | with_reducible refine' r_isi_bl_str ?_ | with_reducible refine' r_isi_bl_list ?_ | with_reducible refine' r_isi_bl_tuple ?_ | with_reducible refine' r_isi_bl_dict ?_ | with_reducible refine' r_isi_str_int ?_ | with_reducible refine' r_isi_str_bool ?_ | with_reducible refine' r_isi_str_str ?_ | with_reducible refine' r_isi_str_list ?_ | with_reducible refine' r_isi_str_tuple ?_ | with_reducible refine' r_isi_str_dict ?_ | with_reducible refine' r_isi_non_int ?_ | with_reducible refine' r_isi_non_bool ?_ | with_reducible refine' r_isi_non_str ?_ | with_reducible refine' r_isi_non_list ?_ | with_reducible refine' r_isi_non_tuple ?_ | with_reducible refine' r_isi_non_dict ?_
  | ((with_reducible refine' r_isi ?h ?e ?_); (case h => walk_at "ty"); (case e => first | assumption | exact kt_list_int | exact kt_list_bool | exact kt_list_str | exact kt_list_list | exact kt_list_tuple | exact kt_list_dict | exact kt_tuple_int | exact kt_tuple_bool | exact kt_tuple_str | exact kt_tuple_list | exact kt_tuple_tuple | exact kt_tuple_dict | exact kt_dict_int | exact kt_dict_bool | exact kt_dict_str | exact kt_dict_list | exact kt_dict_tuple | exact kt_dict_dict))
  | ((with_reducible refine' r_isiC ?h ?e ?_); (case h => walk_at "ty"); (case e => assumption))
  | ((with_reducible refine' r_inL ?h ?f ?g ?_); (case h => walk_at "sq"); (case f => exact rfl); (case g => first | exact rfl | assumption))
  | ((with_reducible refine' r_inT ?h ?f ?g ?_); (case h => walk_at "sq"); (case f => exact rfl); (case g => first | exact rfl | assumption))
  | ((with_reducible refine' r_ninL ?h ?f ?g ?_); (case h => walk_at "sq"); (case f => exact rfl); (case g => first | exact rfl | assumption))
  | ((with_reducible refine' r_ninT ?h ?f ?g ?_); (case h => walk_at "sq"); (case f => exact rfl); (case g => first | exact rfl | assumption))
  | ((with_reducible refine' r_lcAdd ?w ?s ?h ?l ?i ?_); (case w => assumption); (case s => walk_at "sg"); (case h => walk_at "at"); (case l => assumption); (case i => omega); intro H' w' b')
  | with_reducible refine' r_tFld ?_ | with_reducible refine' r_sFld ?_ | with_reducible refine' r_tProp ?_ | with_reducible refine' r_tMeth ?_ | with_reducible refine' r_tMethK ?_ | with_reducible refine' r_tMake ?_
  | with_reducible refine' r_tBM ?_ | ((with_reducible refine' r_tyL ?h ?_); (case h => walk_at "sq"))
  | ((with_reducible refine' r_appM ?w ?m ?h ?l ?_); (case w => assumption); (case m => simp; done); (case h => walk_at "at"); (case l => walk_at "lsz"); intro H' w' h' b')
  | with_reducible refine' r_tRaise ?_
  | with_reducible refine' r_dnewK ?_ | with_reducible refine' r_un ?_ | with_reducible refine' r_neg ?_ | with_reducible refine' r_tStat ?_ | with_reducible refine' r_tStatK ?_ | with_reducible refine' r_stat ?_ | with_reducible refine' r_tMakeK ?_
  | ((with_reducible refine' r_rep ?h ?a ?b ?z ?_); (case h => walk_at "at"); (case a => decide); (case b => decide); (case z => first | decide | exact Nat.le_trans (Nat.le_of_ble_eq_true rfl : _ ≤ 1000000) (by decide)))
  | with_reducible refine' r_tFmt ?_ | with_reducible refine' r_jnil ?_ | with_reducible refine' r_jcons ?_
  | ((with_reducible refine' r_fld ?h ?c ?n ?l ?_); (case h => walk_at "at"); (case c => assumption); (case n => assumption); (case l => exact rfl))
  | ((with_reducible refine' r_setF ?w ?m ?h ?c ?n ?l ?_); (case w => assumption); (case m => simp; done); (case h => walk_at "at"); (case c => assumption); (case n => assumption); (case l => first | decide | exact Nat.le_of_ble_eq_true rfl); intro H' w' h' b')
  | ((with_reducible refine' r_prop ?h ?_); (case h => walk_at "at"))
  | ((with_reducible refine' r_meth ?h ?l ?_); (case h => walk_at "at"); (case l => exact rfl))
  | ((with_reducible refine' r_methK ?h ?l ?_); (case h => walk_at "at"); (case l => exact rfl))
  | ((with_reducible refine' r_fmtS ?h ?_); (case h => walk_at "size"))
  | ((with_reducible refine' r_fmtI ?h ?_); (case h => assumption))
  | ((with_reducible refine' r_jk ?h ?_); (case h => walk_at "js"))
  | ((with_reducible refine' u_isInt ?w ?h ?_); (case w => assumption); (case h => walk_at "kd"); intro G' H' w' s' t')
  | ((with_reducible refine' u_moment ?w ?h ?_); (case w => assumption); (case h => walk_at "kd"); intro G' H' w' s' t')
  | ((with_reducible refine' u_moment0 ?w ?h ?_); (case w => assumption); (case h => walk_at "kd"); intro G' H' w' s' t')
  | ((with_reducible refine' u_isName ?w ?h ?z ?_); (case w => assumption); (case h => walk_at "kd"); (case z => assumption); intro G' H' w' s' t')
  | with_reducible refine' r_par ?_ | with_reducible refine' r_parK ?_ | with_reducible refine' r_dnewM ?_ | with_reducible refine' r_sDPut ?_ | with_reducible refine' r_tDGet ?_ | with_reducible refine' r_strS ?_ | with_reducible refine' r_iKeys ?_ | with_reducible refine' r_tDGet2 ?_
  | with_reducible refine' r_notInSign ?_ | with_reducible refine' r_tFrzV ?_ | with_reducible refine' r_iSeq ?_ | with_reducible refine' r_dc ?_ | ((with_reducible refine' r_dcT ?h ?_); (case h => exact rfl)) | with_reducible refine' r_tStar ?_
  | ((with_reducible refine' r_dcAdd ?w ?s ?h ?l ?i ?_); (case w => assumption); (case s => walk_at "sg"); (case h => walk_at "at"); (case l => assumption); (case i => omega); intro H' w' b')
  | ((with_reducible refine' r_starL ?h ?_); (case h => walk_at "sq"))
  | with_reducible refine' r_dt ?_ | ((with_reducible refine' r_dtT ?h ?_); (case h => exact rfl)) | with_reducible refine' r_lc2 ?_ | ((with_reducible refine' r_l2T ?h ?_); (case h => exact rfl))
  | ((with_reducible refine' r_dtAdd ?w ?s ?h ?l ?i ?b ?_); (case w => assumption); (case s => walk_at "sg"); (case h => walk_at "at"); (case l => assumption); (case i => omega); (case b => walk_at "at"); intro H' w' b')
  | ((with_reducible refine' r_l2Add ?w ?s ?h ?l ?_); (case w => assumption); (case s => walk_at "sg"); (case h => walk_at "at"); (case l => first | assumption | omega); intro H' w' b')
  | with_reducible refine' r_gNil ?_ | with_reducible refine' r_gCons ?_ | ((with_reducible refine' r_gTupR ?h ?l ?_); (case h => walk_at "sq"); (case l => exact rfl))
  | ((with_reducible refine' r_strN ?h ?_); (case h => assumption))
  | with_reducible refine' r_tRev ?_ | ((with_reducible refine' r_revL ?h ?_); (case h => walk_at "sq")) | with_reducible refine' r_par3 ?_ | with_reducible refine' r_par3K ?_
  | with_reducible refine' r_tM1 ?_ | with_reducible refine' r_strAnd ?_ | with_reducible refine' r_tOrT ?_
  | ((with_reducible refine' r_lenF ?h ?_); (case h => walk_at "at")) | ((with_reducible refine' r_isiF ?h ?_); (case h => walk_at "at"))
  | with_reducible refine' r_iEnumT ?_ | ((with_reducible refine' r_iEnumTR ?h ?_); (case h => walk_at "sq"))
  | walk_at "qu")
local macro_rules | `(tactic| walk_at "sg") => `(tactic| first
  | assumption | exact Same.refl _
  | (refine' Same.trans ?a ?b; (case b => assumption); walk_at "sg"))
local macro_rules | `(tactic| walk_at "kd") => `(tactic| first
  | exact kd_int _ | exact kd_bl _ | exact kd_str _ | exact kd_non | assumption
  | (refine' kd_tup ?h; (case h => walk_at "atg"))
  | (refine' kd_lst ?h; (case h => walk_at "atg"))
  | (refine' Kd.same ?h ?s; (case s => assumption); (case h => walk_at "kd")))
local macro_rules | `(tactic| walk_at "ty") => `(tactic| first
  | assumption | exact .base (.int _) | exact .base (.bl _) | exact .base (.str _) | exact .base .non
  | (refine' same_ty ?s ?h; (case s => assumption); (case h => walk_at "ty"))
  | (refine' same_ty ?s ?h; (case s => exact Wd.le (by assumption)); (case h => walk_at "ty")))
local macro_rules | `(tactic| walk_at "shp") => `(tactic| first | assumption | exact shaped_ints _ | exact shaped_nil | decide | (simp [SeqAt.shaped, PyData.canLay0, PyData.canLayAll0, PyData.depth, PyData.depthAll]; done))
local macro_rules | `(tactic| walk_at "shw") => `(tactic| first | assumption | decide | (simp; done))
local macro_rules | `(tactic| walk_at "qq") => `(tactic| repeat walk_at "q")
namespace Q
theorem cut63_len (xs : List V) : (cutV xs none (some 63)).length ≤ 63 := by
  unfold cutV
  rw [List.length_take]
  have : HT.sIx xs.length xs.length (some 63) ≤ 63 := by
    simp only [HT.sIx]
    first | omega | (split <;> omega) | (simp; omega)
  omega
abbrev nDraw : List Str := ["_law_pen_here", "_law_many", "_law_digit", "_law_at", "_law_cell", "_law_great", "_law_mixed"]
theorem scDraw : FnScope nDraw ["_law_pen_here", "_law_many"] (defScope sDraw) := ⟨rfl, rfl, rfl, by decide +kernel, rfl, by decide +kernel, by decide +kernel⟩
section
variable {P : Program} {w : World} {K : PySem.W.Frag} {mg : Str → Option Value} {base : Heap}
theorem ok_draw {f : Addr} {fd : FuncData} (F : FnP K "_law_draw" "_law_draw" sDraw [] f fd) (T : Bi mg) : FnOk P w K mg base CX0 2 f fd ["_law_pen_here", "_law_many"] spDraw := by
  refine fnP_ok F scDraw (fun vs H Q E h => ?_) (fun cdv A outer s H vs Q E hr h => ?_)
  · obtain ⟨G, p, c, n, many, rfl, _⟩ := h
    rfl
  · obtain ⟨G, p, c, n, many, rfl, sG, gp, hc, hp, hn, h0, hb, k⟩ := h
    have hu64 := hr.units
    refine ⟨_, (pss_cons (ps_if (pt_cmpR q_gt (pe_ix q_ix (pv 0) pe_int (fun _ _ => rfl)) pe_int (nomark _)) (pss_cons (ps_set (i := 2) scDraw.nd rfl (Or.inl rfl) (pe_op q_mod (pe_callTy q_int (by rfl) T.int (by decide +kernel) (pa_cons (pe_ix q_ix (pv 0) pe_int (fun _ _ => rfl)) pa_nil)) (pv 1)))
        (pss_cons (ps_asg (pe_op q_fdiv (pe_callTy q_int (by rfl) T.int (by decide +kernel) (pa_cons (pe_ix q_ix (pv 0) pe_int (fun _ _ => rfl)) pa_nil)) (pv 1)) (pg_sub (pv 0) pe_int set_list))
        (pss_one (ps_ret (pv 2))))) pss_nil)
        (pss_cons (ps_set (i := 3) scDraw.nd rfl (Or.inl rfl) (pe_ix q_ix (pv 0) pe_int (fun _ _ => rfl)))
        (pss_cons (ps_asg (pe_op q_add (pv 3) pe_int) (pg_sub (pv 0) pe_int set_list))
        (pss_cons (ps_set (i := 4) scDraw.nd rfl (Or.inl rfl) (pe_op q_add (pe_op q_mul pe_int (pv 3)) pe_int))
        (Evl.pss_cut (ps_if (pt_cmpR (q_ne hu64) (pe_ix q_ix (pv 0) pe_int (fun _ _ => rfl)) (pe_lst pa_nil) (nomark _)) (pss_one (ps_set (i := 4) scDraw.nd rfl (Or.inl rfl) (pe_ix q_ix (pe_ix q_ix (pv 0) pe_int (fun _ _ => rfl)) (pe_op q_mod (pe_callTy q_int (by rfl) T.int (by decide +kernel) (pa_cons (pv 3) pa_nil)) (pe_callB q_len (by rfl) T.len (by decide +kernel) (pa_cons (pe_ix q_ix (pv 0) pe_int (fun _ _ => rfl)) pa_nil))) (fun _ _ => rfl)))) pss_nil)
        (Evl.pss_cut (ps_if (PW.pt (pw_and (pt_cmpR q_lt (pv 3) (pe_callB q_len (by rfl) T.len (by decide +kernel) (pa_cons (pe_ix q_ix (pv 0) pe_int (fun _ _ => rfl)) pa_nil)) (nomark _)) (pw_and1 (pt_cmpR q_ge (pe_callB q_abs (by rfl) T.abs (by decide +kernel) (pa_cons (pv 4) pa_nil)) (pe_op q_pow pe_int pe_int) (nomark _))))) (pss_cons (ps_set (i := 5) scDraw.nd rfl (Or.inl rfl) (pe_op q_add (pe_op q_mul pe_int (pe_op q_sub (pe_callB q_abs (by rfl) T.abs (by decide +kernel) (pa_cons (pv 4) pa_nil)) (pe_op q_pow pe_int pe_int))) (pe_callTy q_int (by rfl) T.int (by decide +kernel) (pa_cons (pe_cmpR q_lt (pv 4) pe_int (nomark _)) pa_nil))))
        (pss_cons (ps_asg (pe_op q_fdiv (pe_callTy q_int (by rfl) T.int (by decide +kernel) (pa_cons (pv 5) pa_nil)) (pv 1)) (pg_sub (pv 0) pe_int set_list))
        (pss_one (ps_ret (pe_op q_mod (pe_callTy q_int (by rfl) T.int (by decide +kernel) (pa_cons (pv 5) pa_nil)) (pv 1)))))) pss_nil)
        (pss_cons (ps_set (i := 6) scDraw.nd rfl (Or.inl rfl) (pe_op q_mod (pe_callTy q_int (by rfl) T.int (by decide +kernel) (pa_cons (pe_op q_pow (pe_op q_add (pe_op q_add (pe_op q_mod (pe_callTy q_int (by rfl) T.int (by decide +kernel) (pa_cons (pv 4) pa_nil)) pe_int) (pe_op q_mul pe_int (pv 3))) pe_int) pe_int) pa_nil)) pe_int))
        (pss_cons (ps_set (i := 6) scDraw.nd rfl (Or.inl rfl) (pe_op q_mod (pe_callTy q_int (by rfl) T.int (by decide +kernel) (pa_cons (pe_op q_pow (pe_op q_add (pe_op q_add (pe_op q_mul (pv 6) (pe_op q_add (pe_op q_mul pe_int (pv 3)) pe_int)) (pe_op q_mul (pe_op q_mul pe_int (pv 3)) (pv 3))) pe_int) pe_int) pa_nil)) pe_int))
        (pss_one (ps_ret (pe_op q_mod (pe_callTy q_int (by rfl) T.int (by decide +kernel) (pa_cons (pe_op q_fdiv (pv 6) pe_int) pa_nil)) (pv 1)))))))))))), ?_⟩
    have hdw : ∀ x : Int, CDivW x many := fun x => wide_div (b := 300) h0 (by omega) (by decide) (by decide)
    have hm2 : ∀ x : Int, 0 ≤ x % many ∧ x % many < many := fun x => ⟨Int.emod_nonneg _ (by omega), Int.emod_lt_of_pos _ h0⟩
    obtain ⟨at_, g, h1, ha, hg⟩ := hp
    obtain ⟨ns, h2, hl⟩ := hc
    have w0 : Wd ⟨H, G, [p], []⟩ G H [p] := wd_start sG (fun a h => by rw [List.mem_singleton.mp h]; exact ⟨gp, _, h1, rfl⟩) (by simp)
    have fin : ∀ (x g' : Int) (m : Nat) (G' H' : Hp) (M : List Addr), Wd ⟨H, G, [p], []⟩ G' H' M → H' p = some (.lst [.ref c, .int m, .int g']) → m ≤ n + 1 → 0 ≤ g' → Q (.int (x % many)) H' := fun x g' m G' H' M w' e1 e2 e3 =>
      retP_of k w' ⟨m, g', e1, e2, e3⟩ ⟨_, rfl, hm2 x⟩
    have hat : (at_ : Int) ≤ 1048576 := by omega
    walk_at "qq"
    refine ite2 (fun hg0 => ?_) (fun hg0 => ?_)
    · walk_at "qq"
      exact fin _ _ at_ G _ [p] (by assumption) (by walk_at "at") (by omega) (Int.ediv_nonneg hg (by omega))
    walk_at "qq"
    refine ⟨fun σ' H' => ∃ (cell : Int) (G' : Hp), σ' = [some (.ref p), some (.int many), none, some (.int at_), some (.int cell), none, none] ∧
      Wd ⟨H, G, [p], []⟩ G' H' [p] ∧ Same G G' ∧ H' p = some (.lst [.ref c, .int (at_ + 1), .int g]), ?_, ?_⟩
    · walk_at "qq"
      rw [eqv_nil]
      cases ns with
      | nil =>
        refine iteF ?_
        walk_at "qq"
        exact ⟨_, _, rfl, by assumption, by assumption, by walk_at "at"⟩
      | cons n0 nr =>
        obtain ⟨z, hz⟩ := at_mod_ints (ns := n0 :: nr) at_ (by simp)
        have hpos : (0 : Int) < ((List.map V.int (n0 :: nr)).length : Int) := by simp
        refine iteT ?_
        walk_at "qq"
        exact ⟨_, _, rfl, by assumption, by assumption, by walk_at "at"⟩
    · rintro σ' H' ⟨cell, G1, rfl, w1, s1, h1⟩
      walk_at "qq"
      refine ⟨fun σ' H2 => σ' = [some (.ref p), some (.int many), none, some (.int at_), some (.int cell), none, none] ∧ H2 = H', ?_, ?_⟩
      · walk_at "qq"
        refine ite2 (fun h3 => ?_) (fun _ => ?_)
        · walk_at "qq"
          refine ite2 (fun h4 => ?_) (fun _ => ?_)
          · walk_at "qq"
            have h5 := of_decide_eq_true h4
            refine fin _ _ (at_ + 1) G1 _ [p] (by assumption) (by walk_at "at") (by omega) (Int.ediv_nonneg ?_ (by omega))
            have e : (10 : Int) ^ Int.toNat 18 = 1000000000000000000 := by decide
            rw [e] at h5 ⊢
            have e2 : (0 : Int) ≤ if decide (cell < 0) = true then 1 else 0 := by split <;> decide
            omega
          · walk_at "qq"
            exact ⟨rfl, rfl⟩
        · walk_at "qq"
          exact ⟨rfl, rfl⟩
      · rintro σ' H2 ⟨rfl, rfl⟩
        walk_at "qq"
        refine r_pow ⟨by decide, by decide, pow_small (by omega) (by omega) (by omega) (by omega) (by decide) (by decide) (by omega) (by omega) (by decide) (by decide)⟩ ?_
        walk_at "qq"
        exact fin _ _ (at_ + 1) G1 _ [p] w1 h1 (by omega) hg
end
section
variable {P : Program} {w : World} {K : PySem.W.Frag} {mg : Str → Option Value} {base : Heap}
abbrev nPen : List Str := ["_law_script"]
theorem scPen : FnScope nPen ["_law_script"] (defScope sPen) := ⟨rfl, rfl, rfl, by decide +kernel, rfl, by decide +kernel, by decide +kernel⟩
theorem ok_pen {f : Addr} {fd : FuncData} (F : FnP K "_law_pen" "_law_pen" sPen [] f fd) (T : Bi mg) : FnOk P w K mg base CX0 1 f fd ["_law_script"] (spPen K) := by
  refine fnP_ok F scPen (fun vs H Q E h => ?_) (fun cdv A outer s H vs Q E hr h => ?_)
  · obtain ⟨G, a, ns, rfl, _⟩ := h
    rfl
  · obtain ⟨G, a, ns, rfl, sG, ha, hl, k⟩ := h
    have hu64 := hr.units
    refine ⟨_, (pss_one (ps_ret (pe_lstM (pa_cons (pe_callTy q_list (by rfl) T.list (by decide +kernel) (pa_cons (pe_slice sl_list (pv 0) po_none (po_some pe_int)) pa_nil)) (pa_cons pe_int (pa_cons pe_int pa_nil)))))), ?_⟩
    have w0 := wd_pure sG
    obtain ⟨ms, hms⟩ := cutV_ints ns none (some 63)
    have hml : ms.length ≤ 63 := by
      have e := congrArg List.length hms
      rw [List.length_map] at e
      rw [← e]
      exact cut63_len _
    walk_at "qq"
    rename_i p3 H3 n3 w3 h3 s3 d3
    have mu := w3.mu p3 List.mem_cons_self
    refine k p3 _ _ H3 (fun a o h => w3.kp a o (by simp) h) w3.gh w3.gr w3.fr mu.1 ?_ ⟨ms, ?_, hml⟩ ⟨0, 0, h3, Nat.le_refl _, Int.le_refl _⟩
    · rcases mu.2.2 with h | h
      · exact h
      · simp at h
    · rw [← hms]
      walk_at "at"
abbrev nPick : List Str := ["_law_pen_here", "_law_some"]
theorem scPick : FnScope nPick ["_law_pen_here", "_law_some"] (defScope sPick) := ⟨rfl, rfl, rfl, by decide +kernel, rfl, by decide +kernel, by decide +kernel⟩
theorem ok_pick {f : Addr} {fd : FuncData} (F : FnP K "_law_pick" "_law_pick" sPick [] f fd) (T : Bi mg) (Dd : Df P w K mg base CX0 2 "_law_draw" [] spDraw) : FnOk P w K mg base CX0 3 f fd ["_law_pen_here", "_law_some"] (spPick K) := by
  refine fnP_ok F scPick (fun vs H Q E h => ?_) (fun cdv A outer s H vs Q E hr h => ?_)
  · obtain ⟨G, p, c, n, z, xs, rfl, _⟩ := h
    rfl
  · obtain ⟨G, p, c, n, z, xs, rfl, sG, gp, hc, hp, hn, hs, h0, hb, k⟩ := h
    have hu64 := hr.units
    refine ⟨_, (pss_one (ps_ret (pe_ix q_ix (pv 1) (pe_callD Dd hr pass0 (pa_cons (pv 0) (pa_cons (pe_callB q_len (by rfl) T.len (by decide +kernel) (pa_cons (pv 1) pa_nil)) pa_nil))) (fun _ _ => rfl)))), ?_⟩
    have w0 : Wd ⟨H, G, [p], []⟩ G H [p] := by
      obtain ⟨a, g, h1, _⟩ := hp
      exact wd_start sG (fun a h => by rw [List.mem_singleton.mp h]; exact ⟨gp, _, h1, rfl⟩) (by simp)
    have hlen : 0 < xs.length := by cases xs with
      | nil => exact absurd rfl h0
      | cons _ _ => simp
    rcases hs with ⟨l, rfl, hl⟩ | ⟨z, rfl, hz, rfl⟩
    · rcases hl with hl | hl
      · walk_at "qq"
        refine u_draw w0 (by simp) hc hp hn (by omega) (by omega) fun d G' H' w' s' b' P' d0 d1 => ?_
        obtain ⟨j, rfl⟩ := Int.eq_ofNat_of_zero_le d0
        have hj : j < xs.length := by omega
        have hx := List.getElem?_eq_getElem hj
        have hat := atI_nat hx
        walk_at "qq"
        exact retP_of k w' P' (List.getElem_mem hj)
      · walk_at "qq"
        refine u_draw w0 (by simp) hc hp hn (by omega) (by omega) fun d G' H' w' s' b' P' d0 d1 => ?_
        obtain ⟨j, rfl⟩ := Int.eq_ofNat_of_zero_le d0
        have hj : j < xs.length := by omega
        have hx := List.getElem?_eq_getElem hj
        have hat := atI_nat hx
        walk_at "qq"
        exact retP_of k w' P' (List.getElem_mem hj)
    · have hzl : z.cps.toList.length = z.length := by simp [Str.length]
      rw [List.length_map, hzl] at hlen
      walk_at "qq"
      refine u_draw w0 (by simp) hc hp hn (by omega) (by omega) fun d G' H' w' s' b' P' d0 d1 => ?_
      obtain ⟨j, rfl⟩ := Int.eq_ofNat_of_zero_le d0
      have hj : j < z.cps.toList.length := by omega
      have hx := List.getElem?_eq_getElem hj
      have hat := atI_nat hx
      walk_at "qq"
      exact retP_of k w' P' (List.mem_map.mpr ⟨_, List.getElem_mem hj, rfl⟩)
end
section
variable {P : Program} {w : World} {K : PySem.W.Frag} {mg : Str → Option Value} {base : Heap}
abbrev nIsInt : List Str := ["thing"]
theorem scIsInt : FnScope nIsInt ["thing"] (defScope sIsInt) := ⟨rfl, rfl, rfl, by decide +kernel, rfl, by decide +kernel, by decide +kernel⟩
theorem ok_isInt {f : Addr} {fd : FuncData} (F : FnP K "is_integer" "is_integer" sIsInt [] f fd) (T : Bi mg) : FnOk P w K mg base CX0 1 f fd ["thing"] (spIsInt K) := by
  refine fnP_ok F scIsInt (fun vs H Q E h => ?_) (fun cdv A outer s H vs Q E hr h => ?_)
  · obtain ⟨G, x, t, rfl, _⟩ := h
    rfl
  · obtain ⟨G, x, t, rfl, sG, hx, k⟩ := h
    have hu64 := hr.units
    refine ⟨_, (pss_one (ps_ret (pe_and (pe_callB call_isi (by rfl) T.isinstance (by decide +kernel) (pa_cons (pv 0) (pa_cons (pe_bltn (v := .ty "int") (by rfl) T.int (by decide +kernel) rfl) pa_nil))) (pe_one (pe_not (pe_callB call_isi (by rfl) T.isinstance (by decide +kernel) (pa_cons (pv 0) (pa_cons (pe_bltn (v := .ty "bool") (by rfl) T.bool (by decide +kernel) rfl) pa_nil)))))))), ?_⟩
    have w0 := wd_pure sG
    have h1 := same_ty sG.1 hx.ty
    have h2 := hx.int
    have h3 := hx.bool
    walk_at "qq"
    cases x <;> first
      | (refine iteF ?_; exact ret_of k w0 rfl)
      | (refine iteT ?_; walk_at "qq"; exact ret_of k (by assumption) rfl)
abbrev nMoment : List Str := ["thing", "least"]
theorem scMoment : FnScope nMoment ["thing", "least"] (defScope sMoment) := ⟨rfl, rfl, rfl, by decide +kernel, rfl, by decide +kernel, by decide +kernel⟩
theorem ok_moment {f : Addr} {fd : FuncData} (F : FnP K "is_moment" "is_moment" sMoment [.int 0] f fd) (T : Bi mg) (C : Nm K mg) (D1 : Df P w K mg base CX0 1 "is_integer" [] (spIsInt K)) : FnOk P w K mg base CX0 2 f fd ["thing", "least"] (spMoment K) := by
  refine fnP_ok F scMoment (fun vs H Q E h => ?_) (fun cdv A outer s H vs Q E hr h => ?_)
  · obtain ⟨G, x, t, l, rfl, _⟩ := h
    rfl
  · obtain ⟨G, x, t, l, rfl, sG, hx, k⟩ := h
    have hu64 := hr.units
    refine ⟨_, (pss_one (ps_ret (pe_and (pe_callD D1 hr pass0 (pa_cons (pv 0) pa_nil)) (pe_one (pe_chain q_le q_le (pv 1) (pv 0) (pe_gc C.MOST_MOMENT)))))), ?_⟩
    have w0 := wd_pure sG
    walk_at "qq"
    cases x <;> first
      | (refine iteF ?_; exact ret_of k (by assumption) rfl)
      | skip
    refine iteT ?_
    walk_at "qq"
    refine ite2 (fun c1 => ?_) (fun c1 => ?_)
    · walk_at "qq"
      refine ret_of k (by assumption) ?_
      show V.bl _ = V.bl (_ && _)
      rw [c1] <;> rfl
    · refine ret_of k (by assumption) ?_
      show V.bl _ = V.bl (_ && _)
      rw [Bool.eq_false_iff.mpr c1] <;> rfl
abbrev nIsName : List Str := ["thing", "sign"]
theorem scIsName : FnScope nIsName ["thing"] (defScope sIsName) := ⟨rfl, rfl, rfl, by decide +kernel, rfl, by decide +kernel, by decide +kernel⟩
theorem ok_isName {f : Addr} {fd : FuncData} (F : FnP K "is_name" "is_name" sIsName [] f fd) (T : Bi mg) (C : Nm K mg) : FnOk P w K mg base CX0 1 f fd ["thing"] (spIsName K) := by
  refine fnP_ok F scIsName (fun vs H Q E h => ?_) (fun cdv A outer s H vs Q E hr h => ?_)
  · obtain ⟨G, x, t, rfl, _⟩ := h
    rfl
  · obtain ⟨G, x, t, rfl, sG, hx, hz, k⟩ := h
    have hu64 := hr.units
    obtain ⟨ar, hres, hresT⟩ := C.RESERVED
    refine ⟨_, (Evl.pss_cut (ps_if (PW.pt (pw_or (pt_not (pt_val (pe_callB call_isi (by rfl) T.isinstance (by decide +kernel) (pa_cons (pv 0) (pa_cons (pe_bltn (v := .ty "str") (by rfl) T.str (by decide +kernel) rfl) pa_nil))))) (pw_or (pt_not (pt_chain q_le q_le pe_int (pe_callB q_len (by rfl) T.len (by decide +kernel) (pa_cons (pv 0) pa_nil)) (pe_gc C.MOST_SIGNS))) (pw_or1 (pt_cmpR op_in_seq (pv 0) (pe_gc hres) (by rfl)))))) (pss_one (ps_ret pe_bl)) pss_nil)
        (pss_one (ps_ret (pe_and (pe_cmpR q_inSign (pe_ix q_ix (pv 0) pe_int (fun _ _ => rfl)) (pe_gc C.LETTERS) (by rfl)) (pe_one (pe_callB (cr_all rfl) (by rfl) T.all (by decide +kernel) (pa_cons (pe_lc (own := [("sign", 1)]) (g := gName 1) (tt := tYes) rfl scIsName.nd (pi_str (pv 0)) (blkOk_by (own := [("sign", 1)]) (N := nIsName) (sc := defScope sIsName) (by decide +kernel)) (fun _ _ _ _ _ => (pg_name (i := 1) scIsName.nd rfl (by first | exact Or.inl rfl | exact Or.inr rfl))) (fun _ _ _ _ _ => pts_nil) (fun _ _ _ _ _ => (pe_or (pe_cmpR q_inSign (pv 1) (pe_gc C.LETTERS) (by rfl)) (pe_one (pe_cmpR q_inSign (pv 1) (pe_gc C.FIGURES) (by rfl)))))) pa_nil))))))), ?_⟩
    have w0 := wd_pure sG
    have h1 := same_ty sG.1 hx.ty
    have h2 := hx.str
    walk_at "qq"
    have no : nameV x = false → ∀ (G' H' : Hp), Wd ⟨H, G, [], []⟩ G' H' [] → Q (.bl false) H' := fun e G' H' w' => ret_of k w' (by rw [e])
    refine ⟨fun σ' H' => ∃ (z : Str) (c : Nat) (r : List Nat), x = .str z ∧ σ' = [some x, none] ∧ H' = H ∧ z.length ≤ 8 ∧ z.cps.toList = c :: r ∧ nameV x = (letB c && z.cps.toList.all fun c => letB c || figB c), ?_, ?_⟩
    · walk_at "qq"
      cases x with
      | str z =>
        refine iteF ?_
        have hz1 : z.length ≤ 1000000 := hz z rfl
        walk_at "qq"
        have hv : nameV (.str z) = nmOk z := rfl
        have hr1 := hresT H
        refine ite_d (fun c1 => ?_) (fun c1 => ?_)
        · walk_at "qq"
          refine ite_nd (fun c2 => ?_) (fun c2 => ?_)
          · walk_at "qq"
            exact no (by rw [hv]; unfold nmOk; rw [decide_eq_false (by omega : ¬ z.length ≤ 8)]; simp) _ _ w0
          · walk_at "qq"
            refine ite_b (fun c3 => ?_) (fun c3 => ?_)
            · walk_at "qq"
              exact no (by rw [hv]; unfold nmOk; rw [c3]; simp) _ _ w0
            · walk_at "qq"
              cases hc : z.cps.toList with
              | nil =>
                have e : z.length = 0 := by
                  have := congrArg List.length hc
                  simpa [Str.length] using this
                omega
              | cons a r =>
                refine ⟨z, a, r, rfl, rfl, rfl, by omega, hc, ?_⟩
                rw [hv]
                unfold nmOk
                rw [c3, decide_eq_true (by omega : 1 ≤ z.length), decide_eq_true (by omega : z.length ≤ 8), hc]
                rfl
        · walk_at "qq"
          exact no (by rw [hv]; unfold nmOk; rw [decide_eq_false (by omega : ¬ 1 ≤ z.length)]; simp) _ _ w0
      | _ =>
        refine iteT ?_
        walk_at "qq"
        exact no rfl _ _ w0
    · rintro σ' H' ⟨z, c, r, rfl, rfl, rfl, hz8, hc, hv⟩
      have hz1 : z.length ≤ 1000000 := by omega
      have h0 : atI z.cps.toList 0 = some c := by rw [hc]; exact atI_0 c r
      have hv : nameV (.str z) = (letB c && z.cps.toList.all fun c => letB c || figB c) := hv
      walk_at "qq"
      refine ite_d (fun c1 => ?_) (fun c1 => ?_)
      · have e1 : letB c = true := decide_eq_true c1
        walk_at "qq"
        refine lc_go w0 walk_str (fun i acc _ _ => acc = ((z.cps.toList.take i).map fun c => letB c || figB c).map V.bl) (fun _ _ _ _ _ => rfl) (fun _ _ _ _ _ _ _ => trivial) ?_ ?_
        · rintro Dd i acc Gi H2 x H3 hi hl w2 s2 hD nm rfl ⟨rfl, c', hc', rfl⟩
          have hi' : i ≤ 1000000 := by have e : z.cps.size = z.length := rfl; omega
          have hc2 : z.cps.toList[i]? = some c' := by simpa using hc'
          have fin : ∀ b : Bool, b = (letB c' || figB c') → ((z.cps.toList.take i).map fun c => letB c || figB c).map V.bl ++ [V.bl b] = ((z.cps.toList.take (i + 1)).map fun c => letB c || figB c).map V.bl := fun b e => by
            rw [take_map_snoc _ hc2, List.map_append, e]
            rfl
          walk_at "qq"
          refine ite_d (fun c2 => ?_) (fun c2 => ?_)
          · walk_at "qq"
            exact fin true (by have e2 : letB c' = true := decide_eq_true c2; rw [e2] <;> rfl)
          · walk_at "qq"
            exact fin _ (by have e2 : letB c' = false := decide_eq_false c2; rw [e2] <;> rfl)
        · rintro p acc Gi Gp H2 hl w2 s2 s3 hp rfl
          walk_at "qq"
          refine ret_of k w2 ?_
          rw [hv, e1, List.take_of_length_le (by simp)]
          simp [List.all_map, Function.comp_def]
      · exact ret_of k w0 (by rw [hv]; have e1 : letB c = false := decide_eq_false c1; rw [e1] <;> rfl)
end
theorem ok_errX {P : Program} {w : World} {K : PySem.W.Frag} {mg : Str → Option Value} {base : Heap} {Ct : Addr} {f : Addr} {fd : FuncData} (F : FnP K "__init__" "BadText.__init__" sErrX [] f fd) (T : OexC K Ct) (no1 : PySem.W.findIn K (.ref Ct) "line" = some none) (no2 : PySem.W.findIn K (.ref Ct) "word" = some none) : FnOk P w K mg base CX0 1 f fd ["self", "line", "word"] (spErr2 Ct "line" "word") :=
  ok_err2 F ⟨rfl, rfl, rfl, by decide +kernel, rfl, by decide +kernel, by decide +kernel⟩ T no1 no2 fun X hN hs => pss_cons (ps_ost (pe_var (i := 0) (by rw [hN] <;> rfl) (by rw [hs]; exact .inl rfl)) (pe_var (i := 1) (by rw [hN] <;> rfl) (by rw [hs]; exact .inl rfl))) (pss_one (ps_ost (pe_var (i := 0) (by rw [hN] <;> rfl) (by rw [hs]; exact .inl rfl)) (pe_var (i := 2) (by rw [hN] <;> rfl) (by rw [hs]; exact .inl rfl))))
section
variable {P : Program} {w : World} {K : PySem.W.Frag} {mg : Str → Option Value} {base : Heap} {C Ct : Addr}
abbrev nMomIn : List Str := ["word", "found", "sign"]
theorem scMomIn : FnScope nMomIn ["word"] (defScope sMomIn) := ⟨rfl, rfl, rfl, by decide +kernel, rfl, by decide +kernel, by decide +kernel⟩
theorem ok_momIn {f : Addr} {fd : FuncData} (F : FnP K "moment_in" "moment_in" sMomIn [] f fd) (T : Bi mg) (C : Nm K mg) (hFig : Gc mg "MOST_FIGURES" (.int 31)) : FnOk P w K mg base CX0 1 f fd ["word"] spMomIn := by
  refine fnP_ok F scMomIn (fun vs H Q E h => ?_) (fun cdv A outer s H vs Q E hr h => ?_)
  · obtain ⟨G, z, rfl, _⟩ := h
    rfl
  · obtain ⟨G, z, rfl, sG, hz, k⟩ := h
    have hu64 := hr.units
    refine ⟨_, (pss_cons (ps_if (PW.pt (pw_or (pt_not (pt_chain q_le q_le pe_int (pe_callB q_len (by rfl) T.len (by decide +kernel) (pa_cons (pv 0) pa_nil)) (pe_gc hFig))) (pw_or1 (pt_not (pt_val (pe_callB (cr_all rfl) (by rfl) T.all (by decide +kernel) (pa_cons (pe_lc (own := [("sign", 2)]) (g := gName 2) (tt := tYes) rfl scMomIn.nd (pi_str (pv 0)) (blkOk_by (own := [("sign", 2)]) (N := nMomIn) (sc := defScope sMomIn) (by decide +kernel)) (fun _ _ _ _ _ => (pg_name (i := 2) scMomIn.nd rfl (by first | exact Or.inl rfl | exact Or.inr rfl))) (fun _ _ _ _ _ => pts_nil) (fun _ _ _ _ _ => (pe_cmpR q_inSign (pv 2) (pe_gc C.FIGURES) (by rfl)))) pa_nil))))))) (pss_one (ps_ret pe_non)) pss_nil)
        (pss_cons (ps_if (PW.pt (pw_and (pt_cmpR (q_eq hu64) (pe_ix q_ix (pv 0) pe_int (fun _ _ => rfl)) pe_str (nomark _)) (pw_and1 (pt_cmpR q_gt (pe_callB q_len (by rfl) T.len (by decide +kernel) (pa_cons (pv 0) pa_nil)) pe_int (nomark _))))) (pss_one (ps_ret pe_non)) pss_nil)
        (pss_cons (ps_set (i := 1) scMomIn.nd rfl (Or.inl rfl) (pe_callTy call_int_str (by rfl) T.int (by decide +kernel) (pa_cons (pv 0) pa_nil)))
        (pss_one (ps_ret (pe_ifExp (pt_cmpR q_le (pv 1) (pe_gc C.MOST_MOMENT) (nomark _)) (pv 1) pe_non)))))), ?_⟩
    have w0 := wd_pure sG
    have no : numB z.cps.toList = false → ∀ (G' H' : Hp), Wd ⟨H, G, [], []⟩ G' H' [] → Q .non H' := fun e G' H' w' => ret_of k w' (by unfold momW; rw [e, if_neg (by simp)]; rfl)
    have el := len_tl z
    walk_at "qq"
    refine ite_d (fun c1 => ?_) (fun c1 => ?_)
    · walk_at "qq"
      refine ite_nd (fun c2 => ?_) (fun c2 => ?_)
      · walk_at "qq"
        exact no (by unfold numB; rw [decide_eq_false (by omega : ¬ z.cps.toList.length ≤ 31)]; simp) _ _ w0
      · have l1 : 1 ≤ z.cps.toList.length := by omega
        obtain ⟨c, r, hc⟩ : ∃ c r, z.cps.toList = c :: r := List.exists_cons_of_length_pos l1
        have h0 : atI z.cps.toList 0 = some c := by rw [hc]; exact atI_0 c r
        walk_at "qq"
        refine lc_go w0 walk_str (fun i acc _ _ => acc = ((z.cps.toList.take i).map figB).map V.bl) (fun _ _ _ _ _ => rfl) (fun _ _ _ _ _ _ _ => trivial) ?_ ?_
        · rintro Dd i acc Gi H2 x H3 hi hl w2 s2 hD nm rfl ⟨rfl, c', hc', rfl⟩
          have hi' : i ≤ 1000000 := by have e : z.cps.size = z.length := rfl; omega
          have hc2 : z.cps.toList[i]? = some c' := by simpa using hc'
          walk_at "qq"
          rw [take_map_snoc _ hc2, List.map_append]
          rfl
        · rintro p acc Gi Gp H2 hl w2 s2 s3 hp rfl
          have ea : (List.take z.cps.size z.cps.toList) = z.cps.toList := List.take_of_length_le (by simp)
          rw [ea] at hp
          walk_at "qq"
          have e3 : (List.map figB z.cps.toList).all id = z.cps.toList.all figB := by simp [List.all_map, Function.comp_def]
          rw [e3]
          refine ite_nb (fun c3 => ?_) (fun c3 => ?_)
          · walk_at "qq"
            exact no (by unfold numB; rw [c3]; simp) _ _ w2
          · have go : ¬ (z.cps.toList.head? = some 48 ∧ 1 < z.cps.toList.length) → numB z.cps.toList = true := fun n => by
              unfold numB
              rw [c3, decide_eq_true l1, decide_eq_true (by omega : z.cps.toList.length ≤ 31)]
              have : (decide (z.cps.toList.head? = some 48) && decide (1 < z.cps.toList.length)) = false := by
                rw [Bool.and_eq_false_iff, decide_eq_false_iff_not, decide_eq_false_iff_not]
                exact Decidable.not_and_iff_or_not.mp n
              rw [this]
              rfl
            have last : numB z.cps.toList = true → Q (optI (momW z)) H2 := fun _ => ret_of k w2 rfl
            have hz2 : (z.length : Int) = z.cps.toList.length := by omega
            have hint := figs_int c3 (by omega) (by omega)
            have e0 : V.str ⟨#[c]⟩ = V.str (Str.ofString "0") ↔ c = 48 := by
              constructor
              · intro e
                injection e with e
                exact (List.cons.inj (congrArg TL.tl e)).1
              · intro e
                rw [e] <;> rfl
            have end_ : numB z.cps.toList = true → Q (if ((NumText.digitsVal z.cps.toList : Nat) : Int) ≤ 1000000000000000000000000000000 then .int ((NumText.digitsVal z.cps.toList : Nat) : Int) else .non) H2 := fun e => by
              refine ret_of k w2 ?_
              unfold momW
              by_cases q : ((NumText.digitsVal z.cps.toList : Nat) : Int) ≤ 1000000000000000000000000000000
              · rw [if_pos q, if_pos ⟨e, q⟩]
                rfl
              · rw [if_neg q, if_neg fun h => q h.2]
                rfl
            walk_at "qq"
            refine ite_d (fun c4 => ?_) (fun c4 => ?_)
            · have e4 := e0.mp c4
              walk_at "qq"
              refine ite_d (fun c5 => ?_) (fun c5 => ?_)
              · walk_at "qq"
                have l2 : 1 < (48 :: r).length := by
                  have := congrArg List.length hc
                  simp only [List.length_cons] at this ⊢
                  omega
                exact no (by unfold numB; rw [hc, e4, decide_eq_true (show (48 :: r).head? = some 48 from rfl), decide_eq_true l2]; simp) _ _ w2
              · have en := go (fun h => c5 (by omega))
                walk_at "qq"
                refine ⟨z, _, rfl, hint, by omega, ?_⟩
                walk_at "qq"
                refine ite_d (fun c6 => ?_) (fun c6 => ?_)
                · walk_at "qq"
                  have := end_ en
                  rw [if_pos c6] at this
                  exact this
                · walk_at "qq"
                  have := end_ en
                  rw [if_neg c6] at this
                  exact this
            · have en := go (fun h => c4 (e0.mpr (by rw [hc] at h; exact Option.some.inj h.1)))
              walk_at "qq"
              refine ⟨z, _, rfl, hint, by omega, ?_⟩
              walk_at "qq"
              refine ite_d (fun c6 => ?_) (fun c6 => ?_)
              · walk_at "qq"
                have := end_ en
                rw [if_pos c6] at this
                exact this
              · walk_at "qq"
                have := end_ en
                rw [if_neg c6] at this
                exact this
    · walk_at "qq"
      exact no (by unfold numB; rw [decide_eq_false (by omega : ¬ 1 ≤ z.cps.toList.length)]; simp) _ _ w0
abbrev nCan : List Str := ["form", "word"]
theorem scCan : FnScope nCan ["form", "word"] (defScope sCan) := ⟨rfl, rfl, rfl, by decide +kernel, rfl, by decide +kernel, by decide +kernel⟩
theorem ok_can {f : Addr} {fd : FuncData} (F : FnP K "can_stand" "can_stand" sCan [] f fd) (T : Bi mg) (Dn : Df P w K mg base CX0 1 "is_name" [] (spIsName K)) (Dmi : Df P w K mg base CX0 1 "moment_in" [] spMomIn) : FnOk P w K mg base CX0 2 f fd ["form", "word"] spCan := by
  refine fnP_ok F scCan (fun vs H Q E h => ?_) (fun cdv A outer s H vs Q E hr h => ?_)
  · obtain ⟨G, f, z, rfl, _⟩ := h
    rfl
  · obtain ⟨G, f, z, rfl, sG, hz, k⟩ := h
    have hu64 := hr.units
    refine ⟨_, (pss_cons (ps_if (pt_cmpR op_in_seq (pv 0) (pe_tup (pa_cons pe_str (pa_cons pe_str pa_nil))) (by rfl)) (pss_one (ps_ret (pe_callD Dn hr pass0 (pa_cons (pv 1) pa_nil)))) pss_nil)
        (pss_cons (ps_if (pt_cmpR (q_eq hu64) (pv 0) pe_str (nomark _)) (pss_one (ps_ret (pe_cmpR q_notN (pe_callD Dmi hr pass0 (pa_cons (pv 1) pa_nil)) pe_non (nomark _)))) pss_nil)
        (pss_one (ps_ret (pe_cmpR (q_eq hu64) (pv 1) (pv 0) (nomark _)))))), ?_⟩
    have w0 := wd_pure sG
    walk_at "qq"
    rename_i l1 G1 H1 n1 w1 s1 h1 t1
    have ei : inV (V.str f) [V.str (Str.ofString "TOOL"), V.str (Str.ofString "NAME")] = decide (f = Str.ofString "TOOL" ∨ f = Str.ofString "NAME") := by
      show (decide (_ = _) || (decide (_ = _) || false)) = _
      rw [Bool.or_false, Bool.decide_or, decide_eq_decide.mpr eq_comm, decide_eq_decide.mpr (eq_comm (a := f) (b := Str.ofString "NAME"))]
    have hz1 : ∀ y, V.str z = .str y → y.length ≤ 1000000 := fun y e => by cases e; exact hz
    rw [ei]
    refine ite_d (fun c1 => ?_) (fun c1 => ?_)
    · walk_at "qq"
      exact ret_of k (by assumption) (by unfold canB; rw [if_pos c1]; rfl)
    · walk_at "qq"
      refine ite_d (fun c2 => ?_) (fun c2 => ?_)
      · have e2 : f = Str.ofString "MOMENT" := by injection c2
        walk_at "qq"
        refine u_momIn (by assumption) hz fun G2 H2 w2 s2 t2 => ?_
        walk_at "qq"
        refine ret_of k w2 ?_
        unfold canB
        rw [if_neg c1, if_pos e2]
        cases momW z <;> rfl
      · have e2 : ¬ f = Str.ofString "MOMENT" := fun e => c2 (by rw [e])
        walk_at "qq"
        refine ret_of k (by assumption) ?_
        unfold canB
        rw [if_neg c1, if_neg e2]
        exact congrArg V.bl (decide_eq_decide.mpr ⟨fun e => by injection e, fun e => by rw [e]⟩)
abbrev nNeed : List Str := ["line", "words", "at", "forms", "k", "form"]
theorem scNeed : FnScope nNeed ["line", "words", "at", "forms"] (defScope sNeed) := ⟨rfl, rfl, rfl, by decide +kernel, rfl, by decide +kernel, by decide +kernel⟩
theorem ok_need {f : Addr} {fd : FuncData} (F : FnP K "need_forms" "need_forms" sNeed [] f fd) (T : Bi mg) (Dc : Df P w K mg base CX0 2 "can_stand" [] spCan) (ET : ErD P w K mg base "BadText" Ct (spErr2 Ct "line" "word")) :
    FnOk P w K mg base (L2.CX P w) 3 f fd ["line", "words", "at", "forms"] (spNeed K Ct) := by
  refine fnP_okX F scNeed (fun vs H Q E h => ?_) (fun cdv A outer s H vs Q E hr h => ?_)
  · obtain ⟨G, l, p, f, ws, n, rfl, _⟩ := h
    rfl
  · obtain ⟨G, l, p, f, ws, n, rfl, sG, hw, hn, hf, good, bad⟩ := h
    have hu64 := hr.units
    obtain ⟨hp, lw, lz⟩ := hw
    refine ⟨_, (pss_one (ps_for (passes_of rfl) rfl (pi_enumT (by rfl) T.enumerate (pa_cons (pv 3) pa_nil)) (pg_tup rfl (pgs_cons (pg_name (i := 4) scNeed.nd rfl (Or.inl rfl)) (pgs_cons (pg_name (i := 5) scNeed.nd rfl (Or.inl rfl)) pgs_nil))) (pss_one (ps_if (PW.pt (pw_or (pt_cmpR q_ge (pe_op q_add (pv 2) (pv 4)) (pe_callB q_len (by rfl) T.len (by decide +kernel) (pa_cons (pv 1) pa_nil)) (nomark _)) (pw_or1 (pt_not (pt_val (pe_callD Dc hr pass0 (pa_cons (pv 5) (pa_cons (pe_ix q_ix (pv 1) (pe_op q_add (pv 2) (pv 4)) (fun _ _ => rfl)) pa_nil)))))))) (pss_one (ps_raiseD rfl takesD ET hr (pa_cons (pv 0) (pa_cons (pe_op q_add (pv 2) (pv 4)) pa_nil)))) pss_nil)))), ?_⟩
    have w0 := wd_pure sG
    walk_at "qq"
    have out : ∀ (k : Nat), firstBad ws n = some k → ∀ (d : Addr) (G' H' : Hp), Wd ⟨H, G, [], []⟩ G' H' [] → G' d = some (.xd [("word", .int ((n : Int) + (k : Int))), ("line", .int l)]) → E (.ref Ct) (some d) H' := fun k hk d G' H' w' hd => retXf_of (bad k hk) w' hd
    refine for_go (walk_enumT (xs := entForms.map V.str)) (fun i σ Hx => ∃ (Gi : Hp) (y4 y5 : Option V), σ = [some (.int l), some (.ref p), some (.int n), some (.ref f), y4, y5] ∧ Wd ⟨H, G, [], []⟩ Gi Hx [] ∧ Same G Gi ∧ ∀ j, j < i → badAt ws n j = false)
      ⟨G, none, none, rfl, w0, Same.refl _, fun _ h => absurd h (Nat.not_lt_zero _)⟩ (fun i σ Hx _ ⟨Gi, _, _, _, wi, si, _⟩ => wd_sqT wi (same_sqT si hf)) ?_ ?_
    · rintro i x' σ Ha Hb hi ⟨Gi, y4, y5, rfl, wi, si, hb⟩ ⟨T1, v1, v2, rfl, hT1, rfl, e1, e2⟩
      obtain ⟨fm, hfm, rfl⟩ : ∃ fm, entForms[i]? = some fm ∧ v2 = .str fm := by
        have e2 : (entForms.map V.str)[i]? = some v2 := e2
        rw [List.getElem?_map] at e2
        cases e : entForms[i]? with
        | none => rw [e] at e2; cases e2
        | some b => rw [e] at e2; exact ⟨b, rfl, (Option.some.inj e2).symm⟩
      obtain rfl : v1 = .int (i : Nat) := (Option.some.inj e1).symm
      have hi5 : i < 5 := hi
      have cn := can_ok i hi5 fm
      have wT := wd_lay (o := .tup [.int (i : Nat), .str fm]) wi hT1
      have sT : Same Gi (upd Gi T1 (.tup [.int (i : Nat), .str fm])) := same_upd (wi.g hT1)
      have hT : upd Ha T1 (.tup [.int (i : Nat), .str fm]) T1 = some (.tup [.int (i : Nat), .str fm]) := upd_same
      generalize upd Gi T1 (.tup [.int (i : Nat), .str fm]) = GT at *
      generalize upd Ha T1 (.tup [.int (i : Nat), .str fm]) = HT at *
      have hpT := sT _ _ (si _ _ hp)
      walk_at "qq"
      refine ite_d (fun c1 => ?_) (fun c1 => ?_)
      · have c2 : ws.length ≤ n + i := by simp only [List.length_map] at c1; omega
        walk_at "qq"
        refine u_raise2 (by assumption) fun d G' H' w' s' t' hd => out i (bad_here hi5 ?_ hb) d G' H' w' hd
        unfold badAt
        rw [List.getElem?_eq_none c2]
      · have c2 : n + i < ws.length := by simp only [List.length_map] at c1; omega
        obtain ⟨z, hz⟩ : ∃ z, ws[n + i]? = some z := ⟨_, List.getElem?_eq_getElem c2⟩
        have hz2 : (ws.map V.str)[n + i]? = some (.str z) := by rw [List.getElem?_map, hz] <;> rfl
        have hix : atI (ws.map V.str) ((n : Int) + (i : Int)) = some (.str z) := by
          have := atI_nat hz2
          rw [Int.natCast_add] at this
          exact this
        have hbz : badAt ws n i = !okW i z := by
          unfold badAt
          rw [hz]
        rw [← cn z hfm] at hbz
        walk_at "qq"
        refine u_can (by assumption) (lz z (List.mem_of_getElem? hz)) fun G2 H2 w2 s2 t2 => ?_
        walk_at "qq"
        refine ite_nb (fun c3 => ?_) (fun c3 => ?_)
        · rw [c3] at hbz
          walk_at "qq"
          exact u_raise2 (by assumption) fun d G' H' w' s' t' hd => out i (bad_here hi5 hbz hb) d G' H' w' hd
        · rw [c3] at hbz
          walk_at "qq"
          refine ⟨G2, _, _, rfl, w2, si.trans (sT.trans s2), fun j hj => ?_⟩
          rcases Nat.lt_succ_iff_lt_or_eq.mp hj with h | rfl
          · exact hb j h
          · exact hbz
    · rintro σ Hc ⟨Gi, y4, y5, rfl, wi, si, hb⟩
      walk_at "qq"
      exact ret_of (good (bad_none hb)) wi rfl
abbrev nNeedE : List Str := ["line", "words", "at"]
theorem scNeedE : FnScope nNeedE ["line", "words", "at"] (defScope sNeedE) := ⟨rfl, rfl, rfl, by decide +kernel, rfl, by decide +kernel, by decide +kernel⟩
theorem ok_needE {f : Addr} {fd : FuncData} (F : FnP K "need_end" "need_end" sNeedE [] f fd) (T : Bi mg) (ET : ErD P w K mg base "BadText" Ct (spErr2 Ct "line" "word")) :
    FnOk P w K mg base (L2.CX P w) 3 f fd ["line", "words", "at"] (spNeedEnd Ct) := by
  refine fnP_okX F scNeedE (fun vs H Q E h => ?_) (fun cdv A outer s H vs Q E hr h => ?_)
  · obtain ⟨G, l, p, ws, n, rfl, _⟩ := h
    rfl
  · obtain ⟨G, l, p, ws, n, rfl, sG, hw, good, bad⟩ := h
    have hu64 := hr.units
    obtain ⟨hp, lw, lz⟩ := hw
    refine ⟨_, (pss_one (ps_if (pt_cmpR q_lt (pv 2) (pe_callB q_len (by rfl) T.len (by decide +kernel) (pa_cons (pv 1) pa_nil)) (nomark _)) (pss_one (ps_raiseD rfl takesD ET hr (pa_cons (pv 0) (pa_cons (pv 2) pa_nil)))) pss_nil)), ?_⟩
    have w0 := wd_pure sG
    walk_at "qq"
    refine ite_d (fun c1 => ?_) (fun c1 => ?_)
    · have c2 : n < ws.length := by simp only [List.length_map] at c1; omega
      walk_at "qq"
      exact u_raise2 (by assumption) fun d G' H' w' s' t' hd => retXf_of (bad c2) w' hd
    · have c2 : ws.length ≤ n := by simp only [List.length_map] at c1; omega
      walk_at "qq"
      exact ret_of (good c2) w0 rfl
abbrev nLines : List Str := ["text", "line"]
theorem scLines : FnScope nLines ["text"] (defScope sLines) := ⟨rfl, rfl, rfl, by decide +kernel, rfl, by decide +kernel, by decide +kernel⟩
theorem ok_lines {f : Addr} {fd : FuncData} (F : FnP K "lines_of" "lines_of" sLines [] f fd) (T : Bi mg) (ET : ErD P w K mg base "BadText" Ct (spErr2 Ct "line" "word")) :
    FnOk P w K mg base (L2.CX P w) 3 f fd ["text"] (spLines K Ct) := by
  refine fnP_okX F scLines (fun vs H Q E h => ?_) (fun cdv A outer s H vs Q E hr h => ?_)
  · obtain ⟨G, x, t, rfl, _⟩ := h
    rfl
  · obtain ⟨G, x, t, rfl, sG, hx, good, bad⟩ := h
    have hu64 := hr.units
    refine ⟨_, (pss_cons (ps_if (pt_not (pt_val (pe_callB call_isi (by rfl) T.isinstance (by decide +kernel) (pa_cons (pv 0) (pa_cons (pe_bltn (v := .ty "str") (by rfl) T.str (by decide +kernel) rfl) pa_nil))))) (pss_one (ps_raiseD rfl takesD ET hr (pa_cons pe_int (pa_cons pe_int pa_nil)))) pss_nil)
        (pss_one (ps_ret (pe_lc (own := [("line", 1)]) (g := gName 1) (tt := tYes) rfl scLines.nd (pi_list (pe_splitQ (pv 0) pe_str)) (blkOk_by (own := [("line", 1)]) (N := nLines) (sc := defScope sLines) (by decide +kernel)) (fun _ _ _ _ _ => (pg_name (i := 1) scLines.nd rfl (by first | exact Or.inl rfl | exact Or.inr rfl))) (fun _ _ _ _ _ => pts_nil) (fun _ _ _ _ _ => (pe_splitQ (pv 1) pe_str)))))), ?_⟩
    have w0 := wd_pure sG
    have h1 := same_ty sG.1 hx.ty
    have h2 := hx.str
    walk_at "qq"
    have no : (∀ z, x ≠ .str z) → isS x = false := fun h => by
      cases x with
      | str z => exact absurd rfl (h z)
      | _ => rfl
    by_cases hs : ∃ z, x = .str z
    · obtain ⟨z, rfl⟩ := hs
      obtain ⟨lz, good⟩ := good z rfl
      refine iteF ?_
      have bl0 : (zNl.length == 0) = false := by decide +kernel
      have bl1 : (zBlank.length == 0) = false := by decide +kernel
      have ls := split_len (x := z) (y := zNl) (by decide +kernel)
      walk_at "qq"
      refine r_split bl0 (by omega) ?_
      refine r_lay w0 (split_sz bl0 (by omega)) (by intro ps y; cases y) fun l1 G1 H1 n1 w1 s1 h1 t1 => ?_
      walk_at "qq"
      refine lc_go w1 (walk_list (xs := (Txt.split z zNl).map V.str)) (fun i acc Gy Hy => acc.length = i ∧ (0 < i → ∃ q, acc[0]? = some (.ref q) ∧ WsAt Gy q (wordsOf z))) (fun _ _ _ _ _ => ⟨rfl, fun h => absurd h (Nat.lt_irrefl 0)⟩) (fun i acc Gy Hy wy sy _ => wd_sqL wy (SqL.of (sy _ _ h1))) ?_ ?_
      · rintro Dd i acc Gi H2 x' H3 hi hl w2 s2 hD nm ⟨hlen, hacc⟩ ⟨rfl, hx'⟩
        obtain ⟨y, hy, rfl⟩ : ∃ y, (Txt.split z zNl)[i]? = some y ∧ x' = .str y := by
          rw [List.getElem?_map] at hx'
          cases e : (Txt.split z zNl)[i]? with
          | none => rw [e] at hx'; cases hx'
          | some t => rw [e] at hx'; exact ⟨t, rfl, (Option.some.inj hx').symm⟩
        have ly := split_part (x := z) (y := zNl) (by decide +kernel) (List.mem_of_getElem? hy)
        have hi6 : i ≤ 1000000 := by
          have := (List.getElem?_eq_some_iff.mp hy).1
          omega
        walk_at "qq"
        refine r_split bl1 (by omega) ?_
        refine r_lay w2 (split_sz bl1 (by omega)) (by intro ps y; cases y) fun l3 G3 H3 n3 w3 s3 h3 t3 => ?_
        walk_at "qq"
        refine ⟨by rw [List.length_append, hlen]; rfl, fun _ => ?_⟩
        cases i with
        | zero =>
          have e0 : acc = [] := List.length_eq_zero_iff.mp hlen
          subst e0
          refine ⟨l3, rfl, ?_⟩
          · have ey : wordsOf z = Txt.split y zBlank := by
              obtain ⟨p, r, e⟩ := split_cons z zNl
              rw [e] at hy
              unfold wordsOf
              rw [e]
              show Txt.split p zBlank = _
              rw [Option.some.inj hy]
            rw [ey]
            have l2 := split_len (x := y) (y := zBlank) (by decide +kernel)
            exact ⟨h3, by omega, fun u hu => by have := split_part (x := y) (y := zBlank) (by decide +kernel) hu; omega⟩
        | succ i =>
          obtain ⟨q, hq, hw⟩ := hacc (Nat.succ_pos _)
          refine ⟨q, ?_, s3 _ _ hw.1, hw.2⟩
          rw [List.getElem?_append_left (by omega)]
          exact hq
      · rintro l4 acc G3 G4 H4 hl4 w4 s4 s5 h4 ⟨hlen, hacc⟩
        walk_at "qq"
        obtain ⟨p, r, e⟩ := split_cons z zNl
        obtain ⟨q, hq, hw⟩ := hacc (by rw [List.length_map, e]; exact Nat.succ_pos _)
        refine ret_of good w4 ⟨l4, rfl, _, q, h4, by rw [hlen, List.length_map], hq, ?_, hw.2⟩
        exact s5 _ _ hw.1
    · have hs2 : ∀ z, x ≠ .str z := fun z e => hs ⟨z, e⟩
      rw [no hs2]
      refine iteT ?_
      walk_at "qq"
      exact u_raise2 (by assumption) fun d G' H' w' s' t' hd => retXf_of (bad hs2) w' hd
abbrev nOneL : List Str := ["lines", "at"]
theorem scOneL : FnScope nOneL ["lines", "at"] (defScope sOneL) := ⟨rfl, rfl, rfl, by decide +kernel, rfl, by decide +kernel, by decide +kernel⟩
theorem ok_oneL {f : Addr} {fd : FuncData} (F : FnP K "need_one_line" "need_one_line" sOneL [] f fd) (T : Bi mg) (De : Df P w K mg base (L2.CX P w) 3 "need_end" [] (spNeedEnd Ct)) (ET : ErD P w K mg base "BadText" Ct (spErr2 Ct "line" "word")) :
    FnOk P w K mg base (L2.CX P w) 4 f fd ["lines", "at"] (spOneLine Ct) := by
  refine fnP_okX F scOneL (fun vs H Q E h => ?_) (fun cdv A outer s H vs Q E hr h => ?_)
  · obtain ⟨G, p, z, n, rfl, _⟩ := h
    rfl
  · obtain ⟨G, p, z, n, rfl, sG, hl, lz, good, bad1, bad2⟩ := h
    have hu64 := hr.units
    obtain ⟨vs, q, hp, hlen, h0, hw⟩ := hl
    have passQ : Passes (L2.CX P w) (cxOf (L2.CX P w) P w K mg base nOneL "need_one_line" (defScope sOneL) f cdv A outer s H E) E := passD
    refine ⟨_, (pss_cons (ps_expr (pe_callD De hr passQ (pa_cons pe_int (pa_cons (pe_ix q_ix (pv 0) pe_int (fun _ _ => rfl)) (pa_cons (pv 1) pa_nil)))))
        (pss_one (ps_if (pt_cmpR q_gt (pe_callB q_len (by rfl) T.len (by decide +kernel) (pa_cons (pv 0) pa_nil)) pe_int (nomark _)) (pss_one (ps_raiseD rfl takesD ET hr (pa_cons pe_int (pa_cons pe_int pa_nil)))) pss_nil))), ?_⟩
    have w0 := wd_pure sG
    have hix : atI vs 0 = some (.ref q) := atI_nat (j := 0) h0
    walk_at "qq"
    refine u_needEnd w0 hw (fun c1 G1 H1 w1 s1 t1 => ?_) (fun c1 d G' H' w' s' t' hd => retXf_of (bad1 c1) w' hd)
    walk_at "qq"
    refine ite_d (fun c2 => ?_) (fun c2 => ?_)
    · walk_at "qq"
      exact u_raise2 (by assumption) fun d G' H' w' s' t' hd => retXf_of (bad2 (by omega) (by omega)) w' hd
    · walk_at "qq"
      exact ret_of (good (by omega) (by omega)) w1 rfl
abbrev nEnA : List Str := ["words", "at"]
theorem scEnA : FnScope nEnA ["words", "at"] (defScope sEnA) := ⟨rfl, rfl, rfl, by decide +kernel, rfl, by decide +kernel, by decide +kernel⟩
theorem ok_enA {f : Addr} {fd : FuncData} (F : FnP K "entry_at" "entry_at" sEnA [] f fd) (T : Bi mg) {ar : Addr} (hForms : Gc mg "ENTRY_FORMS" (.ref ar)) (hfT : ∀ H, SqT K H ar (entForms.map V.str)) (Df0 : Df P w K mg base (L2.CX P w) 3 "need_forms" [] (spNeed K Ct)) (Dmi : Df P w K mg base CX0 1 "moment_in" [] spMomIn) :
    FnOk P w K mg base (L2.CX P w) 4 f fd ["words", "at"] (spEntryAt Ct) := by
  refine fnP_okX F scEnA (fun vs H Q E h => ?_) (fun cdv A outer s H vs Q E hr h => ?_)
  · obtain ⟨G, p, ws, n, rfl, _⟩ := h
    rfl
  · obtain ⟨G, p, ws, n, rfl, sG, hw, hn, good, bad⟩ := h
    have hu64 := hr.units
    have passQ : Passes (L2.CX P w) (cxOf (L2.CX P w) P w K mg base nEnA "entry_at" (defScope sEnA) f cdv A outer s H E) E := passD
    refine ⟨_, (pss_cons (ps_expr (pe_callD Df0 hr passQ (pa_cons pe_int (pa_cons (pv 0) (pa_cons (pv 1) (pa_cons (pe_gc hForms) pa_nil))))))
        (pss_one (ps_ret (pe_tup (pa_cons (pe_ix q_ix (pv 0) (pe_op q_add (pv 1) pe_int) (fun _ _ => rfl)) (pa_cons (pe_callD Dmi hr pass0 (pa_cons (pe_ix q_ix (pv 0) (pe_op q_add (pv 1) pe_int) (fun _ _ => rfl)) pa_nil)) (pa_cons (pe_ix q_ix (pv 0) (pe_op q_add (pv 1) pe_int) (fun _ _ => rfl)) pa_nil))))))), ?_⟩
    have w0 := wd_pure sG
    walk_at "qq"
    refine u_need w0 hw (by omega) (hfT _) (fun c1 G1 H1 w1 s1 t1 => ?_) (fun j hj d G' H' w' s' t' hd => retXf_of (bad j hj) w' hd)
    have got : ∀ k, k < 5 → ∃ z, ws[n + k]? = some z ∧ atI (ws.map V.str) ((n : Int) + (k : Int)) = some (.str z) ∧ z.length ≤ 1000000 := fun k hk => by
      obtain ⟨z, hz, _⟩ := none_bad c1 hk
      refine ⟨z, hz, ?_, hw.2.2 z (List.mem_of_getElem? hz)⟩
      have hz2 : (ws.map V.str)[n + k]? = some (.str z) := by rw [List.getElem?_map, hz] <;> rfl
      have := atI_nat hz2
      rw [Int.natCast_add] at this
      exact this
    obtain ⟨t, ht, ht2, _⟩ := got 1 (by decide)
    obtain ⟨m, hm, hm2, lm⟩ := got 2 (by decide)
    obtain ⟨b, hb, hb2, _⟩ := got 4 (by decide)
    have hp := s1 _ _ hw.1
    walk_at "qq"
    refine u_momIn w1 lm fun G2 H2 w2 s2 t2 => ?_
    have hp2 := s2 _ _ hp
    walk_at "qq"
    exact ret_of (good c1 t m b ht hm hb) (by assumption) ⟨_, rfl, by walk_at "atg"⟩
end
section
variable {P : Program} {w : World} {K : PySem.W.Frag} {mg : Str → Option Value} {base : Heap} {C Ct : Addr}
abbrev nEnInit : List Str := ["self", "tool", "moment", "by"]
theorem scEnInit : FnScope nEnInit ["self", "tool", "moment", "by"] (defScope sEnInit) := ⟨rfl, rfl, rfl, by decide +kernel, rfl, by decide +kernel, by decide +kernel⟩
theorem ok_enInit {f : Addr} {fd : FuncData} (F : FnP K "__init__" "Entry.__init__" sEnInit [] f fd) (T : Bi mg) (S : EnC K C) (Dn : Df P w K mg base CX0 1 "is_name" [] (spIsName K)) (Dm : Df P w K mg base CX0 2 "is_moment" [.int 0] (spMoment K)) :
    FnOk P w K mg base CX0 3 f fd ["self", "tool", "moment", "by"] (spEntInit C) := by
  refine fnP_ok F scEnInit (fun vs H Q E h => ?_) (fun cdv A outer s H vs Q E hr h => ?_)
  · obtain ⟨G, x, dx, t, i, b, rfl, _⟩ := h
    rfl
  · obtain ⟨G, x, dx, t, i, b, rfl, sG, gx, hx, hright, k⟩ := h
    have hu64 := hr.units
    have cc := S.c
    have n1 := S.n1
    have n2 := S.n2
    have n3 := S.n3
    have n4 := S.n4
    refine ⟨_, (pss_cons (ps_if (pt_not (pt_val (pe_callD Dn hr pass0 (pa_cons (pv 1) pa_nil)))) (pss_one ps_never) pss_nil)
        (pss_cons (ps_if (pt_not (pt_val (pe_callD Dm hr pass0 (pa_cons (pv 2) pa_nil)))) (pss_one ps_never) pss_nil)
        (pss_cons (ps_if (pt_not (pt_val (pe_callD Dn hr pass0 (pa_cons (pv 3) pa_nil)))) (pss_one ps_never) pss_nil)
        (pss_cons (ps_fld (pv 0) (pv 1) rfl)
        (pss_cons (ps_fld (pv 0) (pv 2) rfl)
        (pss_cons (ps_fld (pv 0) (pv 3) rfl)
        (pss_one (ps_fld (pv 0) (pe_tup (pa_cons (pv 1) (pa_cons (pv 2) (pa_cons (pv 3) pa_nil)))) rfl)))))))), ?_⟩
    have w0 : Wd ⟨H, G, [x], []⟩ G H [x] := wd_start sG (fun a h => by rw [List.mem_singleton.mp h]; exact ⟨gx, _, hx, rfl⟩) (by simp)
    have hz1 : ∀ y, V.str t = .str y → y.length ≤ 1000000 := fun y e => by cases e; have := nmOk_len hright.1; omega
    have hz2 : ∀ y, V.str b = .str y → y.length ≤ 1000000 := fun y e => by cases e; have := nmOk_len hright.2.1; omega
    have e1 : nameV (.str t) = true := hright.1
    have e2 : nameV (.str b) = true := hright.2.1
    walk_at "qq"
    rw [e1]
    walk_at "qq"
    rw [hright.mom]
    walk_at "qq"
    rw [e2]
    walk_at "qq"
    rename_i H5 w5 h5 b5
    refine k _ H5 _ (fun a o hn h => w5.kp a o (by simpa using hn) h) w5.gh w5.gr w5.fr ?_ h5
    walk_at "atg"
abbrev nEnEq : List Str := ["self", "other"]
theorem scEnEq : FnScope nEnEq ["self", "other"] (defScope sEnEq) := ⟨rfl, rfl, rfl, by decide +kernel, rfl, by decide +kernel, by decide +kernel⟩
theorem ok_enEq {f : Addr} {fd : FuncData} (F : FnP K "__eq__" "Entry.__eq__" sEnEq [] f fd) (T : Bi mg) (S : EnC K C) (hEnt : Gc mg "Entry" (.ref C)) : FnOk P w K mg base CX0 1 f fd ["self", "other"] (spEntEq C) := by
  refine fnP_ok F scEnEq (fun vs H Q E h => ?_) (fun cdv A outer s H vs Q E hr h => ?_)
  · obtain ⟨G, a, c, t, i, b, rfl, _⟩ := h
    rfl
  · obtain ⟨G, a, c, t, i, b, rfl, sG, h1, h2, k⟩ := h
    have hu64 := hr.units
    have cc := S.c
    have n4 := S.n4
    have ht1 := same_ty sG.1 (S.ty h2)
    have hk := S.me
    obtain ⟨hr1, dx, fc, ha, hf⟩ := h1
    obtain ⟨hr2, dx', fc', hc, hf'⟩ := h2
    refine ⟨_, (pss_one (ps_ret (pe_and (pe_callB call_isi (by rfl) T.isinstance (by decide +kernel) (pa_cons (pv 1) (pa_cons (pe_gc hEnt) pa_nil))) (pe_one (pe_cmpR (q_eq hu64) (pe_fld (pv 0) rfl) (pe_fld (pv 1) rfl) (nomark _)))))), ?_⟩
    have w0 := wd_pure sG
    have d1 : Dp K H (.ref fc) (faceE t i b) := by unfold faceE; walk_at "dp"
    have d2 : Dp K H (.ref fc') (faceE t i b) := by unfold faceE; walk_at "dp"
    walk_at "qq"
    exact r_eqD d1 d2 (shaped_faceE hr1) (shaped_faceE hr2) (ret_of k w0 (by rw [eq_faceE]))
abbrev nEnStr : List Str := ["self"]
theorem scEnStr : FnScope nEnStr ["self"] (defScope sEnStr) := ⟨rfl, rfl, rfl, by decide +kernel, rfl, by decide +kernel, by decide +kernel⟩
theorem ok_enStr {f : Addr} {fd : FuncData} (F : FnP K "__str__" "Entry.__str__" sEnStr [] f fd) (S : EnC K C) : FnOk P w K mg base CX0 1 f fd ["self"] (spEntStr C) := by
  refine fnP_ok F scEnStr (fun vs H Q E h => ?_) (fun cdv A outer s H vs Q E hr h => ?_)
  · obtain ⟨G, a, t, i, b, rfl, _⟩ := h
    rfl
  · obtain ⟨G, a, t, i, b, rfl, sG, ⟨hr1, dx, fc, ha, hf⟩, k⟩ := h
    have hu64 := hr.units
    have cc := S.c
    have n1 := S.n1
    have n2 := S.n2
    have n3 := S.n3
    refine ⟨_, (pss_one (ps_ret (pe_joined (PJ.cons pe_str (PJ.cons (pe_fmt (pe_fld (pv 0) rfl)) (PJ.cons pe_str (PJ.cons (pe_fmt (pe_fld (pv 0) rfl)) (PJ.cons pe_str (PJ.cons (pe_fmt (pe_fld (pv 0) rfl)) PJ.nil))))))))), ?_⟩
    have w0 := wd_pure sG
    have l0 := nmOk_len hr1.1
    have l1 := nmOk_len hr1.2.1
    have l2 := lenZ hr1.2.2.1 hr1.2.2.2
    have l3 := logZ hr1.2.2.1 hr1.2.2.2
    have e0 : Str.empty.length = 0 := rfl
    have e1 : (Str.ofString " ").length = 1 := rfl
    have e2 : (Str.ofString "check ").length = 6 := rfl
    have e3 : (Str.ofString " by ").length = 4 := rfl
    walk_at "qq"
    exact ret_of k w0 rfl
end
section
variable {P : Program} {w : World} {K : PySem.W.Frag} {mg : Str → Option Value} {base : Heap} {C Ct : Addr}
abbrev nPlAt : List Str := ["words", "at", "deep", "parts", "passed", "middle", "failed", "end"]
theorem scPlAt : FnScope nPlAt ["words", "at", "deep"] (defScope sPlAt) := ⟨rfl, rfl, rfl, by decide +kernel, rfl, by decide +kernel, by decide +kernel⟩
theorem plAt_len (i : Nat) : ∀ vs H Q E, spPlanAt Ct i vs H Q E → vs.length = ["words", "at", "deep"].length := fun vs H Q E h => by
  cases i with
  | zero => exact h.elim
  | succ d =>
    obtain ⟨G, p, ws, n, rfl, _⟩ := h
    rfl
theorem ok_planAt0 {f : Addr} {fd : FuncData} (F : FnP K "plan_at" "plan_at" sPlAt [] f fd) : FnOk P w K mg base (L2.CX P w) 4 f fd ["words", "at", "deep"] (spPlanAt Ct 0) :=
  fnP_okX F scPlAt (plAt_len 0) fun cdv A outer s H vs Q E hr h => h.elim
theorem ok_planAt {kb d1 : Nat} {f : Addr} {fd : FuncData} (F : FnP K "plan_at" "plan_at" sPlAt [] f fd) (T : Bi mg) (hkb : 4 ≤ kb) {ar : Addr} (hForms : Gc mg "ENTRY_FORMS" (.ref ar)) (hfT : ∀ H, SqT K H ar (entForms.map V.str)) (hMost : Gc mg "MOST_CHECKS" (.int 4))
    (Da : Df P w K mg base (L2.CX P w) 4 "entry_at" [] (spEntryAt Ct)) (Db : Df P w K mg base (L2.CX P w) kb "branch_at" [] (spBranch Ct d1)) (ET : ErD P w K mg base "BadText" Ct (spErr2 Ct "line" "word")) :
    FnOk P w K mg base (L2.CX P w) (kb + 1) f fd ["words", "at", "deep"] (spPlanAt Ct (d1 + 1)) := by
  refine fnP_okX F scPlAt (plAt_len (d1 + 1)) (fun cdv A outer s H vs Q E hr h => ?_)
  obtain ⟨G, p, ws, n, rfl, hd, sG, hw, hl, hn, good, bad⟩ := h
  have hu64 := hr.units
  have hr4 := hr.mono hkb
  have passQ : Passes (L2.CX P w) (cxOf (L2.CX P w) P w K mg base nPlAt "plan_at" (defScope sPlAt) f cdv A outer s H E) E := passD
  refine ⟨_, (pss_cons (ps_if (PW.pt (pw_and (pt_cmpR q_lt (pv 1) (pe_callB q_len (by rfl) T.len (by decide +kernel) (pa_cons (pv 0) pa_nil)) (nomark _)) (pw_and1 (pt_cmpR (q_eq hu64) (pe_ix q_ix (pv 0) (pv 1) (fun _ _ => rfl)) pe_str (nomark _))))) (pss_one (ps_ret (pe_tup (pa_cons (pe_tup pa_nil) (pa_cons (pe_op q_add (pv 1) pe_int) pa_nil))))) pss_nil)
        (pss_cons (ps_if (PW.pt (pw_and (pt_cmpR q_lt (pv 1) (pe_callB q_len (by rfl) T.len (by decide +kernel) (pa_cons (pv 0) pa_nil)) (nomark _)) (pw_and1 (pt_cmpR (q_eq hu64) (pv 2) (pe_gc hMost) (nomark _))))) (pss_one (ps_raiseD rfl takesD ET hr4 (pa_cons pe_int (pa_cons (pv 1) pa_nil)))) pss_nil)
        (pss_cons (ps_set (i := 3) scPlAt.nd rfl (Or.inl rfl) (pe_callD Da hr4 passQ (pa_cons (pv 0) (pa_cons (pv 1) pa_nil))))
        (pss_cons (ps_asg (pe_callD Db hr passQ (pa_cons (pv 0) (pa_cons (pe_op q_add (pv 1) (pe_callB q_len (by rfl) T.len (by decide +kernel) (pa_cons (pe_gc hForms) pa_nil))) (pa_cons (pe_op q_add (pv 2) pe_int) (pa_cons pe_bl pa_nil)))) (hj := Nat.le_refl _)) (pg_tup rfl (pgs_cons (pg_name (i := 4) scPlAt.nd rfl (Or.inl rfl)) (pgs_cons (pg_name (i := 5) scPlAt.nd rfl (Or.inl rfl)) pgs_nil))))
        (pss_cons (ps_asg (pe_callD Db hr passQ (pa_cons (pv 0) (pa_cons (pv 5) (pa_cons (pe_op q_add (pv 2) pe_int) (pa_cons (pe_cmpR q_notN (pv 4) pe_non (nomark _)) pa_nil)))) (hj := Nat.le_refl _)) (pg_tup rfl (pgs_cons (pg_name (i := 6) scPlAt.nd rfl (Or.inl rfl)) (pgs_cons (pg_name (i := 7) scPlAt.nd rfl (Or.inl rfl)) pgs_nil))))
        (pss_one (ps_ret (pe_tup (pa_cons (pe_tup (pa_cons (pv 3) (pa_cons (pv 4) (pa_cons (pv 6) pa_nil)))) (pa_cons (pv 7) pa_nil)))))))))), ?_⟩
  have w0 := wd_pure sG
  have hfs := hfT H
  have hwp := hw.1
  walk_at "qq"
  refine ite_d (fun c1 => ?_) (fun c1 => ?_)
  · have c1 : n < ws.length := by simp only [List.length_map] at c1; omega
    obtain ⟨z, hz⟩ : ∃ z, ws[n]? = some z := ⟨_, List.getElem?_eq_getElem c1⟩
    have hix := get_ix hz
    walk_at "qq"
    refine ite_d (fun c2 => ?_) (fun c2 => ?_)
    · have c2 : ws[n]? = some zDone := by rw [hz]; injection c2 with c2; rw [c2]
      have e1 : rdP ws d1 n = .inr (.done, n + 1) := by
        cases d1 with
        | zero => unfold rdP; exact if_pos c2
        | succ d => unfold rdP; exact if_pos c2
      walk_at "qq"
      rename_i l1 G1 H1 n1 w1 s1 h1 t1 l2 G2 H2 n2 w2 s2 h2 t2
      refine ret_of (good _ _ e1) w2 ⟨l2, .ref l1, rfl, ?_, l1, rfl, s2 _ _ h1⟩
      rw [h2]
      rfl
    · have nd : ¬ ws[n]? = some zDone := fun q => c2 (by rw [hz] at q; rw [Option.some.inj q])
      walk_at "qq"
      refine ite_d (fun _ => ?_) (fun q => absurd (by simp only [List.length_map]; omega) q)
      walk_at "qq"
      cases d1 with
      | zero =>
        refine ite_d (fun _ => ?_) (fun q => absurd rfl q)
        have e1 : rdP ws 0 n = .inl n := by unfold rdP; exact if_neg nd
        walk_at "qq"
        exact u_raise2 (by assumption) fun d G' H' w' s' t' hd => retXf_of (bad _ e1) w' hd
      | succ d =>
        refine ite_d (fun q => ?_) (fun _ => ?_)
        · exfalso
          have : (4 : Int) - ((d + 1 : Nat) : Int) = 4 := by injection q
          omega
        have eR : rdP ws (d + 1) n = match firstBad ws n with
            | some k => .inl (n + k)
            | none => match brR (rdP ws d) ws (n + 5) true with
              | .inl k => .inl k
              | .inr (p, m) => match brR (rdP ws d) ws m (!p.isNo) with
                | .inl k => .inl k
                | .inr (f, e) => .inr (.ask (ckAt ws n) p f, e) := by
          conv => lhs; unfold rdP
          exact if_neg nd
        walk_at "qq"
        refine u_entryAt w0 hw (by omega) (fun fb t m b ht hm hb pa G1 H1 w1 s1 t1 h1 => ?_) (fun j hj d' G' H' w' s' t' hd' => retXf_of (bad (n + j) (by rw [eR, hj])) w' (by rw [Int.natCast_add]; exact hd'))
        obtain ⟨k1, k2, k3, k4, ⟨m', k5, k6⟩, k7⟩ := ck_at fb
        rw [fb] at eR
        simp only at eR
        have hw1 : WsAt G1 p ws := ⟨s1 _ _ hw.1, hw.2⟩
        have hpa : G1 pa = some (.tup [.str (ckAt ws n).1, .int (ckAt ws n).2.1, .str (ckAt ws n).2.2]) := by
          rw [k4] at ht
          rw [k5] at hm
          rw [k7] at hb
          cases ht
          cases hm
          cases hb
          rw [k6] at h1
          exact h1
        have hfs1 := hfT H1
        walk_at "qq"
        refine u_branch (n := n + 5) (d := d) w1 hw1 (by omega) (by omega) hl k1 (fun tp m2 e2 q2 tv2 G2 H2 w2 s2 t2 h2 rd2 => ?_) (fun k e2 d' G' H' w' s' t' hd' => retXf_of (bad k (by rw [eR, e2])) w' hd')
        rw [e2] at eR
        simp only at eR
        obtain ⟨⟨_, m3, _⟩, _⟩ := brR_ok _ (rdP_ok ws d) e2
        walk_at "qq"
        rw [rd2.non]
        have hw2 : WsAt G2 p ws := ⟨s2 _ _ hw1.1, hw.2⟩
        refine u_branch (n := m2) (d := d) w2 hw2 (by omega) (by omega) hl m3 (fun tf n3 e3 q3 tv3 G3 H3 w3 s3 t3 h3 rd3 => ?_) (fun k e3 d' G' H' w' s' t' hd' => retXf_of (bad k (by rw [eR, e3])) w' hd')
        rw [e3] at eR
        simp only at eR
        walk_at "qq"
        rename_i l4 G4 H4 n4 w4 s4 h4 t4 l5 G5 H5 n5 w5 s5 h5 t5
        refine ret_of (good _ _ eR) w5 ⟨l5, .ref l4, rfl, h5, l4, pa, tv2, tv3, rfl, s5 _ _ h4, ?_, rd2.same (s3.trans (s4.trans s5)), rd3.same (s4.trans s5)⟩
        exact (s2.trans (s3.trans (s4.trans s5))) _ _ hpa
  · have c1 : ws.length ≤ n := by simp only [List.length_map] at c1; omega
    have nd : ¬ ws[n]? = some zDone := fun q => by rw [List.getElem?_eq_none c1] at q; cases q
    have fb : firstBad ws n = some 0 := bad_here (by decide) (by unfold badAt; rw [List.getElem?_eq_none (by omega)]) fun j hj => absurd hj (Nat.not_lt_zero _)
    have e1 : rdP ws d1 n = .inl n := by
      cases d1 with
      | zero => unfold rdP; exact if_neg nd
      | succ d => unfold rdP; rw [if_neg nd, fb] <;> rfl
    walk_at "qq"
    refine ite_d (fun q => absurd q (by simp only [List.length_map]; omega)) (fun _ => ?_)
    walk_at "qq"
    refine u_entryAt w0 hw (by omega) (fun fb' => by rw [fb] at fb'; cases fb') (fun j hj d' G' H' w' s' t' hd' => ?_)
    rw [fb] at hj
    cases hj
    exact retXf_of (bad _ e1) w' (by rw [show ((n : Int) + ((0 : Nat) : Int)) = (n : Int) by omega] at hd'; exact hd')
abbrev nBrAt : List Str := ["words", "at", "deep", "may_lack"]
theorem scBrAt : FnScope nBrAt ["words", "at", "deep", "may_lack"] (defScope sBrAt) := ⟨rfl, rfl, rfl, by decide +kernel, rfl, by decide +kernel, by decide +kernel⟩
theorem ok_branch {kp i : Nat} {f : Addr} {fd : FuncData} (F : FnP K "branch_at" "branch_at" sBrAt [] f fd) (T : Bi mg) (Dp : Df P w K mg base (L2.CX P w) kp "plan_at" [] (spPlanAt Ct i)) :
    FnOk P w K mg base (L2.CX P w) (kp + 1) f fd ["words", "at", "deep", "may_lack"] (spBranch Ct i) := by
  refine fnP_okX F scBrAt (fun vs H Q E h => ?_) (fun cdv A outer s H vs Q E hr h => ?_)
  · cases i with
    | zero => exact h.elim
    | succ d =>
      obtain ⟨G, p, ws, n, may, rfl, _⟩ := h
      rfl
  · cases i with
    | zero => exact h.elim
    | succ d =>
      obtain ⟨G, p, ws, n, may, rfl, hd, sG, hw, hl, hn, good, bad⟩ := h
      have hu64 := hr.units
      have passQ : Passes (L2.CX P w) (cxOf (L2.CX P w) P w K mg base nBrAt "branch_at" (defScope sBrAt) f cdv A outer s H E) E := passD
      refine ⟨_, (pss_cons (ps_if (PW.pt (pw_and (pt_val (pv 3)) (pw_and (pt_cmpR q_lt (pv 1) (pe_callB q_len (by rfl) T.len (by decide +kernel) (pa_cons (pv 0) pa_nil)) (nomark _)) (pw_and1 (pt_cmpR (q_eq hu64) (pe_ix q_ix (pv 0) (pv 1) (fun _ _ => rfl)) pe_str (nomark _)))))) (pss_one (ps_ret (pe_tup (pa_cons pe_non (pa_cons (pe_op q_add (pv 1) pe_int) pa_nil))))) pss_nil)
        (pss_one (ps_ret (pe_callD Dp hr passQ (pa_cons (pv 0) (pa_cons (pv 1) (pa_cons (pv 2) pa_nil))) (hj := Nat.le_refl _))))), ?_⟩
      have w0 := wd_pure sG
      have hwp := hw.1
      have go : ¬ (may = true ∧ ws[n]? = some zNone) → spPlanAt Ct (d + 1) [.ref p, .int (n : Int), .int (4 - (d : Int))] H Q E := fun c => by
        have e1 : brR (rdP ws d) ws n may = rdP ws d n := if_neg c
        rw [e1] at good bad
        exact ⟨G, p, ws, n, rfl, hd, sG, hw, hl, hn, good, bad⟩
      walk_at "qq"
      cases may with
      | false =>
        refine iteF ?_
        walk_at "qq"
        exact go (fun c => by cases c.1)
      | true =>
        refine iteT ?_
        walk_at "qq"
        refine ite_d (fun c1 => ?_) (fun c1 => ?_)
        · have c1 : n < ws.length := by simp only [List.length_map] at c1; omega
          obtain ⟨z, hz⟩ : ∃ z, ws[n]? = some z := ⟨_, List.getElem?_eq_getElem c1⟩
          have hix := get_ix hz
          walk_at "qq"
          refine ite_d (fun c2 => ?_) (fun c2 => ?_)
          · have c2 : ws[n]? = some zNone := by rw [hz]; injection c2 with c2; rw [c2]
            have e1 : brR (rdP ws d) ws n true = .inr (.no, n + 1) := if_pos ⟨rfl, c2⟩
            walk_at "qq"
            rename_i l1 G1 H1 n1 w1 s1 h1 t1
            exact ret_of (good _ _ e1) w1 ⟨l1, .non, rfl, by rw [h1]; rfl, rfl⟩
          · walk_at "qq"
            exact go (fun c => c2 (by have := c.2; rw [hz] at this; rw [Option.some.inj this]))
        · walk_at "qq"
          exact go (fun c => by
            have c1 : ws.length ≤ n := by simp only [List.length_map] at c1; omega
            have := c.2
            rw [List.getElem?_eq_none c1] at this
            cases this)
abbrev nPlTree : List Str := ["text", "lines", "tree", "end"]
theorem scPlTree : FnScope nPlTree ["text"] (defScope sPlTree) := ⟨rfl, rfl, rfl, by decide +kernel, rfl, by decide +kernel, by decide +kernel⟩
theorem ok_planTree {f : Addr} {fd : FuncData} (F : FnP K "plan_tree" "plan_tree" sPlTree [] f fd) (T : Bi mg) (Dl : Df P w K mg base (L2.CX P w) 3 "lines_of" [] (spLines K Ct)) (Dp : Df P w K mg base (L2.CX P w) 14 "plan_at" [] (spPlanAt Ct 5))
    (Do : Df P w K mg base (L2.CX P w) 4 "need_one_line" [] (spOneLine Ct)) : FnOk P w K mg base (L2.CX P w) 15 f fd ["text"] (spPlanTree K Ct) := by
  refine fnP_okX F scPlTree (fun vs H Q E h => ?_) (fun cdv A outer s H vs Q E hr h => ?_)
  · obtain ⟨G, x, u, rfl, _⟩ := h
    rfl
  · obtain ⟨G, x, u, rfl, sG, hx, hz, good, bad⟩ := h
    have hu64 := hr.units
    have passQ : Passes (L2.CX P w) (cxOf (L2.CX P w) P w K mg base nPlTree "plan_tree" (defScope sPlTree) f cdv A outer s H E) E := passD
    refine ⟨_, (pss_cons (ps_set (i := 1) scPlTree.nd rfl (Or.inl rfl) (pe_callD Dl hr passQ (pa_cons (pv 0) pa_nil)))
        (pss_cons (ps_asg (pe_callD Dp hr passQ (pa_cons (pe_ix q_ix (pv 1) pe_int (fun _ _ => rfl)) (pa_cons pe_int (pa_cons pe_int pa_nil)))) (pg_tup rfl (pgs_cons (pg_name (i := 2) scPlTree.nd rfl (Or.inl rfl)) (pgs_cons (pg_name (i := 3) scPlTree.nd rfl (Or.inl rfl)) pgs_nil))))
        (pss_cons (ps_expr (pe_callD Do hr passQ (pa_cons (pv 1) (pa_cons (pv 3) pa_nil))))
        (pss_one (ps_ret (pv 2)))))), ?_⟩
    have w0 := wd_pure sG
    walk_at "qq"
    refine u_lines w0 hx (fun z e => Nat.le_trans (hz z e) (by decide)) (fun z e p G1 H1 w1 s1 t1 hl => ?_) (fun hs d G' H' w' s' t' hd => retXf_of (bad 0 0 ?_) w' hd)
    · subst e
      have lz := hz z rfl
      obtain ⟨vs, q, hp, hlen, h0, hw⟩ := id hl
      have hix : atI vs 0 = some (.ref q) := atI_nat (j := 0) h0
      have lw : (wordsOf z).length ≤ 100000 := by
        obtain ⟨p0, r0, es⟩ := split_cons z zNl
        have ew : wordsOf z = Txt.split p0 zBlank := by unfold wordsOf; rw [es]; rfl
        have lp0 := split_part (x := z) (y := zNl) (by decide +kernel) (show p0 ∈ Txt.split z zNl by rw [es]; exact List.mem_cons_self)
        have lnw := split_len (x := p0) (y := zBlank) (by decide +kernel)
        rw [ew]
        omega
      walk_at "qq"
      refine u_planAt (n := 0) (d := 4) w1 hw (by decide) (by decide) lw (Nat.zero_le _) (fun t n' e1 q2 tv G2 H2 w2 s2 t2 h2 rd2 => ?_) (fun k e1 d G' H' w' s' t' hd => retXf_of (bad 0 (k : Int) ?_) w' hd)
      · walk_at "qq"
        refine u_oneLine (n := n') w2 (hl.same s2) (by omega) (fun c2 c3 G3 H3 w3 s3 t3 => ?_) (fun c2 d G' H' w' s' t' hd => retXf_of (bad 0 (n' : Int) ?_) w' hd) (fun c2 c3 d G' H' w' s' t' hd => retXf_of (bad 1 0 ?_) w' hd)
        · walk_at "qq"
          refine ret_of (good t ?_) w3 (rd2.same s3)
          show pgR z = _
          unfold pgR
          rw [e1]
          simp only
          rw [if_neg c2, if_neg c3]
        · show pgR z = _
          unfold pgR
          rw [e1]
          simp only
          rw [if_pos c2]
        · show pgR z = _
          unfold pgR
          rw [e1]
          simp only
          rw [if_neg c2, if_pos c3]
      · show pgR z = _
        unfold pgR
        rw [e1]
    · cases x with
      | str z => exact absurd rfl (hs z)
      | _ => rfl
end
section
variable {P : Program} {w : World} {K : PySem.W.Frag} {mg : Str → Option Value} {base : Heap} {C Ce Ct : Addr}
abbrev nPlInit : List Str := ["self", "entry", "passed", "failed", "branch", "one"]
theorem scPlInit : FnScope nPlInit ["self", "entry", "passed", "failed"] (defScope sPlInit) := ⟨rfl, rfl, rfl, by decide +kernel, rfl, by decide +kernel, by decide +kernel⟩
abbrev fs3 (v1 v2 v3 : V) : List (Str × V) := [("entry", v1), ("own_passed", v2), ("own_failed", v3)]
abbrev fs4 (v1 v2 v3 : V) (b : Addr) : List (Str × V) := [("entry", v1), ("own_passed", v2), ("own_failed", v3), ("below", .ref b)]
theorem ok_plInit {f : Addr} {fd : FuncData} (F : FnP K "__init__" "Plan.__init__" sPlInit [] f fd) (S : PlC K C) : FnOk P w K mg base CX0 1 f fd ["self", "entry", "passed", "failed"] (spPlInit C Ce) := by
  refine fnP_ok F scPlInit (fun vs H Q E h => ?_) (fun cdv A outer s H vs Q E hr h => ?_)
  · obtain ⟨G, x, dx, v1, v2, v3, p, f, rfl, _⟩ := h
    rfl
  · obtain ⟨G, x, dx, v1, v2, v3, p, ff, rfl, sG, gx, hx, h1, h2, h3, z1, z2, k⟩ := h
    have hu64 := hr.units
    have cc := S.c
    have n1 := S.n1
    have n2 := S.n2
    have n3 := S.n3
    have n4 := S.n4
    have n5 := S.n5
    refine ⟨_, (pss_cons (ps_fld (pv 0) (pv 1) rfl)
        (pss_cons (ps_fld (pv 0) (pv 2) rfl)
        (pss_cons (ps_fld (pv 0) (pv 3) rfl)
        (pss_cons (ps_fld (pv 0) (pe_lc (own := [("branch", 4)]) (g := gName 4) rfl scPlInit.nd (pi_tup (pe_tup (pa_cons (pv 2) (pa_cons (pv 3) pa_nil)))) (blkOk_by (own := [("branch", 4)]) (N := nPlInit) (sc := defScope sPlInit) (by decide +kernel)) (fun _ _ _ _ _ => (pg_name (i := 4) scPlInit.nd rfl (by first | exact Or.inl rfl | exact Or.inr rfl))) (fun _ _ _ _ _ => (pts_one (pt_cmpR q_notN (pv 4) pe_non (nomark _)))) (fun _ _ _ _ _ => (pv 4))) rfl)
        (pss_one (ps_fld (pv 0) (pe_op q_add (pe_lc (own := [("one", 5)]) (g := gName 5) rfl scPlInit.nd (pi_list (pe_lst (pa_cons (pv 1) pa_nil))) (blkOk_by (own := [("one", 5)]) (N := nPlInit) (sc := defScope sPlInit) (by decide +kernel)) (fun _ _ _ _ _ => (pg_name (i := 5) scPlInit.nd rfl (by first | exact Or.inl rfl | exact Or.inr rfl))) (fun _ _ _ _ _ => (pts_one (pt_cmpR q_notN (pv 5) pe_non (nomark _)))) (fun _ _ _ _ _ => (pv 5))) (pe_lc2 (own := [("branch", 4), ("one", 5)]) (vs1 := [5]) (g := gName 4) (g1 := gName 5) (tt := tYes) (tt1 := tYes) (wi1 := iList K (tFld K (tVar 4) "each")) rfl scPlInit.nd (pi_list (pe_fld (pv 0) rfl)) (blkOk_by (own := [("branch", 4), ("one", 5)]) (N := nPlInit) (sc := defScope sPlInit) (by decide +kernel)) (by decide) (fun _ _ _ _ _ => (pg_name (i := 4) scPlInit.nd rfl (by first | exact Or.inl rfl | exact Or.inr rfl))) (fun _ _ _ _ _ => pts_nil) (fun _ _ _ _ _ => (pi_listK (K := K) rfl (pe_fldK (K := K) rfl (pv 4) rfl))) (fun _ _ _ _ _ => (pg_name (i := 5) scPlInit.nd rfl (by first | exact Or.inl rfl | exact Or.inr rfl))) (fun _ _ _ _ _ => pts_nil) (fun _ _ _ _ _ => (pv 5)))) rfl)))))), ?_⟩
    have w0 : Wd ⟨H, G, [x], []⟩ G H [x] := wd_start sG (fun a h => by rw [List.mem_singleton.mp h]; exact ⟨gx, _, hx, rfl⟩) (by simp)
    walk_at "qq"
    rename_i H1 w1 hx1 b1 H2 w2 hx2 b2 H3 w3 hx3 b3 pt G4 H4 n4 w4 s4 h4 t4
    have hx4 := t4 _ _ hx3
    have ef : (putF (Str.ofString "own_failed") v3 (putF (Str.ofString "own_passed") v2 (putF (Str.ofString "entry") v1 []))) = fs3 v1 v2 v3 := rfl
    rw [ef] at hx4
    refine lc_go w4 (walk_tup (xs := [v2, v3])) (fun j acc _ Hy => acc = (([v2, v3].take j).filter fun v => !decide (v = .non)) ∧ Hy x = some (.ins C dx (fs3 v1 v2 v3))) (fun _ _ _ s' _ => ⟨rfl, s' _ _ hx4⟩) (fun _ _ Gi Hi wi si _ => wd_sqT wi (SqT.of (si _ _ h4))) ?_ ?_
    · rintro Dd j acc Gi H5 x5 H6 hj hl5 w5 s5 hD nm ⟨rfl, hx5⟩ ⟨rfl, hx⟩
      have nx : Dd ≠ x := nm x (by simp)
      have hj2 : j < 2 := hj
      by_cases c : x5 = .non
      · subst c
        walk_at "qq"
        refine ite_nd (fun q => absurd rfl q) (fun _ => ?_)
        refine ⟨_, Gi, w5, s5, hD, Nat.le_succ_of_le hl5, ?_, hx5⟩
        show _ = _
        rw [filt_no hx (by decide)]
      · walk_at "qq"
        refine ite_nd (fun _ => ?_) (fun q => absurd q c)
        walk_at "qq"
        rename_i H7 w7 b7
        refine ⟨?_, b7 _ _ nx.symm hx5⟩
        rw [filt_yes hx (by rw [decide_eq_false c]; rfl)]
    · rintro l5 acc Gi G5 H5 hl5 w5 s5 s5' h5 ⟨rfl, hx5⟩
      have pb := brs_at (h2.same (s4.trans s5)) (h3.same (s4.trans s5)) 2 (Nat.le_refl _)
      generalize hbs : (([v2, v3].take 2).filter fun v => !decide (v = .non)) = bs at pb
      have hbs' : (([v2, v3].take ([v2, v3] : List V).length).filter fun v => !decide (v = .non)) = bs := hbs
      rw [hbs'] at h5
      have hem : v2 = .non → v3 = .non → bs = [] := fun e2 e3 => by rw [← hbs, e2, e3] <;> rfl
      have pb : Paired (fun v t => BrAt C Ce G5 t v) bs (brs p ff) := pb
      have szb := brs_size p ff
      have nob := brs_no p ff
      have lenb : bs.length ≤ 2 := by
        rw [← hbs]
        exact Nat.le_trans (List.length_filter_le _ _) (by simp)
      generalize brs p ff = ts at pb szb nob
      clear hbs hbs' hl5
      walk_at "qq"
      rename_i H6 w6 hx6 b6 l7 G7 H7 n7 w7 s7 h7 t7
      have e6 : (putF (Str.ofString "below") (.ref l5) (fs3 v1 v2 v3)) = fs4 v1 v2 v3 l5 := rfl
      rw [e6] at hx6
      have hx7 := t7 _ _ hx6
      have h57 := s7 _ _ h5
      refine lc_go w7 (walk_list (xs := [v1])) (fun j acc _ Hy => acc = (([v1].take j).filter fun v => !decide (v = .non)) ∧ Hy x = some (.ins C dx (fs4 v1 v2 v3 l5))) (fun _ _ _ s' _ => ⟨rfl, s' _ _ hx7⟩) (fun _ _ Gi Hi wi si _ => wd_sqL wi (SqL.of (si _ _ h7))) ?_ ?_
      · rintro Dd j acc Gi Ha xa Hb hj hla wa sa hD nm ⟨rfl, hxa⟩ ⟨rfl, hx⟩
        have nx : Dd ≠ x := nm x (by simp)
        have hj2 : j < 1 := hj
        by_cases c : xa = .non
        · subst c
          walk_at "qq"
          refine ite_nd (fun q => absurd rfl q) (fun _ => ?_)
          refine ⟨_, Gi, wa, sa, hD, Nat.le_succ_of_le hla, ?_, hxa⟩
          show _ = _
          rw [filt_no hx (by decide)]
        · walk_at "qq"
          refine ite_nd (fun _ => ?_) (fun q => absurd q c)
          walk_at "qq"
          rename_i Hc wc bc
          refine ⟨?_, bc _ _ nx.symm hxa⟩
          rw [filt_yes hx (by rw [decide_eq_false c]; rfl)]
      · rintro l8 acc Gi G8 H8 hl8 w8 s8 s8' h8 ⟨rfl, hx8⟩
        have l1 : (([v1].take ([v1] : List V).length).filter fun v => !decide (v = .non)).length ≤ 1 := hl8
        have hem1 : v1 = .non → (([v1].take ([v1] : List V).length).filter fun v => !decide (v = .non)) = [] := fun e1 => by rw [e1] <;> rfl
        generalize (([v1].take ([v1] : List V).length).filter fun v => !decide (v = .non)) = es1 at *
        have h58 := s8 _ _ h57
        have pb8 : Paired (fun v t => BrAt C Ce G8 t v) bs ts := Paired.mapP pb fun _ _ b => b.same (s7.trans s8)
        walk_at "qq"
        have lts := Paired.length pb8
        have lsz : ∀ i, ((ts.map Tr.size).take i).sum ≤ 2000 := fun i => Nat.le_trans (sum_le _ i) (by omega)
        refine lc2_go w8 (walk_list (xs := bs)) (fun i acc _ Hy => acc.length ≤ ((ts.map Tr.size).take i).sum ∧ (bs = [] → acc = []) ∧ Hy x = some (.ins C dx (fs4 v1 v2 v3 l5))) (fun _ _ _ s' _ => ⟨Nat.zero_le _, fun _ => rfl, s' _ _ hx8⟩) (fun _ _ Gi Hi wi si _ => wd_sqL wi (SqL.of (si _ _ h58))) ?_ ?_
        · rintro Dd i acc Gi Ha xa Hb hi wa sa hDd nm ⟨la, ea, hxa⟩ ⟨rfl, hx⟩
          have nx : Dd ≠ x := nm x (by simp)
          obtain ⟨t, ht⟩ : ∃ t, ts[i]? = some t := ⟨_, List.getElem?_eq_getElem (lts ▸ hi)⟩
          have bt := paired_get pb8 hx ht
          obtain ⟨ai, dxi, u1, u2, u3, bli, eli, esi, rfl, hai, heli, lesi⟩ := bt.ins (nob t (List.mem_of_getElem? ht))
          have hai1 := wa.le _ _ (sa _ _ hai)
          have heli1 := wa.le _ _ (sa _ _ heli)
          have est := sum_take (ts.map Tr.size) (i := i) (n := t.size) (by rw [List.getElem?_map, ht] <;> rfl)
          have lall := lsz (i + 1)
          have ne : bs ≠ [] := fun e => by rw [e] at hx; cases hx
          show gName 4 (V.ref ai) _ _ _
          walk_at "qq"
          refine in_go (walk_list (xs := esi)) (fun j acc' _ Hy => acc'.length ≤ ((ts.map Tr.size).take i).sum + j ∧ Hy x = some (.ins C dx (fs4 v1 v2 v3 l5))) ⟨_, _, wa, sa, hDd, la, hxa⟩ (fun j acc' Gy Hy wy sy _ => wd_sqL wy (SqL.of (sy _ _ heli))) ?_ ?_
          · rintro j acc' G3 H3 x'' H4 hj w3 s3 hD3 ⟨l3, hx3⟩ ⟨rfl, hx'⟩
            have lj : j < esi.length := hj
            have len3 : acc'.length < 1000000 := by omega
            walk_at "qq"
            rename_i H5 w5' b5'
            exact ⟨by rw [List.length_append]; show acc'.length + 1 ≤ _; omega, b5' _ _ nx.symm hx3⟩
          · rintro H3 ⟨acc', G3, w3, s3, hD3, l3, hx3⟩
            exact ⟨_, G3, w3, s3, hD3, by rw [est]; omega, fun e => absurd e ne, hx3⟩
        · rintro l9 acc Gi G9 H9 w9 s9 s9' h9 ⟨la, ea, hx9⟩
          have lacc : acc.length ≤ p.size + ff.size := Nat.le_trans la (Nat.le_trans (sum_le _ _) szb)
          have h89 := s9 _ _ h8
          walk_at "qq"
          rename_i lA GA HA nA wA sA hA tA HB wB hB bB
          have eB : (putF (Str.ofString "each") (.ref lA) (fs4 v1 v2 v3 l5)) = planF v1 v2 v3 l5 lA := rfl
          rw [eB] at hB
          refine k GA HB l5 lA bs (es1 ++ acc) (fun b o hn h => wB.kp b o (by simpa using hn) h) wB.gh wB.gr wB.fr ?_ hA (fun e1 e2 e3 => ?_) ?_ hB
          · exact sA _ _ (s9 _ _ h58)
          · have := hem e2 e3
            exact ⟨this, by rw [hem1 e1, ea this]; rfl⟩
          · rw [List.length_append]
            omega
abbrev nPlDone : List Str := []
theorem scPlDone : FnScope nPlDone [] (defScope sPlDone) := ⟨rfl, rfl, rfl, by decide +kernel, rfl, by decide +kernel, by decide +kernel⟩
theorem ok_plDone {f : Addr} {fd : FuncData} (F : FnP K "done" "Plan.done" sPlDone [] f fd) (DPl : MkD P w K mg base CX0 1 "Plan" C [] (spPlInit C Ce)) : FnOk P w K mg base CX0 3 f fd [] (spDone C Ce) := by
  refine fnP_ok F scPlDone (fun vs H Q E h => ?_) (fun cdv A outer s H vs Q E hr h => ?_)
  · obtain ⟨G, rfl, _⟩ := h
    rfl
  · obtain ⟨G, rfl, sG, k⟩ := h
    refine ⟨_, (pss_one (ps_ret (pe_makeD DPl hr pass0 (pa_cons pe_non (pa_cons pe_non (pa_cons pe_non pa_nil)))))), ?_⟩
    have w0 := wd_pure sG
    walk_at "qq"
    refine u_plMake (p := .no) (f := .no) w0 (.inl rfl) rfl rfl (by decide) (by decide) fun a dx bl el bs es G1 H1 w1 s1 t1 ha hbl hel hem hle => ?_
    obtain ⟨rfl, rfl⟩ := hem rfl rfl rfl
    exact ret_of k w1 ⟨a, dx, bl, el, rfl, ha, hbl, hel⟩
abbrev nPlAsk : List Str := ["entry", "passed", "failed"]
theorem scPlAsk : FnScope nPlAsk ["entry", "passed", "failed"] (defScope sPlAsk) := ⟨rfl, rfl, rfl, by decide +kernel, rfl, by decide +kernel, by decide +kernel⟩
theorem ok_plAsk {f : Addr} {fd : FuncData} (F : FnP K "ask" "Plan.ask" sPlAsk [] f fd) (T : Bi mg) (S : PlC K C) (Se : EnC K Ce) (hPl : Gc mg "Plan" (.ref C)) (hEnt : Gc mg "Entry" (.ref Ce)) (DPl : MkD P w K mg base CX0 1 "Plan" C [] (spPlInit C Ce)) : FnOk P w K mg base CX0 3 f fd ["entry", "passed", "failed"] (spAsk C Ce) := by
  refine fnP_ok F scPlAsk (fun vs H Q E h => ?_) (fun cdv A outer s H vs Q E hr h => ?_)
  · obtain ⟨G, a, v2, v3, c, p, f, rfl, _⟩ := h
    rfl
  · obtain ⟨G, a, v2, v3, c, p, ff, rfl, sG, h1, h2, h3, hno, z1, z2, k⟩ := h
    have hu64 := hr.units
    refine ⟨_, (pss_cons (ps_if (pt_not (pt_val (pe_callB call_isi (by rfl) T.isinstance (by decide +kernel) (pa_cons (pv 0) (pa_cons (pe_gc hEnt) pa_nil))))) (pss_one ps_never) pss_nil)
        (pss_cons (ps_if (PW.pt (pw_and (pt_cmpR q_notN (pv 1) pe_non (nomark _)) (pw_and1 (pt_not (pt_val (pe_callB call_isi (by rfl) T.isinstance (by decide +kernel) (pa_cons (pv 1) (pa_cons (pe_gc hPl) pa_nil)))))))) (pss_one ps_never) pss_nil)
        (pss_cons (ps_if (PW.pt (pw_or (PW.pt (pw_and (pt_cmpR q_notN (pv 2) pe_non (nomark _)) (pw_and1 (pt_not (pt_val (pe_callB call_isi (by rfl) T.isinstance (by decide +kernel) (pa_cons (pv 2) (pa_cons (pe_gc hPl) pa_nil)))))))) (pw_or1 (PW.pt (pw_and (pt_cmpR q_isN (pv 1) pe_non (nomark _)) (pw_and1 (pt_cmpR q_isN (pv 2) pe_non (nomark _)))))))) (pss_one ps_never) pss_nil)
        (pss_one (ps_ret (pe_makeD DPl hr pass0 (pa_cons (pv 0) (pa_cons (pv 1) (pa_cons (pv 2) pa_nil))))))))), ?_⟩
    have w0 := wd_pure sG
    have tye := same_ty sG.1 (Se.ty h1)
    have kme := Se.me
    have kmp := S.me
    have fin : spPlInit C Ce = spPlInit C Ce → MakeGo C (spPlInit C Ce) [.ref a, v2, v3] E0 H Q := fun _ =>
      u_plMake w0 (.inr ⟨a, _, _, _, rfl, h1⟩) h2 h3 z1 z2 fun a1 dx bl el bs es G1 H1 w1 s1 t1 ha hbl hel hem hle => ret_of k w1 ⟨a1, dx, bl, el, a, v2, v3, bs, es, rfl, ha, hbl, hel, hle, h1.same s1, h2.same s1, h3.same s1⟩
    walk_at "qq"
    have tv : ∀ {t : Tr Ck} {v : V}, BrAt C Ce G t v → t.isNo = false → TyX K H v (.ref C) := fun {t v} h n => by
      obtain ⟨a, dx, _, _, _, _, _, _, rfl, h, _⟩ := h.ins n
      exact same_ty sG.1 (S.ty h)
    have e2 := h2.non
    have e3 := h3.non
    rw [e2]
    cases hp : p.isNo with
    | true =>
      refine iteN (by first | rfl | decide) ?_
      walk_at "qq"
      rw [hp] at hno e2
      have hf : ff.isNo = false := hno
      have ty3 := tv h3 hf
      rw [e3, hf]
      refine iteY (by first | rfl | decide) ?_
      walk_at "qq"
      rw [e2]
      refine iteY (by first | rfl | decide) ?_
      walk_at "qq"
      rw [e3, hf]
      refine iteN (by first | rfl | decide) ?_
      walk_at "qq"
      exact fin rfl
    | false =>
      have ty2 := tv h2 hp
      refine iteY (by first | rfl | decide) ?_
      walk_at "qq"
      have tail : ∀ (R1 R2 : Prop), R2 → (if decide (v2 = V.non) = true then R1 else R2) := fun R1 R2 h => by
        rw [e2, hp]
        exact h
      rw [e3]
      cases hf : ff.isNo with
      | true =>
        refine iteN (by first | rfl | decide) ?_
        walk_at "qq"
        refine tail _ _ ?_
        refine iteN (by first | rfl | decide) ?_
        walk_at "qq"
        exact fin rfl
      | false =>
        have ty3 := tv h3 hf
        refine iteY (by first | rfl | decide) ?_
        walk_at "qq"
        refine tail _ _ ?_
        refine iteN (by first | rfl | decide) ?_
        walk_at "qq"
        exact fin rfl
abbrev nPlP : List Str := ["self"]
theorem scPlP : FnScope nPlP ["self"] (defScope sPlP) := ⟨rfl, rfl, rfl, by decide +kernel, rfl, by decide +kernel, by decide +kernel⟩
theorem ok_plP {f : Addr} {fd : FuncData} (F : FnP K "passed" "Plan.passed" sPlP [] f fd) (S : PlC K C) : FnOk P w K mg base CX0 1 f fd ["self"] (spPlBranch C Ce true) := by
  refine fnP_ok F scPlP (fun vs H Q E h => ?_) (fun cdv A outer s H vs Q E hr h => ?_)
  · obtain ⟨G, v, t, rfl, _⟩ := h
    rfl
  · obtain ⟨G, v, t, rfl, sG, hb, hn, k⟩ := h
    have cc := S.c
    have n2 := S.n2
    refine ⟨_, (pss_one (ps_ret (pe_fld (pv 0) rfl))), ?_⟩
    have w0 := wd_pure sG
    cases t with
    | no => cases hn
    | done =>
      obtain ⟨a, dx, bl, el, rfl, ha, _⟩ := hb
      unfold planF at ha
      walk_at "qq"
      exact ret_of k w0 rfl
    | ask c p ff =>
      obtain ⟨a, dx, bl, el, en, vp, vf, bs, es, rfl, ha, _, _, _, _, hp, hf⟩ := hb
      unfold planF at ha
      walk_at "qq"
      exact ret_of k w0 hp
abbrev nPlF : List Str := ["self"]
theorem scPlF : FnScope nPlF ["self"] (defScope sPlF) := ⟨rfl, rfl, rfl, by decide +kernel, rfl, by decide +kernel, by decide +kernel⟩
theorem ok_plF {f : Addr} {fd : FuncData} (F : FnP K "failed" "Plan.failed" sPlF [] f fd) (S : PlC K C) : FnOk P w K mg base CX0 1 f fd ["self"] (spPlBranch C Ce false) := by
  refine fnP_ok F scPlF (fun vs H Q E h => ?_) (fun cdv A outer s H vs Q E hr h => ?_)
  · obtain ⟨G, v, t, rfl, _⟩ := h
    rfl
  · obtain ⟨G, v, t, rfl, sG, hb, hn, k⟩ := h
    have cc := S.c
    have n3 := S.n3
    refine ⟨_, (pss_one (ps_ret (pe_fld (pv 0) rfl))), ?_⟩
    have w0 := wd_pure sG
    cases t with
    | no => cases hn
    | done =>
      obtain ⟨a, dx, bl, el, rfl, ha, _⟩ := hb
      unfold planF at ha
      walk_at "qq"
      exact ret_of k w0 rfl
    | ask c p ff =>
      obtain ⟨a, dx, bl, el, en, vp, vf, bs, es, rfl, ha, _, _, _, _, hp, hf⟩ := hb
      unfold planF at ha
      walk_at "qq"
      exact ret_of k w0 hf
abbrev nPlEq : List Str := ["self", "other"]
theorem scPlEq : FnScope nPlEq ["self", "other"] (defScope sPlEq) := ⟨rfl, rfl, rfl, by decide +kernel, rfl, by decide +kernel, by decide +kernel⟩
theorem plEq_len (i : Nat) : ∀ vs H Q E, spPlEq C Ce i vs H Q E → vs.length = ["self", "other"].length := fun vs H Q E h => by
  cases i with
  | zero => exact h.elim
  | succ d =>
    obtain ⟨G, v1, v2, t, rfl, _⟩ := h
    rfl
theorem ok_plEq0 {f : Addr} {fd : FuncData} (F : FnP K "__eq__" "Plan.__eq__" sPlEq [] f fd) : FnOk P w K mg base CX0 2 f fd ["self", "other"] (spPlEq C Ce 0) :=
  fnP_ok F scPlEq (plEq_len 0) fun cdv A outer s H vs Q E hr h => h.elim
theorem ok_plEq {kb i : Nat} {f : Addr} {fd : FuncData} (F : FnP K "__eq__" "Plan.__eq__" sPlEq [] f fd) (T : Bi mg) (S : PlC K C) (Se : EnC K Ce) (hPl : Gc mg "Plan" (.ref C)) (hkb : 2 ≤ kb)
    (hneE : PySem.W.findIn K (.ref Ce) "__ne__" = some (some (.builtin "object.__ne__"))) (DeqE : SpD P w K mg base CX0 1 Ce "__eq__" (spEntEq Ce)) (Dp1 : PrD P w K mg base CX0 1 C "passed" (spPlBranch C Ce true)) (Dp2 : PrD P w K mg base CX0 1 C "failed" (spPlBranch C Ce false))
    (Di : SpD P w K mg base CX0 kb C "__eq__" (spPlEq C Ce i)) : FnOk P w K mg base CX0 (kb + 1) f fd ["self", "other"] (spPlEq C Ce (i + 1)) := by
  refine fnP_ok F scPlEq (plEq_len (i + 1)) (fun cdv A outer s H vs Q E hr h => ?_)
  obtain ⟨G, v1, v2, t, rfl, hd, sG, h1, h2, ho, k⟩ := h
  have hu64 := hr.units
  have hr2 := hr.mono hkb
  have cmE := Se.cm
  have cc := S.c
  have n1 := S.n1
  refine ⟨_, (pss_cons (ps_if (PW.pt (pw_or (pt_not (pt_val (pe_callB call_isi (by rfl) T.isinstance (by decide +kernel) (pa_cons (pv 1) (pa_cons (pe_gc hPl) pa_nil))))) (pw_or1 (pt_cmpR (q_neB (E := E0) hu64 hneE cmE DeqE hr2 pass0) (pe_fld (pv 0) rfl) (pe_fld (pv 1) rfl) (nomark _))))) (pss_one (ps_ret pe_bl)) pss_nil)
        (pss_one (ps_ret (pe_and (pe_cmpR (q_eqB (E := E0) hu64 Di hr pass0 (Nat.le_refl _)) (pe_propD (pv 0) Dp1 hr2 pass0) (pe_propD (pv 1) Dp1 hr2 pass0) (nomark _)) (pe_one (pe_cmpR (q_eqB (E := E0) hu64 Di hr pass0 (Nat.le_refl _)) (pe_propD (pv 0) Dp2 hr2 pass0) (pe_propD (pv 1) Dp2 hr2 pass0) (nomark _))))))), ?_⟩
  have w0 := wd_pure sG
  have hk := S.me
  have nn : t.isNo = false := by
    cases t with
    | no => cases i <;> cases ho
    | done => rfl
    | ask c p f => rfl
  obtain ⟨a1, dx1, u1, u2, u3, bl1, el1, es1, rfl, ha1, _⟩ := h1.ins nn
  obtain ⟨a2, dx2, w1', w2', w3', bl2, el2, es2, rfl, ha2, _⟩ := h2.ins nn
  have ty2 := same_ty sG.1 (S.ty ha2)
  have ent := ent_two h1 h2 ha1 ha2
  unfold planF at ha1 ha2
  have he : G = G := rfl
  walk_at "qq"
  refine neB_go w0 Se ent fun G1 H1 w1 s1 t1 => ⟨false, rfl, ?_⟩
  refine iteF ?_
  have ha11 := w1.le _ _ (s1 _ _ ha1)
  have ha21 := w1.le _ _ (s1 _ _ ha2)
  walk_at "qq"
  refine u_plBranch w1 (h1.same s1) nn fun r1 G2 H2 w2 s2 t2 q1 => ?_
  have ha22 := t2 _ _ ha21
  walk_at "qq"
  refine u_plBranch w2 (h2.same (s1.trans s2)) nn fun r2 G3 H3 w3 s3 t3 q2 => ?_
  have ha13 := t3 _ _ (t2 _ _ ha11)
  have ha23 := t3 _ _ ha22
  refine eqB_go w3 S hd (q1.same s3) q2 (t.sub_ok true ho) fun G4 H4 w4 s4 t4 => ⟨true, rfl, ?_⟩
  have S4 := s1.trans (s2.trans (s3.trans s4))
  have ha14 := t4 _ _ ha13
  have ha24 := t4 _ _ ha23
  walk_at "qq"
  refine u_plBranch w4 (h1.same S4) nn fun r5 G5 H5 w5 s5 t5 q5 => ?_
  have ha25 := t5 _ _ ha24
  walk_at "qq"
  refine u_plBranch w5 (h2.same (S4.trans s5)) nn fun r6 G6 H6 w6 s6 t6 q6 => ?_
  refine eqB_go w6 S hd (q5.same s6) q6 (t.sub_ok false ho) fun G7 H7 w7 s7 t7 => ?_
  exact ret_of k w7 rfl
abbrev nPlStr : List Str := ["self", "words", "branch"]
theorem scPlStr : FnScope nPlStr ["self"] (defScope sPlStr) := ⟨rfl, rfl, rfl, by decide +kernel, rfl, by decide +kernel, by decide +kernel⟩
theorem plStr_len (i : Nat) : ∀ vs H Q E, spPlStr C Ce i vs H Q E → vs.length = ["self"].length := fun vs H Q E h => by
  cases i with
  | zero => exact h.elim
  | succ d =>
    obtain ⟨G, v1, t, rfl, _⟩ := h
    rfl
theorem ok_plStr0 {f : Addr} {fd : FuncData} (F : FnP K "__str__" "Plan.__str__" sPlStr [] f fd) : FnOk P w K mg base CX0 1 f fd ["self"] (spPlStr C Ce 0) :=
  fnP_ok F scPlStr (plStr_len 0) fun cdv A outer s H vs Q E hr h => h.elim
theorem ok_plStr {ki i : Nat} {f : Addr} {fd : FuncData} (F : FnP K "__str__" "Plan.__str__" sPlStr [] f fd) (S : PlC K C) (hki : 1 ≤ ki) (T : Bi mg) (DStE : SpD P w K mg base CX0 1 Ce "__str__" (spEntStr Ce))
    (Di : SpD P w K mg base CX0 ki C "__str__" (spPlStr C Ce i)) : FnOk P w K mg base CX0 (ki + 2 + 1) f fd ["self"] (spPlStr C Ce (i + 1)) := by
  refine fnP_ok F scPlStr (plStr_len (i + 1)) (fun cdv A outer s H vs Q E hr h => ?_)
  obtain ⟨G, v1, t, rfl, hd, sG, h1, ho, hright, k⟩ := h
  have hu64 := hr.units
  have hr3 : Room 3 (A.deeper (envOfC "Plan.__str__" (defScope sPlStr) s.heap.objs.size f cdv)) := hr.mono (by omega)
  have cc := S.c
  have n1 := S.n1
  have n2 := S.n2
  have n3 := S.n3
  refine ⟨_, (pss_cons (ps_if (pt_cmpR q_isN (pe_fld (pv 0) rfl) pe_non (nomark _)) (pss_one (ps_ret pe_str)) pss_nil)
        (pss_cons (ps_setLc (i := 1) (own := [("branch", 2)]) (g := gName 2) (tt := tYes) rfl scPlStr.nd rfl rfl (sw_true rfl rfl rfl (by decide +kernel)) (pi_tup (pe_tup (pa_cons (pe_fld (pv 0) rfl) (pa_cons (pe_fld (pv 0) rfl) pa_nil)))) (blkOk_by (own := [("branch", 2)]) (N := nPlStr) (sc := defScope sPlStr) (by decide +kernel)) (fun _ _ _ _ _ => (pg_name (i := 2) scPlStr.nd rfl (by first | exact Or.inl rfl | exact Or.inr rfl))) (fun _ _ _ _ _ => pts_nil) (fun _ _ _ _ _ => (pe_ifExp (pt_cmpR q_isN (pv 2) pe_non (nomark _)) pe_str (pe_callTy (show CallR _ (.type "str") (rStrI C (spPlStr C Ce i) E0) from q_strD Di hr pass0 (Nat.le_refl _)) (by rfl) T.str (by decide +kernel) (pa_cons (pv 2) pa_nil)))))
        (pss_one (ps_ret (pe_joinQ pe_str (pe_lst (pa_cons (pe_callTy (show CallR _ (.type "str") (rStrI Ce (spEntStr Ce) E0) from q_strD DStE hr3 pass0) (by rfl) T.str (by decide +kernel) (pa_cons (pe_fld (pv 0) rfl) pa_nil)) (pa_starK (K := _) rfl (pv 1) pa_nil)))))))), ?_⟩
  have w0 := wd_pure sG
  cases t with
  | no => cases i <;> cases ho
  | done =>
    obtain ⟨a, dx, bl, el, rfl, ha, _⟩ := h1
    unfold planF at ha
    walk_at "qq"
    refine iteY (by first | rfl | decide) ?_
    walk_at "qq"
    exact ret_of k w0 rfl
  | ask c p ff =>
    obtain ⟨a, dx, bl, el, en, vp, vf, bs, es, rfl, ha, hbl, hel, hle, hen, hp, hf⟩ := id h1
    unfold planF at ha
    walk_at "qq"
    refine iteN (by first | rfl | decide) ?_
    walk_at "qq"
    rename_i l1 G1 H1 n1' w1 s1 h1' t1
    obtain ⟨rc, rp, rf⟩ := hright
    have subs := fun fst => (Tr.ask c p ff).sub_ok (i := i) fst ho
    have each : ∀ (j : Nat) (v : V), ([vp, vf] : List V)[j]? = some v → ∃ t : Tr Ck, ([p.text, ff.text] : List Str)[j]? = some t.text ∧ BrAt C Ce G t v ∧ t.right ∧ (t.isNo = true ∨ ∃ d, i = d + 1 ∧ t.ok d = true) := fun j v hv => by
      rcases j with _ | _ | j
      · cases (show some vp = some v from hv)
        exact ⟨p, rfl, hp, rp, subs true⟩
      · cases (show some vf = some v from hv)
        exact ⟨ff, rfl, hf, rf, subs false⟩
      · cases (show none = some v from hv)
    refine lc_go w1 (walk_tup (xs := [vp, vf])) (fun j acc _ _ => acc = (([p.text, ff.text] : List Str).take j).map V.str) (fun _ _ _ _ _ => rfl) (fun _ _ Gi Hi wi si _ => wd_sqT wi (SqT.of (si _ _ h1'))) ?_ ?_
    · rintro Dd j acc Gi H4 x4 H5 hj hl4 w4 s4 hD nm rfl ⟨rfl, hx⟩
      have hj2 : j < 2 := hj
      obtain ⟨t, htx, hbt, hrt, hot⟩ := each j x4 hx
      walk_at "qq"
      rw [hbt.non]
      rcases hot with hno | ⟨d, rfl, hok⟩
      · rw [hno]
        refine iteT ?_
        walk_at "qq"
        have et : t.text = Str.ofString "none" := by
          cases t with
          | no => rfl
          | done => cases hno
          | ask c p f => cases hno
        rw [take_snoc htx, List.map_append, et]
        rfl
      · have nn : t.isNo = false := by
          cases t with
          | no => cases d <;> cases hok
          | done => rfl
          | ask c p f => rfl
        rw [nn]
        refine iteF ?_
        obtain ⟨a4, dx4, u1, u2, u3, bl4, el4, es4, rfl, ha4, _⟩ := id (hbt.ins nn)
        walk_at "qq"
        refine r_strI (w4.le _ _ (s4 _ _ (s1 _ _ ha4))) (u_plStr w4 (hbt.same (s1.trans s4)) (by omega) hok hrt fun G6 H6 w6 s6 t6 => ⟨_, rfl, ?_⟩)
        have hD6 := t6 _ _ hD
        refine r_lcAdd w6 (s4.trans s6) hD6 hl4 (by omega) fun H7 w7 b7 => ?_
        rw [take_snoc htx, List.map_append]
        rfl
    · rintro l5 acc Gi G5 H5 hl5 w5 s5 s5' h5 rfl
      have hen5 := hen.same (s1.trans s5)
      have ha5 := w5.le _ _ (s5 _ _ (s1 _ _ ha))
      have h5 : G5 l5 = some (.lst [.str p.text, .str ff.text]) := h5
      obtain ⟨re, dxe, fce, hie, _⟩ := id hen5
      walk_at "qq"
      refine r_strI (w5.le _ _ hie) (u_entStr w5 hen5 fun G6 H6 w6 s6 t6 => ⟨_, rfl, ?_⟩)
      walk_at "qq"
      rename_i l7 G7 H7 n7 w7 s7 h7 t7
      have l1 := (Tr.len_le rp hd (subs true)).1
      have l2 := (Tr.len_le rf hd (subs false)).1
      have l3 := ent_len rc
      have e1b : (Str.ofString " ").length = 1 := by decide +kernel
      refine r_joinL (ys := [ckText c, p.text, ff.text]) (wd_sqL w7 (SqL.of h7)) ?_ (ret_of k w7 rfl)
      simp only [List.map_cons, List.map_nil, List.sum_cons, List.sum_nil, List.length_cons, List.length_nil]
      have : (ckText c).length ≤ 60 := l3
      omega
abbrev nPlOf : List Str := ["tree", "parts", "passed", "failed", "tool", "moment", "by"]
theorem scPlOf : FnScope nPlOf ["tree"] (defScope sPlOf) := ⟨rfl, rfl, rfl, by decide +kernel, rfl, by decide +kernel, by decide +kernel⟩
theorem plOf_len (i : Nat) : ∀ vs H Q E, spPlanOf C Ce i vs H Q E → vs.length = ["tree"].length := fun vs H Q E h => by
  cases i with
  | zero => exact h.elim
  | succ d =>
    obtain ⟨G, v1, t, rfl, _⟩ := h
    rfl
theorem ok_planOf0 {f : Addr} {fd : FuncData} (F : FnP K "plan_of" "plan_of" sPlOf [] f fd) : FnOk P w K mg base CX0 4 f fd ["tree"] (spPlanOf C Ce 0) :=
  fnP_ok F scPlOf (plOf_len 0) fun cdv A outer s H vs Q E hr h => h.elim
theorem ok_planOf {kb i : Nat} {f : Addr} {fd : FuncData} (F : FnP K "plan_of" "plan_of" sPlOf [] f fd) (T : Bi mg) (hkb : 4 ≤ kb) (hPl : Gc mg "Plan" (.ref C)) (DE : MkD P w K mg base CX0 3 "Entry" Ce [] (spEntInit Ce)) (Ddo : StD P w K mg base CX0 3 C "done" (spDone C Ce)) (Das : StD P w K mg base CX0 3 C "ask" (spAsk C Ce))
    (Di : Df P w K mg base CX0 kb "plan_of" [] (spPlanOf C Ce i)) : FnOk P w K mg base CX0 (kb + 1) f fd ["tree"] (spPlanOf C Ce (i + 1)) := by
  refine fnP_ok F scPlOf (plOf_len (i + 1)) (fun cdv A outer s H vs Q E hr h => ?_)
  obtain ⟨G, v, t, rfl, hd, sG, h1, hright, ho, k⟩ := h
  have hu64 := hr.units
  have hr4 := hr.mono hkb
  refine ⟨_, (pss_cons (ps_if (pt_cmpR q_isN (pv 0) pe_non (nomark _)) (pss_one (ps_ret pe_non)) pss_nil)
        (pss_cons (ps_if (pt_cmpR (q_eq hu64) (pe_callB q_len (by rfl) T.len (by decide +kernel) (pa_cons (pv 0) pa_nil)) pe_int (nomark _)) (pss_one (ps_ret (pe_statD0 (pe_gc hPl) Ddo hr4 pass0))) pss_nil)
        (pss_cons (ps_asg (pv 0) (pg_tup rfl (pgs_cons (pg_name (i := 1) scPlOf.nd rfl (Or.inl rfl)) (pgs_cons (pg_name (i := 2) scPlOf.nd rfl (Or.inl rfl)) (pgs_cons (pg_name (i := 3) scPlOf.nd rfl (Or.inl rfl)) pgs_nil)))))
        (pss_cons (ps_asg (pv 1) (pg_tup rfl (pgs_cons (pg_name (i := 4) scPlOf.nd rfl (Or.inl rfl)) (pgs_cons (pg_name (i := 5) scPlOf.nd rfl (Or.inl rfl)) (pgs_cons (pg_name (i := 6) scPlOf.nd rfl (Or.inl rfl)) pgs_nil)))))
        (pss_one (ps_ret (pe_statD (pe_gc hPl) Das hr4 pass0 (pa_cons (pe_makeD DE hr4 pass0 (pa_cons (pv 4) (pa_cons (pv 5) (pa_cons (pv 6) pa_nil)))) (pa_cons (pe_callD Di hr pass0 (pa_cons (pv 2) pa_nil) (hj := Nat.le_refl _)) (pa_cons (pe_callD Di hr pass0 (pa_cons (pv 3) pa_nil) (hj := Nat.le_refl _)) pa_nil)))))))))), ?_⟩
  have w0 := wd_pure sG
  walk_at "qq"
  rw [h1.non]
  cases t with
  | no =>
    refine iteT ?_
    walk_at "qq"
    exact ret_of k w0 rfl
  | done =>
    obtain ⟨a, rfl, ha⟩ := h1
    refine iteF ?_
    walk_at "qq"
    refine ite_d (fun _ => ?_) (fun q => absurd rfl q)
    walk_at "qq"
    exact u_done w0 fun v G1 H1 w1 s1 t1 hb => ret_of k w1 hb
  | ask c p ff =>
    obtain ⟨a, b, vp, vf, rfl, ha, hb, hp, hf⟩ := h1
    obtain ⟨rc, rp, rf⟩ := hright
    have ho : (Tr.ask c p ff).ok i = true := ho
    have subs := fun fst => (Tr.ask c p ff).sub_ok (i := i) fst ho
    obtain ⟨d, rfl⟩ : ∃ d, i = d + 1 := by
      cases i with
      | zero => cases ho
      | succ d => exact ⟨d, rfl⟩
    have okp : p.okB d = true := by
      rcases subs true with q | ⟨j, e, q⟩
      · exact Bool.or_eq_true_iff.mpr (.inl q)
      · cases e
        exact Bool.or_eq_true_iff.mpr (.inr q)
    have okf : ff.okB d = true := by
      rcases subs false with q | ⟨j, e, q⟩
      · exact Bool.or_eq_true_iff.mpr (.inl q)
      · cases e
        exact Bool.or_eq_true_iff.mpr (.inr q)
    have nof : (p.isNo && ff.isNo) = false := by
      have h : ((p.isNo || p.ok d) && ((ff.isNo || ff.ok d) && !(p.isNo && ff.isNo))) = true := ho
      rw [Bool.and_eq_true, Bool.and_eq_true] at h
      cases q : (p.isNo && ff.isNo) with
      | false => rfl
      | true => rw [q] at h; exact absurd h.2.2 (by decide)
    have two : 2 ^ d ≤ 16 := Nat.le_trans (Nat.pow_le_pow_right (by decide) (show d ≤ 4 by omega)) (by decide)
    have zp := size_ok d p okp
    have zf := size_ok d ff okf
    refine iteF ?_
    walk_at "qq"
    refine ite_d (fun q => absurd q (by intro e; cases e)) (fun _ => ?_)
    walk_at "qq"
    refine u_ent w0 rc fun en G1 H1 w1 s1 t1 he => ?_
    walk_at "qq"
    refine u_planOf w1 (hp.same s1) (by omega) rp okp fun r1 G2 H2 w2 s2 t2 b2 => ?_
    walk_at "qq"
    refine u_planOf w2 (hf.same (s1.trans s2)) (by omega) rf okf fun r2 G3 H3 w3 s3 t3 b3 => ?_
    walk_at "qq"
    exact u_askP w3 (he.same (s2.trans s3)) (b2.same s3) b3 nof (by omega) (by omega) fun v G4 H4 w4 s4 t4 hb4 => ret_of k w4 hb4
abbrev nPlRead : List Str := ["cls", "text"]
theorem scPlRead : FnScope nPlRead ["cls", "text"] (defScope sPlRead) := ⟨rfl, rfl, rfl, by decide +kernel, rfl, by decide +kernel, by decide +kernel⟩
theorem val_right {x : V} {t : Tr Ck} (h : valR x = .inr t) : ∃ z, x = .str z ∧ t.ok 4 = true ∧ t.right ∧ z = t.text := by
  cases x with
  | str z =>
    obtain ⟨a, b, c⟩ := pgR_text (show pgR z = .inr t from h)
    exact ⟨z, rfl, a, b, c⟩
  | _ => cases h
theorem ok_plRead {f : Addr} {fd : FuncData} (F : FnP K "read" "Plan.read" sPlRead [] f fd) (Dt : Df P w K mg base (L2.CX P w) 15 "plan_tree" [] (spPlanTree K Ct)) (Do : Df P w K mg base CX0 9 "plan_of" [] (spPlanOf C Ce 5)) :
    FnOk P w K mg base (L2.CX P w) 16 f fd ["cls", "text"] (spPlRead K C Ce Ct) := by
  refine fnP_okX F scPlRead (fun vs H Q E h => ?_) (fun cdv A outer s H vs Q E hr h => ?_)
  · obtain ⟨G, x, u, rfl, _⟩ := h
    rfl
  · obtain ⟨G, x, u, rfl, sG, hx, hz, good, bad⟩ := h
    have hu64 := hr.units
    have passQ : Passes (L2.CX P w) (cxOf (L2.CX P w) P w K mg base nPlRead "Plan.read" (defScope sPlRead) f cdv A outer s H E) E := passD
    refine ⟨_, (pss_one (ps_ret (pe_callD Do hr pass0 (pa_cons (pe_callD Dt hr passQ (pa_cons (pv 1) pa_nil)) pa_nil)))), ?_⟩
    have w0 := wd_pure sG
    walk_at "qq"
    refine u_planTree w0 hx hz (fun t ht v G1 H1 w1 s1 t1 h1 => ?_) (fun l k hk d G' H' w' s' t' hd => retXf_of (bad l k hk) w' hd)
    obtain ⟨z, _, o, r, _⟩ := val_right ht
    walk_at "qq"
    exact u_planOf (d := 4) w1 h1 (by decide) r (Bool.or_eq_true_iff.mpr (.inr o)) fun r2 G2 H2 w2 s2 t2 b2 => ret_of (good t ht) w2 b2
abbrev nPlText : List Str := ["plan"]
theorem scPlText : FnScope nPlText ["plan"] (defScope sPlText) := ⟨rfl, rfl, rfl, by decide +kernel, rfl, by decide +kernel, by decide +kernel⟩
theorem ok_planText {f : Addr} {fd : FuncData} (F : FnP K "plan_text" "plan_text" sPlText [] f fd) (T : Bi mg) (Ds : SpD P w K mg base CX0 16 C "__str__" (spPlStr C Ce 5)) : FnOk P w K mg base CX0 19 f fd ["plan"] (spPlanText C Ce) := by
  refine fnP_ok F scPlText (fun vs H Q E h => ?_) (fun cdv A outer s H vs Q E hr h => ?_)
  · obtain ⟨G, v, t, rfl, _⟩ := h
    rfl
  · obtain ⟨G, v, t, rfl, sG, h1, ho, hright, k⟩ := h
    have hu64 := hr.units
    refine ⟨_, (pss_one (ps_ret (pe_callTy (show CallR _ (.type "str") (rStrI C (spPlStr C Ce 5) E0) from q_strD Ds hr pass0) (by rfl) T.str (by decide +kernel) (pa_cons (pv 0) pa_nil)))), ?_⟩
    have w0 := wd_pure sG
    have nn : t.isNo = false := by
      cases t with
      | no => cases ho
      | done => rfl
      | ask c p f => rfl
    obtain ⟨a4, dx4, u1, u2, u3, bl4, el4, es4, rfl, ha4, _⟩ := id (h1.ins nn)
    walk_at "qq"
    exact r_strI (w0.le _ _ ha4) (u_plStr w0 h1 (by decide) ho hright fun G6 H6 w6 s6 t6 => ⟨_, rfl, ret_of k w6 rfl⟩)
end
section
variable {P : Program} {w : World} {K : PySem.W.Frag} {mg : Str → Option Value} {base : Heap} {C Ce Ct : Addr}
abbrev nLTree : List Str := ["_law_pen_here", "_law_many", "_law_deep", "_law_left", "_law_right", "_law_way"]
theorem scLTree : FnScope nLTree ["_law_pen_here", "_law_many", "_law_deep"] (defScope sLTree) := ⟨rfl, rfl, rfl, by decide +kernel, rfl, by decide +kernel, by decide +kernel⟩
theorem lTree_len (i : Nat) : ∀ vs H Q E, spLTree i vs H Q E → vs.length = ["_law_pen_here", "_law_many", "_law_deep"].length := fun vs H Q E h => by
  cases i with
  | zero => exact h.elim
  | succ d =>
    obtain ⟨G, p, c, n, rfl, _⟩ := h
    rfl
theorem ok_lTree0 {f : Addr} {fd : FuncData} (F : FnP K "_law_tree" "_law_tree" sLTree [] f fd) : FnOk P w K mg base CX0 2 f fd ["_law_pen_here", "_law_many", "_law_deep"] (spLTree 0) :=
  fnP_ok F scLTree (lTree_len 0) fun cdv A outer s H vs Q E hr h => h.elim
theorem ok_lTree {kb i : Nat} {f : Addr} {fd : FuncData} (F : FnP K "_law_tree" "_law_tree" sLTree [] f fd) (hkb : 2 ≤ kb) (Dd : Df P w K mg base CX0 2 "_law_draw" [] spDraw) (Di : Df P w K mg base CX0 kb "_law_tree" [] (spLTree i)) :
    FnOk P w K mg base CX0 (kb + 1) f fd ["_law_pen_here", "_law_many", "_law_deep"] (spLTree (i + 1)) := by
  refine fnP_ok F scLTree (lTree_len (i + 1)) (fun cdv A outer s H vs Q E hr h => ?_)
  obtain ⟨G, p, c, n, rfl, hd, sG, gp, hc, hp, hn, k⟩ := h
  have hu64 := hr.units
  have hr2 := hr.mono hkb
  have w0 : Wd ⟨H, G, [p], []⟩ G H [p] := by
    obtain ⟨a, g, h1, _⟩ := id hp
    exact wd_start sG (fun a h => by rw [List.mem_singleton.mp h]; exact ⟨gp, _, h1, rfl⟩) (by simp)
  refine ⟨_, (pss_cons (ps_if (PW.pt (pw_or (pt_cmpR (q_eq hu64) (pv 2) pe_int (nomark _)) (pw_or1 (pt_cmpR (q_eq hu64) (pe_callD Dd hr2 pass0 (pa_cons (pv 0) (pa_cons pe_int pa_nil))) pe_int (nomark _))))) (pss_one (ps_ret pe_str)) pss_nil)
        (pss_cons (ps_par (i := 3) (j := 4) (by rfl) scLTree.nd rfl rfl (by decide) rfl rfl (pa_cons (pe_callD Di hr pass0 (pa_cons (pv 0) (pa_cons (pv 1) (pa_cons (pe_op q_sub (pv 2) pe_int) pa_nil))) (hj := Nat.le_refl _)) (pa_cons (pe_callD Di hr pass0 (pa_cons (pv 0) (pa_cons (pv 1) (pa_cons (pe_op q_sub (pv 2) pe_int) pa_nil))) (hj := Nat.le_refl _)) pa_nil)) (by rfl))
        (pss_cons (ps_set (i := 5) scLTree.nd rfl (Or.inl rfl) (pe_callD Dd hr2 pass0 (pa_cons (pv 0) (pa_cons pe_int pa_nil))))
        (pss_one (ps_ret (pe_tup (pa_cons (pe_callD Dd hr2 pass0 (pa_cons (pv 0) (pa_cons (pv 1) pa_nil))) (pa_cons (pe_ifExp (pt_cmpR (q_eq hu64) (pv 5) pe_int (nomark _)) pe_non (pv 3)) (pa_cons (pe_ifExp (pt_cmpR (q_eq hu64) (pv 5) pe_int (nomark _)) pe_non (pv 4)) pa_nil))))))))), ?_⟩
  walk_at "qq"
  cases i with
  | zero =>
    refine ite_d (fun _ => ?_) (fun q => absurd rfl q)
    walk_at "qq"
    exact retP_of k w0 (hp.more (by simp [costT])) ⟨.done, rfl, rfl⟩
  | succ d =>
    have ec := costT_succ d
    have c4 : 2 ^ d ≤ 16 := Nat.le_trans (Nat.pow_le_pow_right (by decide) (show d ≤ 4 by omega)) (by decide)
    have cd : costT d ≤ 48 := by unfold costT; omega
    refine ite_d (fun q => ?_) (fun _ => ?_)
    · exfalso
      have : ((d + 1 : Nat) : Int) = 0 := by injection q
      omega
    walk_at "qq"
    refine u_draw w0 (by simp) hc hp (by omega) (by decide) (by decide) fun d1 G1 H1 w1 s1 b1 P1 d10 d11 => ?_
    walk_at "qq"
    refine ite_d (fun _ => ?_) (fun _ => ?_)
    · walk_at "qq"
      exact retP_of k w1 (P1.more (by omega)) ⟨.done, rfl, rfl⟩
    walk_at "qq"
    refine u_lTree w1 (by simp) (hc.same s1) P1 (by omega) (by omega) (by omega) fun vl tl G2 H2 w2 s2 b2 P2 h2 o2 => ?_
    walk_at "qq"
    refine u_lTree w2 (by simp) (hc.same (s1.trans s2)) P2 (by omega) (by omega) (by omega) fun vr tr G3 H3 w3 s3 b3 P3 h3 o3 => ?_
    have hc3 := hc.same (s1.trans (s2.trans s3))
    walk_at "qq"
    refine u_draw w3 (by simp) hc3 P3 (by omega) (by decide) (by decide) fun d4 G4 H4 w4 s4 b4 P4 d40 d41 => ?_
    walk_at "qq"
    refine u_draw w4 (by simp) (hc3.same s4) P4 (by omega) (by decide) (by decide) fun d5 G5 H5 w5 s5 b5 P5 d50 d51 => ?_
    obtain ⟨kx, rfl⟩ := Int.eq_ofNat_of_zero_le d50
    have hk3 : kx < 3 := by omega
    have hl5 : LtAt G5 tl vl := h2.same (s3.trans (s4.trans s5))
    have hr5 : LtAt G5 tr vr := h3.same (s4.trans s5)
    have nl : tl.isNo = false := by
      cases tl with
      | no => cases d <;> cases o2
      | done => rfl
      | ask _ _ _ => rfl
    have nr : tr.isNo = false := by
      cases tr with
      | no => cases d <;> cases o3
      | done => rfl
      | ask _ _ _ => rfl
    have Pf := P5.more (m := n + costT (d + 1)) (by omega)
    walk_at "qq"
    refine ite_d (fun q0 => ?_) (fun q0 => ?_)
    · walk_at "qq"
      refine ite_d (fun q1 => ?_) (fun q1 => ?_)
      · exfalso
        have e0 : d4 = 0 := by injection q0
        have e1 : d4 = 1 := by injection q1
        omega
      walk_at "qq"
      rename_i l6 G6 H6 n6 w6 s6 h6 t6
      refine retP_of k w6 (Pf.same t6) ⟨.ask kx .no tr, ⟨l6, _, _, rfl, h6, hk3, rfl, hr5.same s6⟩, ?_⟩
      show (true && ((tr.isNo || tr.ok d) && !(true && tr.isNo))) = true
      rw [nr, o3]
      rfl
    · walk_at "qq"
      refine ite_d (fun q1 => ?_) (fun q1 => ?_)
      · walk_at "qq"
        rename_i l6 G6 H6 n6 w6 s6 h6 t6
        refine retP_of k w6 (Pf.same t6) ⟨.ask kx tl .no, ⟨l6, _, _, rfl, h6, hk3, hl5.same s6, rfl⟩, ?_⟩
        show ((tl.isNo || tl.ok d) && (true && !(tl.isNo && true))) = true
        rw [nl, o2]
        rfl
      · walk_at "qq"
        rename_i l6 G6 H6 n6 w6 s6 h6 t6
        refine retP_of k w6 (Pf.same t6) ⟨.ask kx tl tr, ⟨l6, _, _, rfl, h6, hk3, hl5.same s6, hr5.same s6⟩, ?_⟩
        show ((tl.isNo || tl.ok d) && ((tr.isNo || tr.ok d) && !(tl.isNo && tr.isNo))) = true
        rw [nl, nr, o2, o3]
        rfl
abbrev nPlanned : List Str := ["_law_tree_here", "_law_checks"]
theorem scPlanned : FnScope nPlanned ["_law_tree_here", "_law_checks"] (defScope sPlanned) := ⟨rfl, rfl, rfl, by decide +kernel, rfl, by decide +kernel, by decide +kernel⟩
theorem planned_len (i : Nat) : ∀ vs H Q E, spPlanned C Ce i vs H Q E → vs.length = ["_law_tree_here", "_law_checks"].length := fun vs H Q E h => by
  cases i with
  | zero => exact h.elim
  | succ d =>
    obtain ⟨G, v, l, g, t, rfl, _⟩ := h
    rfl
theorem ok_planned0 {f : Addr} {fd : FuncData} (F : FnP K "_law_planned" "_law_planned" sPlanned [] f fd) : FnOk P w K mg base CX0 4 f fd ["_law_tree_here", "_law_checks"] (spPlanned C Ce 0) :=
  fnP_ok F scPlanned (planned_len 0) fun cdv A outer s H vs Q E hr h => h.elim
theorem ok_planned {kb i : Nat} {f : Addr} {fd : FuncData} (F : FnP K "_law_planned" "_law_planned" sPlanned [] f fd) (hkb : 4 ≤ kb) (hPl : Gc mg "Plan" (.ref C)) (Ddo : StD P w K mg base CX0 3 C "done" (spDone C Ce)) (Das : StD P w K mg base CX0 3 C "ask" (spAsk C Ce))
    (Di : Df P w K mg base CX0 kb "_law_planned" [] (spPlanned C Ce i)) : FnOk P w K mg base CX0 (kb + 1) f fd ["_law_tree_here", "_law_checks"] (spPlanned C Ce (i + 1)) := by
  refine fnP_ok F scPlanned (planned_len (i + 1)) (fun cdv A outer s H vs Q E hr h => ?_)
  obtain ⟨G, v, l, g, t, rfl, hd, sG, h1, ho, hck, k⟩ := h
  have hu64 := hr.units
  have hr4 := hr.mono hkb
  refine ⟨_, (pss_cons (ps_if (pt_cmpR q_isN (pv 0) pe_non (nomark _)) (pss_one (ps_ret pe_non)) pss_nil)
        (pss_cons (ps_if (pt_cmpR (q_eq hu64) (pv 0) pe_str (nomark _)) (pss_one (ps_ret (pe_statD0 (pe_gc hPl) Ddo hr4 pass0))) pss_nil)
        (pss_one (ps_ret (pe_statD (pe_gc hPl) Das hr4 pass0 (pa_cons (pe_ix q_ix (pv 1) (pe_ix q_ix (pv 0) pe_int (fun _ _ => rfl)) (fun _ _ => rfl)) (pa_cons (pe_callD Di hr pass0 (pa_cons (pe_ix q_ix (pv 0) pe_int (fun _ _ => rfl)) (pa_cons (pv 1) pa_nil)) (hj := Nat.le_refl _)) (pa_cons (pe_callD Di hr pass0 (pa_cons (pe_ix q_ix (pv 0) pe_int (fun _ _ => rfl)) (pa_cons (pv 1) pa_nil)) (hj := Nat.le_refl _)) pa_nil)))))))), ?_⟩
  have w0 := wd_pure sG
  walk_at "qq"
  rw [h1.non]
  cases t with
  | no =>
    refine iteT ?_
    walk_at "qq"
    exact ret_of k w0 rfl
  | done =>
    obtain rfl : v = .str zDone := h1
    refine iteF ?_
    walk_at "qq"
    refine ite_d (fun _ => ?_) (fun q => absurd rfl q)
    walk_at "qq"
    exact u_done w0 fun v G1 H1 w1 s1 t1 hb => ret_of k w1 hb
  | ask kx p ff =>
    obtain ⟨a, vp, vf, rfl, ha, hk3, hp, hf⟩ := id h1
    have ho : (Tr.ask kx p ff).ok i = true := ho
    obtain ⟨d, rfl⟩ : ∃ d, i = d + 1 := by
      cases i with
      | zero => cases ho
      | succ d => exact ⟨d, rfl⟩
    have hcond : ((p.isNo || p.ok d) && ((ff.isNo || ff.ok d) && !(p.isNo && ff.isNo))) = true := ho
    have hcond2 := hcond
    rw [Bool.and_eq_true, Bool.and_eq_true] at hcond2
    have nof : ((p.map g).isNo && (ff.map g).isNo) = false := by
      rw [Tr.isNo_map, Tr.isNo_map]
      cases q : (p.isNo && ff.isNo) with
      | false => rfl
      | true => rw [q] at hcond2; exact absurd hcond2.2.2 (by decide)
    have two : 2 ^ d ≤ 16 := Nat.le_trans (Nat.pow_le_pow_right (by decide) (show d ≤ 4 by omega)) (by decide)
    have zp := size_ok d (p.map g) (by unfold Tr.okB; rw [Tr.isNo_map, Tr.ok_map]; exact hcond2.1)
    have zf := size_ok d (ff.map g) (by unfold Tr.okB; rw [Tr.isNo_map, Tr.ok_map]; exact hcond2.2.1)
    have d1 : Dp K H (.ref a) (treeD (.ask kx p ff)) := same_dp sG.1 h1.dp
    obtain ⟨en, xs, hl, hat, hen⟩ := hck.get hk3
    refine iteF ?_
    walk_at "qq"
    refine r_eqD d1 (.str zDone) (treeD_shaped (d := d + 1) hd ho) shaped_done ⟨_, rfl, ?_⟩
    rw [treeD_done rfl]
    refine iteF ?_
    have a1 : atI [V.int (kx : Int), vp, vf] 1 = some vp := rfl
    have a2 : atI [V.int (kx : Int), vp, vf] 2 = some vf := rfl
    walk_at "qq"
    refine u_planned w0 hp (by omega) hcond2.1 hck fun r1 G2 H2 w2 s2 t2 b2 => ?_
    have ha2 := s2 _ _ ha
    walk_at "qq"
    refine u_planned w2 (hf.same s2) (by omega) hcond2.2.1 (hck.same s2) fun r2 G3 H3 w3 s3 t3 b3 => ?_
    walk_at "qq"
    exact u_askP w3 (hen.same (s2.trans s3)) (b2.same s3) b3 nof (by omega) (by omega) fun v G4 H4 w4 s4 t4 hb4 => ret_of k w4 hb4
end
section
variable {P : Program} {w : World} {K : PySem.W.Frag} {mg : Str → Option Value} {base : Heap}
abbrev nNameL : List Str := ["_law_word", "_law_some", "_law_letters", "_law_sign"]
theorem scNameL : FnScope nNameL ["_law_word"] (defScope sNameL) := ⟨rfl, rfl, rfl, by decide +kernel, rfl, by decide +kernel, by decide +kernel⟩
theorem ok_nameL {f : Addr} {fd : FuncData} (F : FnP K "_law_is_name" "_law_is_name" sNameL [] f fd) (T : Bi mg) : FnOk P w K mg base CX0 2 f fd ["_law_word"] spNameL := by
  refine fnP_ok F scNameL (fun vs H Q E h => ?_) (fun cdv A outer s H vs Q E hr h => ?_)
  · obtain ⟨G, s', rfl, _⟩ := h
    rfl
  · obtain ⟨G, z, rfl, sG, hz, htx, k⟩ := h
    have hu64 := hr.units
    refine ⟨_, (pss_cons (ps_set (i := 1) scNameL.nd rfl (Or.inl rfl) (pe_lst (pa_cons pe_str (pa_cons pe_str (pa_cons pe_str (pa_cons pe_str (pa_cons pe_str (pa_cons pe_str (pa_cons pe_str (pa_cons pe_str (pa_cons pe_str (pa_cons pe_str pa_nil))))))))))))
        (pss_cons (ps_set (i := 1) scNameL.nd rfl (Or.inl rfl) (pe_op q_add (pv 1) (pe_lst (pa_cons pe_str (pa_cons pe_str (pa_cons pe_str (pa_cons pe_str (pa_cons pe_str (pa_cons pe_str (pa_cons pe_str (pa_cons pe_str (pa_cons pe_str (pa_cons pe_str pa_nil)))))))))))))
        (pss_cons (ps_set (i := 2) scNameL.nd rfl (Or.inr rfl) pe_str)
        (pss_cons (ps_if (PW.pt (pw_or (pt_not (pt_chain q_le q_le pe_int (pe_callB q_len (by rfl) T.len (by decide +kernel) (pa_cons (pv 0) pa_nil)) pe_int)) (pw_or (pt_cmpR q_notInSign (pe_ix q_ix (pv 0) pe_int (fun _ _ => rfl)) (pv 2) (by rfl)) (pw_or1 (pt_cmpR op_in_seq (pv 0) (pv 1) (by rfl)))))) (pss_one (ps_ret pe_bl)) pss_nil)
        (pss_one (ps_ret (pe_cmpR (q_eq hu64) (pe_lc (own := [("_law_sign", 3)]) (g := gName 3) rfl scNameL.nd (pi_str (pv 0)) (blkOk_by (own := [("_law_sign", 3)]) (N := nNameL) (sc := defScope sNameL) (by decide +kernel)) (fun _ _ _ _ _ => (pg_name (i := 3) scNameL.nd rfl (by first | exact Or.inl rfl | exact Or.inr rfl))) (fun _ _ _ _ _ => (pts_one (pt_cmpR q_notInSign (pv 3) (pe_op q_add (pv 2) pe_str) (by rfl)))) (fun _ _ _ _ _ => (pv 3))) (pe_lst pa_nil) (nomark _)))))))), ?_⟩
    have w0 := wd_pure sG
    have l10 : (Str.ofString "0123456789").length = 10 := by decide
    have l26 : zLetters.length = 26 := by decide
    have no : nmOk z = false → ∀ (G' H' : Hp), Wd ⟨H, G, [], []⟩ G' H' [] → Q (.bl false) H' := fun e G' H' w' => ret_of k w' (by rw [e])
    walk_at "qq"
    rename_i lb G1 H1 n1 w1 s1 h1 t1
    have hb : G1 lb = some (.lst resV) := h1
    clear h1
    refine ite_d (fun c1 => ?_) (fun c1 => ?_)
    · walk_at "qq"
      refine ite_nd (fun c2 => ?_) (fun c2 => ?_)
      · walk_at "qq"
        exact no (by unfold nmOk; rw [decide_eq_false (by omega : ¬ z.length ≤ 8)]; simp) _ _ w1
      · obtain ⟨a, r, hc⟩ : ∃ a r, z.cps.toList = a :: r := by
          cases hc : z.cps.toList with
          | nil =>
            have e : z.length = 0 := by rw [len_list, hc]; rfl
            omega
          | cons a r => exact ⟨a, r, rfl⟩
        have h0 : atI z.cps.toList 0 = some a := by rw [hc]; exact atI_0 a r
        have hn : nmOk z = (!inV (.str z) resV && (letB a && z.cps.toList.all fun c => letB c || figB c)) := by
          unfold nmOk
          rw [decide_eq_true (by omega : 1 ≤ z.length), decide_eq_true (by omega : z.length ≤ 8), hc]
          rfl
        walk_at "qq"
        refine ite_nd (fun c4 => ?_) (fun c4 => ?_)
        · walk_at "qq"
          exact no (by rw [hn]; have e1 : letB a = false := decide_eq_false c4; rw [e1]; simp) _ _ w1
        · have e1 : letB a = true := decide_eq_true c4
          walk_at "qq"
          refine ite_b (fun c3 => ?_) (fun c3 => ?_)
          · walk_at "qq"
            exact no (by rw [hn, c3]; rfl) _ _ w1
          · walk_at "qq"
            refine lc_go w1 walk_str (fun i acc _ _ => acc = (((z.cps.toList.take i).filter fun c => !(letB c || figB c)).map fun c => (⟨#[c]⟩ : Str)).map V.str) (fun _ _ _ _ _ => rfl) (fun _ _ _ _ _ _ _ => trivial) ?_ ?_
            · rintro Dd i acc Gi H2 x H3 hi hl w2 s2 hD nm rfl ⟨rfl, c', hc', rfl⟩
              have hi' : i ≤ 1000000 := by have e : z.cps.size = z.length := rfl; omega
              have hc2 : z.cps.toList[i]? = some c' := by simpa using hc'
              walk_at "qq"
              rw [both_sign]
              cases hb : (letB c' || figB c') with
              | false =>
                walk_at "qq"
                rw [filt_yes hc2 (by rw [hb]; rfl), List.map_append, List.map_append]
                rfl
              | true =>
                walk_at "qq"
                refine ⟨_, Gi, w2, s2, hD, Nat.le_succ_of_le hl, ?_⟩
                show _ = _
                rw [filt_no hc2 (by rw [hb]; decide)]
            · rintro p acc Gi Gp H2 hl w2 s2 s3 hp rfl
              walk_at "qq"
              rename_i l4 G4 H4 n4 w4 s4 h4 t4
              rw [List.take_of_length_le (by simp)] at hp
              have hp4 := s4 _ _ hp
              refine r_eqD (d := .list (((z.cps.toList.filter fun c => !(letB c || figB c)).map fun c => (⟨#[c]⟩ : Str)).map PyData.str)) (e := .list []) (wd_dp w4 (.lst (SqL.of hp4) (dp_map V.str PyData.str (fun x => .str x) _))) (wd_dp w4 (.lst (SqL.of h4) .nil)) (shaped_strs fun y hy => ?_) shaped_nil ?_
              · obtain ⟨c, hcm, rfl⟩ := List.mem_map.mp hy
                exact strOk_sign htx c (List.mem_filter.mp hcm).1
              refine ret_of k w4 ?_
              rw [eqv_nil, hn, e1, c3, Bool.true_and, Bool.not_false, Bool.true_and]
              congr 1
              rw [Bool.eq_iff_iff, List.isEmpty_iff, List.all_eq_true]
              simp only [List.map_eq_nil_iff, List.filter_eq_nil_iff]
              constructor
              · intro h c hc
                have q := h c hc
                cases hb : (letB c || figB c)
                · rw [hb] at q
                  exact absurd rfl q
                · rfl
              · intro h c hc
                rw [h c hc]
                decide
    · walk_at "qq"
      exact no (by unfold nmOk; rw [decide_eq_false (by omega : ¬ 1 ≤ z.length)]; simp) _ _ w1
abbrev nMomL : List Str := ["_law_word", "_law_sign"]
theorem scMomL : FnScope nMomL ["_law_word"] (defScope sMomL) := ⟨rfl, rfl, rfl, by decide +kernel, rfl, by decide +kernel, by decide +kernel⟩
theorem ok_momL {f : Addr} {fd : FuncData} (F : FnP K "_law_is_moment" "_law_is_moment" sMomL [] f fd) (T : Bi mg) : FnOk P w K mg base CX0 2 f fd ["_law_word"] spMomL := by
  refine fnP_ok F scMomL (fun vs H Q E h => ?_) (fun cdv A outer s H vs Q E hr h => ?_)
  · obtain ⟨G, s', rfl, _⟩ := h
    rfl
  · obtain ⟨G, z, rfl, sG, hz, htx, k⟩ := h
    have hu64 := hr.units
    refine ⟨_, (pss_cons (ps_if (PW.pt (pw_or (pt_not (pt_chain q_le q_le pe_int (pe_callB q_len (by rfl) T.len (by decide +kernel) (pa_cons (pv 0) pa_nil)) pe_int)) (pw_or1 (pt_cmpR (q_ne hu64) (pe_lc (own := [("_law_sign", 1)]) (g := gName 1) rfl scMomL.nd (pi_str (pv 0)) (blkOk_by (own := [("_law_sign", 1)]) (N := nMomL) (sc := defScope sMomL) (by decide +kernel)) (fun _ _ _ _ _ => (pg_name (i := 1) scMomL.nd rfl (by first | exact Or.inl rfl | exact Or.inr rfl))) (fun _ _ _ _ _ => (pts_one (pt_cmpR q_notInSign (pv 1) pe_str (by rfl)))) (fun _ _ _ _ _ => (pv 1))) (pe_lst pa_nil) (nomark _))))) (pss_one (ps_ret pe_bl)) pss_nil)
        (pss_one (ps_ret (pe_and (pe_cmpR (q_eq hu64) (pe_callTy q_strN (by rfl) T.str (by decide +kernel) (pa_cons (pe_callTy call_int_str (by rfl) T.int (by decide +kernel) (pa_cons (pv 0) pa_nil)) pa_nil)) (pv 0) (nomark _)) (pe_one (pe_cmpR q_le (pe_callTy call_int_str (by rfl) T.int (by decide +kernel) (pa_cons (pv 0) pa_nil)) (pe_op q_pow pe_int pe_int) (nomark _))))))), ?_⟩
    have w0 := wd_pure sG
    have el := len_tl z
    have e30 : (10 : Int) ^ Int.toNat 30 = 1000000000000000000000000000000 := by decide
    have l10 : (Str.ofString "0123456789").length = 10 := by decide
    have no : numB z.cps.toList = false → ∀ (G' H' : Hp), Wd ⟨H, G, [], []⟩ G' H' [] → Q (.bl false) H' := fun e G' H' w' => ret_of k w' (by unfold momW; rw [e, if_neg (by simp)]; rfl)
    walk_at "qq"
    refine ite_d (fun c1 => ?_) (fun c1 => ?_)
    · walk_at "qq"
      refine ite_nd (fun c2 => ?_) (fun c2 => ?_)
      · walk_at "qq"
        exact no (by unfold numB; rw [decide_eq_false (by omega : ¬ z.cps.toList.length ≤ 31)]; simp) _ _ w0
      · have l1 : 1 ≤ z.cps.toList.length := by omega
        walk_at "qq"
        refine lc_go w0 walk_str (fun i acc _ _ => acc = (((z.cps.toList.take i).filter fun c => !figB c).map fun c => (⟨#[c]⟩ : Str)).map V.str) (fun _ _ _ _ _ => rfl) (fun _ _ _ _ _ _ _ => trivial) ?_ ?_
        · rintro Dd i acc Gi H2 x H3 hi hl w2 s2 hD nm rfl ⟨rfl, c', hc', rfl⟩
          have hi' : i ≤ 1000000 := by have e : z.cps.size = z.length := rfl; omega
          have hc2 : z.cps.toList[i]? = some c' := by simpa using hc'
          walk_at "qq"
          have ef : decide (c' ∈ (Str.ofString "0123456789").cps.toList) = figB c' := rfl
          rw [ef]
          cases hb : figB c' with
          | false =>
            walk_at "qq"
            rw [filt_yes hc2 (by rw [hb]; rfl), List.map_append, List.map_append]
            rfl
          | true =>
            walk_at "qq"
            refine ⟨_, Gi, w2, s2, hD, Nat.le_succ_of_le hl, ?_⟩
            show _ = _
            rw [filt_no hc2 (by rw [hb]; decide)]
        · rintro p acc Gi Gp H2 hl w2 s2 s3 hp rfl
          walk_at "qq"
          rename_i l4 G4 H4 n4 w4 s4 h4 t4
          rw [List.take_of_length_le (by simp)] at hp
          have hp4 := s4 _ _ hp
          refine r_neD (d := .list (((z.cps.toList.filter fun c => !figB c).map fun c => (⟨#[c]⟩ : Str)).map PyData.str)) (e := .list []) (wd_dp w4 (.lst (SqL.of hp4) (dp_map V.str PyData.str (fun x => .str x) _))) (wd_dp w4 (.lst (SqL.of h4) .nil)) (shaped_strs fun y hy => ?_) shaped_nil ?_
          · obtain ⟨c, hcm, rfl⟩ := List.mem_map.mp hy
            exact strOk_sign htx c (List.mem_filter.mp hcm).1
          have hall : (((z.cps.toList.filter fun c => !figB c).map fun c => (⟨#[c]⟩ : Str)).map PyData.str).isEmpty = z.cps.toList.all figB := by
            rw [Bool.eq_iff_iff, List.isEmpty_iff, List.all_eq_true]
            simp only [List.map_eq_nil_iff, List.filter_eq_nil_iff]
            constructor
            · intro h c hc
              have q := h c hc
              cases hb : figB c
              · rw [hb] at q
                exact absurd rfl q
              · rfl
            · intro h c hc
              rw [h c hc]
              decide
          rw [eqv_nil, hall]
          walk_at "qq"
          refine ite_nb (fun c3 => ?_) (fun c3 => ?_)
          · walk_at "qq"
            exact no (by unfold numB; rw [c3]; simp) _ _ w4
          · have hint := figs_int c3 (by omega) (by omega)
            have hlog := log_digits (figs_digits c3) (by omega)
            have e4 := num_text c3 l1
            have yes : ¬ (z.cps.toList.head? = some 48 ∧ 1 < z.cps.toList.length) → numB z.cps.toList = true := fun n => by
              unfold numB
              rw [c3, decide_eq_true l1, decide_eq_true (by omega : z.cps.toList.length ≤ 31)]
              have : (decide (z.cps.toList.head? = some 48) && decide (1 < z.cps.toList.length)) = false := by
                rw [Bool.and_eq_false_iff, decide_eq_false_iff_not, decide_eq_false_iff_not]
                exact Decidable.not_and_iff_or_not.mp n
              rw [this]
              rfl
            walk_at "qq"
            refine ⟨z, _, rfl, hint, by omega, ?_⟩
            walk_at "qq"
            refine ite_d (fun c5 => ?_) (fun c5 => ?_)
            · have en := yes (e4.mp (by injection c5))
              walk_at "qq"
              refine ⟨z, _, rfl, hint, by omega, ?_⟩
              walk_at "qq"
              rw [e30]
              refine ret_of k w4 (congrArg V.bl ?_)
              unfold momW
              by_cases q : ((NumText.digitsVal z.cps.toList : Nat) : Int) ≤ 1000000000000000000000000000000
              · rw [if_pos ⟨en, q⟩, decide_eq_true q]
                rfl
              · rw [if_neg fun h => q h.2, decide_eq_false q]
                rfl
            · have en : numB z.cps.toList = false := by
                by_cases q : z.cps.toList.head? = some 48 ∧ 1 < z.cps.toList.length
                · unfold numB
                  rw [decide_eq_true q.1, decide_eq_true q.2]
                  simp
                · exact absurd (by rw [e4.mpr q]) c5
              walk_at "qq"
              exact no en _ _ w4
    · walk_at "qq"
      exact no (by unfold numB; rw [decide_eq_false (by omega : ¬ 1 ≤ z.cps.toList.length)]; simp) _ _ w0
end
section
variable {P : Program} {w : World} {K : PySem.W.Frag} {mg : Str → Option Value} {base : Heap} {C Ce Ct : Addr}
abbrev nFitsL : List Str := ["_law_word", "_law_at"]
theorem scFitsL : FnScope nFitsL ["_law_word", "_law_at"] (defScope sFitsL) := ⟨rfl, rfl, rfl, by decide +kernel, rfl, by decide +kernel, by decide +kernel⟩
theorem ok_fitsL {f : Addr} {fd : FuncData} (F : FnP K "_law_fits" "_law_fits" sFitsL [] f fd) (Dn : Df P w K mg base CX0 2 "_law_is_name" [] spNameL) (Dm : Df P w K mg base CX0 2 "_law_is_moment" [] spMomL) : FnOk P w K mg base CX0 3 f fd ["_law_word", "_law_at"] spFitsL := by
  refine fnP_ok F scFitsL (fun vs H Q E h => ?_) (fun cdv A outer s H vs Q E hr h => ?_)
  · obtain ⟨G, z, k, rfl, _⟩ := h
    rfl
  · obtain ⟨G, z, k, rfl, hk, sG, hz, ht, kk⟩ := h
    have hu64 := hr.units
    refine ⟨_, (pss_cons (ps_if (pt_cmpR op_in_seq (pv 1) (pe_tup (pa_cons pe_int (pa_cons pe_int pa_nil))) (by rfl)) (pss_one (ps_ret (pe_callD Dn hr pass0 (pa_cons (pv 0) pa_nil)))) pss_nil)
        (pss_one (ps_ret (pe_ifExp (pt_cmpR (q_eq hu64) (pv 1) pe_int (nomark _)) (pe_callD Dm hr pass0 (pa_cons (pv 0) pa_nil)) (pe_cmpR (q_eq hu64) (pv 0) (pe_ix q_ix (pe_lst (pa_cons pe_str (pa_cons pe_str (pa_cons pe_str (pa_cons pe_str pa_nil))))) (pv 1) (fun _ _ => rfl)) (nomark _)))))), ?_⟩
    have w0 := wd_pure sG
    match k, hk with
    | 0, _ =>
      walk_at "qq"
      refine iteN (by first | rfl | decide) ?_
      walk_at "qq"
      refine iteN (by first | rfl | decide) ?_
      walk_at "qq"
      rename_i l1 G1 H1 n1 w1 s1 h1 t1 l2 G2 H2 n2 w2 s2 h2 t2
      refine ret_of kk w2 ?_
      exact congrArg V.bl (decide_eq_decide.mpr ⟨fun e => by injection e, fun e => by rw [e]⟩)
    | 1, _ =>
      walk_at "qq"
      refine iteY (by first | rfl | decide) ?_
      walk_at "qq"
      exact u_nameL (by assumption) hz ht fun G1 H1 w1 s1 t1 => ret_of kk w1 rfl
    | 2, _ =>
      walk_at "qq"
      refine iteN (by first | rfl | decide) ?_
      walk_at "qq"
      refine iteY (by first | rfl | decide) ?_
      walk_at "qq"
      exact u_momL (by assumption) hz ht fun G1 H1 w1 s1 t1 => ret_of kk w1 rfl
    | 3, _ =>
      walk_at "qq"
      refine iteN (by first | rfl | decide) ?_
      walk_at "qq"
      refine iteN (by first | rfl | decide) ?_
      walk_at "qq"
      rename_i l1 G1 H1 n1 w1 s1 h1 t1 l2 G2 H2 n2 w2 s2 h2 t2
      refine ret_of kk w2 ?_
      exact congrArg V.bl (decide_eq_decide.mpr ⟨fun e => by injection e, fun e => by rw [e]⟩)
    | 4, _ =>
      walk_at "qq"
      refine iteY (by first | rfl | decide) ?_
      walk_at "qq"
      exact u_nameL (by assumption) hz ht fun G1 H1 w1 s1 t1 => ret_of kk w1 rfl
abbrev nRdL : List Str := ["_law_words", "_law_at", "_law_deep", "_law_k", "_law_spot", "_law_has_lacked", "_law_branch", "_law_fault"]
theorem scRdL : FnScope nRdL ["_law_words", "_law_at", "_law_deep"] (defScope sRdL) := ⟨rfl, rfl, rfl, by decide +kernel, rfl, by decide +kernel, by decide +kernel⟩
theorem rdL_len (i : Nat) : ∀ vs H Q E, spRdL i vs H Q E → vs.length = ["_law_words", "_law_at", "_law_deep"].length := fun vs H Q E h => by
  cases i with
  | zero => exact h.elim
  | succ d =>
    obtain ⟨G, p, ws, n, rfl, _⟩ := h
    rfl
theorem ok_rdL0 {f : Addr} {fd : FuncData} (F : FnP K "_law_read" "_law_read" sRdL [] f fd) : FnOk P w K mg base CX0 3 f fd ["_law_words", "_law_at", "_law_deep"] (spRdL 0) :=
  fnP_ok F scRdL (rdL_len 0) fun cdv A outer s H vs Q E hr h => h.elim
theorem ok_rdL {kb d1 : Nat} {f : Addr} {fd : FuncData} (F : FnP K "_law_read" "_law_read" sRdL [] f fd) (T : Bi mg) (hkb : 3 ≤ kb) (Df_ : Df P w K mg base CX0 3 "_law_fits" [] spFitsL) (Di : Df P w K mg base CX0 kb "_law_read" [] (spRdL d1)) :
    FnOk P w K mg base CX0 (kb + 1) f fd ["_law_words", "_law_at", "_law_deep"] (spRdL (d1 + 1)) := by
  refine fnP_ok F scRdL (rdL_len (d1 + 1)) (fun cdv A outer s H vs Q E hr h => ?_)
  obtain ⟨G, p, ws, n, rfl, hd, sG, hw, hn, k⟩ := h
  have hu64 := hr.units
  have hr3 := hr.mono hkb
  refine ⟨_, (Evl.pss_cut (ps_if (PW.pt (pw_and (pt_cmpR q_lt (pv 1) (pe_callB q_len (by rfl) T.len (by decide +kernel) (pa_cons (pv 0) pa_nil)) (nomark _)) (pw_and1 (pt_cmpR (q_eq hu64) (pe_ix q_ix (pv 0) (pv 1) (fun _ _ => rfl)) pe_str (nomark _))))) (pss_one (ps_ret (pe_tup (pa_cons (pe_op q_add (pv 1) pe_int) (pa_cons pe_non pa_nil))))) pss_nil)
        (Evl.pss_cut (ps_if (PW.pt (pw_and (pt_cmpR q_lt (pv 1) (pe_callB q_len (by rfl) T.len (by decide +kernel) (pa_cons (pv 0) pa_nil)) (nomark _)) (pw_and1 (pt_cmpR (q_eq hu64) (pv 2) pe_int (nomark _))))) (pss_one (ps_ret (pe_tup (pa_cons pe_non (pa_cons (pv 1) pa_nil))))) pss_nil)
        (pss_cons (ps_for PassesOwn.never rfl (pi_range1 rfl T.range (pa_cons pe_int pa_nil)) (pg_name (i := 3) scRdL.nd rfl (Or.inl rfl)) (pss_one (ps_if (PW.pt (pw_or (pt_cmpR (q_eq hu64) (pe_op q_add (pv 1) (pv 3)) (pe_callB q_len (by rfl) T.len (by decide +kernel) (pa_cons (pv 0) pa_nil)) (nomark _)) (pw_or1 (pt_not (pt_val (pe_callD Df_ hr3 pass0 (pa_cons (pe_ix q_ix (pv 0) (pe_op q_add (pv 1) (pv 3)) (fun _ _ => rfl)) (pa_cons (pv 3) pa_nil)))))))) (pss_one (ps_ret (pe_tup (pa_cons pe_non (pa_cons (pe_op q_add (pv 1) (pv 3)) pa_nil))))) pss_nil)))
        (pss_cons (ps_par (i := 4) (j := 5) (by rfl) scRdL.nd rfl rfl (by decide) rfl rfl (pa_cons (pe_op q_add (pv 1) pe_int) (pa_cons pe_bl pa_nil)) (by rfl))
        (pss_cons (ps_for PassesOwn.never rfl (pi_range1 rfl T.range (pa_cons pe_int pa_nil)) (pg_name (i := 6) scRdL.nd rfl (Or.inl rfl)) (pss_one (ps_if (PW.pt (pw_and (pt_cmpR q_lt (pv 4) (pe_callB q_len (by rfl) T.len (by decide +kernel) (pa_cons (pv 0) pa_nil)) (nomark _)) (pw_and (pt_cmpR (q_eq hu64) (pe_ix q_ix (pv 0) (pv 4) (fun _ _ => rfl)) pe_str (nomark _)) (pw_and1 (pt_not (pt_val (pv 5))))))) (pss_one (ps_par (i := 4) (j := 5) (by rfl) scRdL.nd rfl rfl (by decide) rfl rfl (pa_cons (pe_op q_add (pv 4) pe_int) (pa_cons pe_bl pa_nil)) (by rfl))) (pss_cons (ps_asg (pe_callD Di hr pass0 (pa_cons (pv 0) (pa_cons (pv 4) (pa_cons (pe_op q_add (pv 2) pe_int) pa_nil))) (hj := Nat.le_refl _)) (pg_tup rfl (pgs_cons (pg_name (i := 4) scRdL.nd rfl (Or.inl rfl)) (pgs_cons (pg_name (i := 7) scRdL.nd rfl (Or.inl rfl)) pgs_nil))))
        (pss_one (ps_if (pt_cmpR q_notN (pv 7) pe_non (nomark _)) (pss_one (ps_ret (pe_tup (pa_cons pe_non (pa_cons (pv 7) pa_nil))))) pss_nil))))))
        (pss_one (ps_ret (pe_tup (pa_cons (pv 4) (pa_cons pe_non pa_nil)))))))))), ?_⟩
  have w0 := wd_pure sG
  have hwp := hw.1
  have hl := hw.2.1
  have fin : ∀ (r : Nat ⊕ (Tr Ck × Nat)) (q : Addr) (G' H' : Hp), rdP ws d1 n = r → Wd ⟨H, G, [], []⟩ G' H' [] → G' q = some (.tup (rdV r)) → Q (.ref q) H' := fun r q G' H' e w' h => ret_of k w' ⟨q, rfl, by rw [e]; exact h⟩
  have nth : n < ws.length → ∃ z, ws[n]? = some z ∧ atI (ws.map V.str) (n : Int) = some (.str z) := fun c => by
    have hz := List.getElem?_eq_getElem c
    exact ⟨_, hz, get_ix hz⟩
  walk_at "qq"
  refine ⟨fun σ' H' => σ' = L2.start nRdL [.ref p, .int (n : Int), .int (4 - (d1 : Int))] ∧ H' = H ∧ ¬ ws[n]? = some zDone, ?_, ?_⟩
  · walk_at "qq"
    refine ite_d (fun c1 => ?_) (fun c1 => ?_)
    · have c1 : n < ws.length := by simp only [List.length_map] at c1; omega
      obtain ⟨z, hz, hix⟩ := nth c1
      walk_at "qq"
      refine ite_d (fun c2 => ?_) (fun c2 => ?_)
      · have c2 : ws[n]? = some zDone := by rw [hz]; injection c2 with c2; rw [c2]
        have e1 : rdP ws d1 n = .inr (.done, n + 1) := by
          cases d1 with
          | zero => unfold rdP; exact if_pos c2
          | succ d => unfold rdP; exact if_pos c2
        walk_at "qq"
        rename_i l1 G1 H1 n1 w1 s1 h1 t1
        exact fin _ l1 G1 H1 e1 w1 h1
      · walk_at "qq"
        exact ⟨rfl, rfl, fun q => c2 (by rw [hz] at q; rw [Option.some.inj q])⟩
    · walk_at "qq"
      refine ⟨rfl, rfl, fun q => c1 ?_⟩
      have := (List.getElem?_eq_some_iff.mp q).1
      simp only [List.length_map]
      omega
  rintro σ' H' ⟨rfl, rfl, nd⟩
  walk_at "qq"
  refine ⟨fun σ' H2 => σ' = L2.start nRdL [.ref p, .int (n : Int), .int (4 - (d1 : Int))] ∧ H2 = H' ∧ (n < ws.length → d1 ≠ 0), ?_, ?_⟩
  · walk_at "qq"
    refine ite_d (fun c1 => ?_) (fun c1 => ?_)
    · walk_at "qq"
      refine ite_d (fun c2 => ?_) (fun c2 => ?_)
      · have e0 : d1 = 0 := by
          have : (4 : Int) - (d1 : Int) = 4 := by injection c2
          omega
        subst e0
        walk_at "qq"
        rename_i l1 G1 H1 n1 w1 s1 h1 t1
        exact fin (.inl n) l1 G1 H1 (by unfold rdP; exact if_neg nd) w1 h1
      · walk_at "qq"
        exact ⟨rfl, rfl, fun _ e => c2 (by rw [e] <;> rfl)⟩
    · walk_at "qq"
      refine ⟨rfl, rfl, fun q => absurd ?_ c1⟩
      simp only [List.length_map]
      omega
  rintro σ' H2 ⟨rfl, rfl, hd0⟩
  walk_at "qq"
  refine for_go walk_range (fun j σ Hx => ∃ (Gi : Hp) (y3 y4 y5 y6 y7 : Option V), σ = [some (.ref p), some (.int (n : Int)), some (.int (4 - (d1 : Int))), y3, y4, y5, y6, y7] ∧ Wd ⟨H2, G, [], []⟩ Gi Hx [] ∧ Same G Gi ∧ ∀ i, i < j → badAt ws n i = false)
    ⟨G, _, _, _, _, _, rfl, w0, Same.refl _, fun _ h => absurd h (Nat.not_lt_zero _)⟩ (fun _ _ _ _ _ => trivial) ?_ ?_
  · rintro j xj σ Ha Hb hj ⟨Gi, y3, y4, y5, y6, y7, rfl, wi, si, hb⟩ ⟨rfl, rfl⟩
    have hj5 : j < 5 := hj
    have hwi := hw.same si
    have hpi := hwi.1
    have e0 : (0 : Int) + (j : Int) = (j : Int) := Int.zero_add _
    have lenge : n + j ≤ ws.length := by
      by_cases q : n + j ≤ ws.length
      · exact q
      · have := hb (ws.length - n) (by omega)
        unfold badAt at this
        rw [List.getElem?_eq_none (by omega)] at this
        cases this
    have out : badAt ws n j = true → ∀ (q : Addr) (Gx Hx : Hp), Wd ⟨H2, G, [], []⟩ Gx Hx [] → Gx q = some (.tup [.non, .int ((n : Int) + (j : Int))]) → Q (.ref q) Hx := fun hx q Gx Hx wx hq => by
      refine fin (.inl (n + j)) q Gx Hx ?_ wx (by rw [hq]; show _ = some (HO.tup [V.non, V.int ((n + j : Nat) : Int)]); rw [Int.natCast_add])
      cases d1 with
      | zero =>
        have l : ws.length ≤ n := by
          by_cases q : n < ws.length
          · exact absurd rfl (hd0 q)
          · omega
        have : j = 0 := by omega
        subst this
        unfold rdP
        exact if_neg nd
      | succ d =>
        unfold rdP
        rw [if_neg nd, bad_here hj5 hx hb]
    show gName 3 (V.int (0 + (j : Int))) _ _ _
    rw [e0]
    walk_at "qq"
    refine ite_d (fun c1 => ?_) (fun c1 => ?_)
    · have c1 : n + j = ws.length := by
        injection c1 with c1
        simp only [List.length_map] at c1
        omega
      walk_at "qq"
      rename_i l1 G1 H1 n1 w1 s1 h1 t1
      refine out ?_ l1 G1 H1 w1 h1
      unfold badAt
      rw [List.getElem?_eq_none (by omega)]
    · have c1 : n + j < ws.length := by
        have : ¬ n + j = ws.length := fun e => c1 (by
          have e : (n : Int) + (j : Int) = ((ws.map V.str).length : Int) := by
            simp only [List.length_map]
            omega
          rw [e])
        omega
      obtain ⟨z, hz⟩ : ∃ z, ws[n + j]? = some z := ⟨_, List.getElem?_eq_getElem c1⟩
      have hix := get_ix2 hz
      have hbz : badAt ws n j = !okW j z := by
        unfold badAt
        rw [hz]
      obtain ⟨lz, tz⟩ := hw.2.2 z (List.mem_of_getElem? hz)
      walk_at "qq"
      refine u_fitsL wi hj5 lz tz fun G2 H3 w2 s2 t2 => ?_
      walk_at "qq"
      refine ite_nb (fun c3 => ?_) (fun c3 => ?_)
      · rw [c3] at hbz
        walk_at "qq"
        rename_i l1 G1 H1 n1 w1 s1 h1 t1
        exact out hbz l1 G1 H1 w1 h1
      · rw [c3] at hbz
        walk_at "qq"
        refine ⟨G2, _, _, _, _, _, rfl, w2, si.trans s2, fun i hi => ?_⟩
        rcases Nat.lt_succ_iff_lt_or_eq.mp hi with h | rfl
        · exact hb i h
        · exact hbz
  · rintro σ Hc ⟨Gi, y3, y4, y5, y6, y7, rfl, wi, si, hb⟩
    have fb : firstBad ws n = none := bad_none hb
    obtain ⟨c5, _⟩ := ck_at fb
    have hdd := hd0 (by omega)
    obtain ⟨d, rfl⟩ : ∃ d, d1 = d + 1 := by
      cases d1 with
      | zero => exact absurd rfl hdd
      | succ d => exact ⟨d, rfl⟩
    walk_at "qq"
    refine for_go walk_range (fun j σ Hx => ∃ (Gj : Hp) (y6 y7 : Option V) (spot : Nat) (lk : Bool), σ = [some (.ref p), some (.int (n : Int)), some (.int (4 - ((d + 1 : Nat) : Int))), y3, some (.int (spot : Int)), some (.bl lk), y6, y7] ∧ Wd ⟨H2, G, [], []⟩ Gj Hx [] ∧ Same G Gj ∧ TwoIv ws d n j spot lk)
      ⟨Gi, _, _, n + 5, false, by rw [Int.natCast_add]; rfl, wi, si, c5, .inl ⟨rfl, rfl, rfl⟩⟩ (fun _ _ _ _ _ => trivial) ?_ ?_
    · rintro j xj σ Ha Hb hj ⟨Gj, y6, y7, spot, lk, rfl, wj, sj, iv⟩ ⟨rfl, rfl⟩
      have hj2 : j < 2 := hj
      have hwj := hw.same sj
      have hpj := hwj.1
      have hspot := iv.1
      obtain ⟨st1, st2⟩ := two_step nd fb hj2 iv
      walk_at "qq"
      refine ite_d (fun c1 => ?_) (fun c1 => ?_)
      · have c1 : spot < ws.length := by simp only [List.length_map] at c1; omega
        obtain ⟨z, hz⟩ : ∃ z, ws[spot]? = some z := ⟨_, List.getElem?_eq_getElem c1⟩
        have hix := get_ix hz
        walk_at "qq"
        refine ite_d (fun c2 => ?_) (fun c2 => ?_)
        · have c2 : ws[spot]? = some zNone := by rw [hz]; injection c2 with c2; rw [c2]
          walk_at "qq"
          cases lk with
          | true =>
            refine iteN (by first | rfl | decide) ?_
            walk_at "qq"
            refine u_rdL (d := d) wj hwj (by omega) (by omega) hspot fun q G3 H3 w3 s3 t3 h3 => ?_
            have hno : brR (rdP ws d) ws spot (!true) = rdP ws d spot := if_neg (fun c => by cases c.1)
            cases hrd : rdP ws d spot with
            | inl k2 =>
              rw [hrd] at h3
              have h3 : G3 q = some (.tup [.non, .int (k2 : Int)]) := h3
              walk_at "qq"
              refine iteY (by first | rfl | decide) ?_
              walk_at "qq"
              rename_i l4 G4 H4 n4 w4 s4 h4 t4
              exact fin (.inl k2) l4 G4 H4 (st2 k2 (by rw [hno, hrd])) w4 h4
            | inr te =>
              obtain ⟨tt, ee⟩ := te
              rw [hrd] at h3
              have h3 : G3 q = some (.tup [.int (ee : Int), .non]) := h3
              walk_at "qq"
              refine iteN (by first | rfl | decide) ?_
              walk_at "qq"
              refine ⟨G3, _, _, ee, true, rfl, w3, sj.trans s3, st1 tt ee (by rw [hno, hrd]) true fun e0 => ?_⟩
              have okt := (rdP_ok ws d spot tt ee hrd).2
              have nn : tt.isNo = false := by
                cases tt with
                | no => cases d <;> cases okt
                | done => rfl
                | ask _ _ _ => rfl
              rw [nn]
              rcases iv.2 with ⟨_, _, e2⟩ | ⟨e1, _⟩ | ⟨e1, _⟩
              · exact e2
              · omega
              · omega
          | false =>
            refine iteY (by first | rfl | decide) ?_
            walk_at "qq"
            exact ⟨Gj, _, _, spot + 1, true, rfl, wj, sj, st1 .no (spot + 1) (if_pos ⟨rfl, c2⟩) true fun _ => rfl⟩
        · walk_at "qq"
          refine u_rdL (d := d) wj hwj (by omega) (by omega) hspot fun q G3 H3 w3 s3 t3 h3 => ?_
          have hno : brR (rdP ws d) ws spot (!lk) = rdP ws d spot := if_neg (fun c => c2 (by have := c.2; rw [hz] at this; rw [Option.some.inj this]))
          cases hrd : rdP ws d spot with
          | inl k2 =>
            rw [hrd] at h3
            have h3 : G3 q = some (.tup [.non, .int (k2 : Int)]) := h3
            walk_at "qq"
            refine iteY (by first | rfl | decide) ?_
            walk_at "qq"
            rename_i l4 G4 H4 n4 w4 s4 h4 t4
            exact fin (.inl k2) l4 G4 H4 (st2 k2 (by rw [hno, hrd])) w4 h4
          | inr te =>
            obtain ⟨tt, ee⟩ := te
            rw [hrd] at h3
            have h3 : G3 q = some (.tup [.int (ee : Int), .non]) := h3
            walk_at "qq"
            refine iteN (by first | rfl | decide) ?_
            walk_at "qq"
            refine ⟨G3, _, _, ee, lk, rfl, w3, sj.trans s3, st1 tt ee (by rw [hno, hrd]) lk fun e0 => ?_⟩
            have okt := (rdP_ok ws d spot tt ee hrd).2
            have nn : tt.isNo = false := by
              cases tt with
              | no => cases d <;> cases okt
              | done => rfl
              | ask _ _ _ => rfl
            rw [nn]
            rcases iv.2 with ⟨_, _, e2⟩ | ⟨e1, _⟩ | ⟨e1, _⟩
            · exact e2
            · omega
            · omega
      · walk_at "qq"
        refine u_rdL (d := d) wj hwj (by omega) (by omega) hspot fun q G3 H3 w3 s3 t3 h3 => ?_
        have hno : brR (rdP ws d) ws spot (!lk) = rdP ws d spot := if_neg (fun c => c1 (by have := (List.getElem?_eq_some_iff.mp c.2).1; simp only [List.length_map]; omega))
        cases hrd : rdP ws d spot with
        | inl k2 =>
          rw [hrd] at h3
          have h3 : G3 q = some (.tup [.non, .int (k2 : Int)]) := h3
          walk_at "qq"
          refine iteY (by first | rfl | decide) ?_
          walk_at "qq"
          rename_i l4 G4 H4 n4 w4 s4 h4 t4
          exact fin (.inl k2) l4 G4 H4 (st2 k2 (by rw [hno, hrd])) w4 h4
        | inr te =>
          obtain ⟨tt, ee⟩ := te
          rw [hrd] at h3
          have h3 : G3 q = some (.tup [.int (ee : Int), .non]) := h3
          walk_at "qq"
          refine iteN (by first | rfl | decide) ?_
          walk_at "qq"
          refine ⟨G3, _, _, ee, lk, rfl, w3, sj.trans s3, st1 tt ee (by rw [hno, hrd]) lk fun e0 => ?_⟩
          have okt := (rdP_ok ws d spot tt ee hrd).2
          have nn : tt.isNo = false := by
            cases tt with
            | no => cases d <;> cases okt
            | done => rfl
            | ask _ _ _ => rfl
          rw [nn]
          rcases iv.2 with ⟨_, _, e2⟩ | ⟨e1, _⟩ | ⟨e1, _⟩
          · exact e2
          · omega
          · omega
    · rintro σ Hd ⟨Gj, y6, y7, spot, lk, rfl, wj, sj, iv⟩
      walk_at "qq"
      rename_i l4 G4 H4 n4 w4 s4 h4 t4
      obtain ⟨_, ⟨e1, _⟩ | ⟨e1, _⟩ | ⟨_, t, ht⟩⟩ := iv
      · cases e1
      · cases e1
      · exact fin (.inr (t, spot)) l4 G4 H4 ht w4 h4
end
section
variable {P : Program} {w : World} {K : PySem.W.Frag} {mg : Str → Option Value} {base : Heap} {C Ce Ct Cb : Addr}
abbrev nDuePl : List Str := ["_law_page", "_law_lines", "_law_words", "_law_end", "_law_fault"]
theorem scDuePl : FnScope nDuePl ["_law_page"] (defScope sDuePl) := ⟨rfl, rfl, rfl, by decide +kernel, rfl, by decide +kernel, by decide +kernel⟩
theorem ok_dueP {f : Addr} {fd : FuncData} (F : FnP K "_law_due" "_law_due" sDuePl [] f fd) (T : Bi mg) (Dr : Df P w K mg base CX0 8 "_law_read" [] (spRdL 5)) : FnOk P w K mg base CX0 9 f fd ["_law_page"] spDueP := by
  refine fnP_ok F scDuePl (fun vs H Q E h => ?_) (fun cdv A outer s H vs Q E hr h => ?_)
  · obtain ⟨G, s', rfl, _⟩ := h
    rfl
  · obtain ⟨G, z, rfl, sG, lz, low, k⟩ := h
    have hu64 := hr.units
    refine ⟨_, (pss_cons (ps_set (i := 1) scDuePl.nd rfl (Or.inl rfl) (pe_splitQ (pv 0) pe_str))
        (pss_cons (ps_set (i := 2) scDuePl.nd rfl (Or.inl rfl) (pe_splitQ (pe_ix q_ix (pv 1) pe_int (fun _ _ => rfl)) pe_str))
        (pss_cons (ps_asg (pe_callD Dr hr pass0 (pa_cons (pv 2) (pa_cons pe_int (pa_cons pe_int pa_nil)))) (pg_tup rfl (pgs_cons (pg_name (i := 3) scDuePl.nd rfl (Or.inl rfl)) (pgs_cons (pg_name (i := 4) scDuePl.nd rfl (Or.inl rfl)) pgs_nil))))
        (pss_cons (ps_if (pt_cmpR q_notN (pv 4) pe_non (nomark _)) (pss_one (ps_ret (pe_tup (pa_cons pe_int (pa_cons (pv 4) pa_nil))))) pss_nil)
        (pss_cons (ps_if (pt_cmpR q_lt (pv 3) (pe_callB q_len (by rfl) T.len (by decide +kernel) (pa_cons (pv 2) pa_nil)) (nomark _)) (pss_one (ps_ret (pe_tup (pa_cons pe_int (pa_cons (pv 3) pa_nil))))) pss_nil)
        (pss_one (ps_ret (pe_ifExp (pt_cmpR q_gt (pe_callB q_len (by rfl) T.len (by decide +kernel) (pa_cons (pv 1) pa_nil)) pe_int (nomark _)) (pe_tup (pa_cons pe_int (pa_cons pe_int pa_nil))) pe_non)))))))), ?_⟩
    have w0 := wd_pure sG
    have bl0 : (zNl.length == 0) = false := by decide +kernel
    have bl1 : (zBlank.length == 0) = false := by decide +kernel
    obtain ⟨p0, r0, es⟩ := split_cons z zNl
    have lp0 := split_part (x := z) (y := zNl) (by decide +kernel) (show p0 ∈ Txt.split z zNl by rw [es]; exact List.mem_cons_self)
    have lowp : Low p0 := low_split low (show p0 ∈ Txt.split z zNl by rw [es]; exact List.mem_cons_self)
    have hix : atI ((Txt.split z zNl).map V.str) 0 = some (.str p0) := atI_nat (j := 0) (by rw [es]; rfl)
    have ew : wordsOf z = Txt.split p0 zBlank := by
      unfold wordsOf
      rw [es]
      rfl
    have lnw := split_len (x := p0) (y := zBlank) (by decide +kernel)
    have ls := split_len (x := z) (y := zNl) (by decide +kernel)
    have wz : ∀ y ∈ wordsOf z, y.length ≤ 1000000 ∧ PyData.strOk y = true := fun y hy => by
      rw [ew] at hy
      have l1 := split_part (x := p0) (y := zBlank) (by decide +kernel) hy
      exact ⟨by omega, low_str (low_split lowp hy)⟩
    rw [← ew] at lnw
    walk_at "qq"
    refine r_split bl0 (by omega) ?_
    refine r_lay w0 (split_sz bl0 (by omega)) (by intro ps y; cases y) fun l1 G1 H1 n1 w1 s1 h1 t1 => ?_
    walk_at "qq"
    refine r_split bl1 (by omega) ?_
    refine r_lay w1 (split_sz bl1 (by omega)) (by intro ps y; cases y) fun l2 G2 H2 n2 w2 s2 h2 t2 => ?_
    rw [← ew] at h2
    have h1' := s2 _ _ h1
    have hw2 : WsL G2 l2 (wordsOf z) := ⟨h2, by omega, wz⟩
    walk_at "qq"
    refine u_rdL (n := 0) (d := 4) w2 hw2 (by decide) (by decide) (Nat.zero_le _) fun q G3 H3 w3 s3 t3 h3 => ?_
    have h13 := s3 _ _ h1'
    have h23 := s3 _ _ h2
    cases hr4 : rdP (wordsOf z) 4 0 with
    | inl k2 =>
      rw [hr4] at h3
      have h3 : G3 q = some (.tup [.non, .int (k2 : Int)]) := h3
      have ed : dueP z = some (0, (k2 : Int)) := by unfold dueP pgR; rw [hr4]
      walk_at "qq"
      refine iteY (by first | rfl | decide) ?_
      walk_at "qq"
      rename_i l4 G4 H4 n4 w4 s4 h4 t4
      refine ret_of k w4 ?_
      rw [ed]
      exact ⟨l4, rfl, h4⟩
    | inr te =>
      obtain ⟨tt, ee⟩ := te
      rw [hr4] at h3
      have h3 : G3 q = some (.tup [.int (ee : Int), .non]) := h3
      walk_at "qq"
      refine iteN (by first | rfl | decide) ?_
      walk_at "qq"
      refine ite_d (fun c1 => ?_) (fun c1 => ?_)
      · have c1 : ee < (wordsOf z).length := by simp only [List.length_map] at c1; omega
        have ed : dueP z = some (0, (ee : Int)) := by unfold dueP pgR; rw [hr4]; simp only; rw [if_pos c1]
        walk_at "qq"
        rename_i l4 G4 H4 n4 w4 s4 h4 t4
        refine ret_of k w4 ?_
        rw [ed]
        exact ⟨l4, rfl, h4⟩
      · have c1 : ¬ ee < (wordsOf z).length := fun q => c1 (by simp only [List.length_map]; omega)
        have enl : ((Txt.split z (Str.ofString "\n")).map V.str).length = (Txt.split z zNl).length := List.length_map _
        walk_at "qq"
        refine ite_d (fun c2 => ?_) (fun c2 => ?_)
        · have c2 : 1 < (Txt.split z zNl).length := by rw [enl] at c2; omega
          have ed : dueP z = some (1, 0) := by unfold dueP pgR; rw [hr4]; simp only; rw [if_neg c1, if_pos c2]
          walk_at "qq"
          rename_i l4 G4 H4 n4 w4 s4 h4 t4
          refine ret_of k w4 ?_
          rw [ed]
          exact ⟨l4, rfl, h4⟩
        · have c2 : ¬ 1 < (Txt.split z zNl).length := fun q => c2 (by rw [enl]; omega)
          have ed : dueP z = none := by unfold dueP pgR; rw [hr4]; simp only; rw [if_neg c1, if_neg c2]
          walk_at "qq"
          refine ret_of k w3 ?_
          rw [ed]
          rfl
abbrev nHeardP : List Str := ["_law_page", "error"]
theorem scHeardP : FnScope nHeardP ["_law_page"] (defScope sHeardP) := ⟨rfl, rfl, rfl, by decide +kernel, rfl, by decide +kernel, by decide +kernel⟩
theorem ok_heardP {f : Addr} {fd : FuncData} (F : FnP K "_law_heard" "_law_heard" sHeardP [] f fd) (T : Bi mg) (hmT : mg "TillError" = some (.ref Ct)) (hPl : Gc mg "Plan" (.ref C)) (hBad : Gc mg "BadText" (.ref Cb)) (DR : CmD P w K mg base (L2.CX P w) 16 C "read" (spPlRead K C Ce Cb))
    (N1 : HdC K Cb "line") (N2 : HdC K Cb "word") (ex : PySem.W.exmOne K (.ref Cb) (.ref Ct) = some true) (kb : PySem.W.kitOne K (.ref Cb) (.ref Cb) = some true) : FnOk P w K mg base CX0 17 f fd ["_law_page"] (spHeardP K C Ce) := by
  refine fnP_ok F scHeardP (fun vs H Q E h => ?_) (fun cdv A outer s H vs Q E hr h => ?_)
  · obtain ⟨G, x, u, rfl, _⟩ := h
    rfl
  · obtain ⟨G, x, u, rfl, sG, hx, hz, k⟩ := h
    have hu64 := hr.units
    have hTill : Names (cxOf CX0 P w K mg base nHeardP "_law_heard" (defScope sHeardP) f cdv A outer s H E).nox "TillError" (.ref Ct) := ⟨rfl, by decide, .inl hmT⟩
    refine ⟨_, (pss_cons (ps_tryRet (X := (cxOf CX0 P w K mg base nHeardP "_law_heard" (defScope sHeardP) f cdv A outer s H E).nox) (i := 1) (tl := fun E => tCm C (spPlRead K C Ce Cb) E (tC (.ref C)) (tCons (tVar 0) tNil)) (ts := fun _ _ _ => tIfS (tAnd (tB (tCB (rIsU K) (tCons (tVar 1) (tCons (tC (.ref Cb)) tNil)))) (tB (tCB (rIsU K) (tCons (tVar 1) (tCons (tC (.ty "ValueError")) tNil))))) (tRet (tTup (tCons (tFldX K "line" (tVar 1)) (tCons (tFldX K "word" (tVar 1)) tNil)))) tNext) rfl rfl scHeardP.nd rfl rfl hTill (fun W pn xe E tk hW => pe_cmD (pe_gc hPl) DR hr (passes_call (W := W) tk fun _ _ _ _ h => hW _ _ _ _ h) (pa_cons (pv 0) pa_nil)) (fun b oe cls d pn _ _ => (pss_one (ps_if (PW.pt (pw_and (pt_val (pe_callB q_isi (by rfl) T.isinstance (by decide +kernel) (pa_cons (pv 1) (pa_cons (pe_gc hBad) pa_nil)))) (pw_and1 (pt_val (pe_callB q_isi (by rfl) T.isinstance (by decide +kernel) (pa_cons (pv 1) (pa_cons (pe_bltn (v := .ty "ValueError") (by rfl) T.ValueError (by decide +kernel) rfl) pa_nil))))))) (pss_one (ps_ret (pe_tup (pa_cons (pe_xv (pv 1)) (pa_cons (pe_xv (pv 1)) pa_nil))))) pss_nil))))
        (pss_one (ps_ret pe_str))), ?_⟩
    have w0 := wd_pure sG
    walk_at "qq"
    refine ⟨fun cls d H' => ∃ G' l j dd, Wd ⟨H, G, [], []⟩ G' H' [] ∧ cls = .ref Cb ∧ valR x = .inl (l, j) ∧ d = some dd ∧ G' dd = some (.xd (textF l j)), fun cls d σ' H' told => ?_, ?_⟩
    · obtain ⟨G', l, j, dd, wq, rfl, hdue, rfl, hdd⟩ := told
      refine ⟨ex, fun a ha hlen => ?_⟩
      match σ', hlen with
      | [x0, x1], _ =>
        have w1 := wd_lay (o := ExK (.ref Cb) (some dd) a) wq ha exK_nt
        have s1 : Same G' (upd G' a (ExK (.ref Cb) (some dd) a)) := same_upd (wq.g ha)
        have g1 : upd G' a (ExK (.ref Cb) (some dd) a) a = some (ExK (.ref Cb) (some dd) a) := upd_same
        have gd := s1 _ _ hdd
        generalize upd G' a (ExK (.ref Cb) (some dd) a) = G1 at *
        generalize upd H' a (ExK (.ref Cb) (some dd) a) = H1 at *
        walk_at "qq"
        refine r_isuK (w1.le _ _ g1) (w1.le _ _ gd) N1.e kb ?_
        walk_at "qq"
        refine r_isuT (w1.le _ _ g1) (w1.le _ _ gd) N1.e N1.v ?_
        walk_at "qq"
        refine r_fldX (w1.le _ _ g1) (w1.le _ _ gd) N1.x N1.n rfl ?_
        walk_at "qq"
        refine r_fldX (w1.le _ _ g1) (w1.le _ _ gd) N2.x N2.n rfl ?_
        walk_at "qq"
        rename_i p9 G9 H9 n9 w9 s9 h9 t9
        exact ret_of k w9 (.inl ⟨l, j, hdue, p9, rfl, h9⟩)
    · refine r_tCm ?_
      walk_at "qq"
      refine u_plRead w0 hx hz (fun t ht v G1 H1 w1 s1 t1 hb => ?_) (fun l j hdue d G' H' w' s' t' hd => ⟨G', l, j, d, w', rfl, hdue, rfl, hd⟩)
      exact ret_of k w1 (.inr ⟨t, ht, hb⟩)
end
section
variable {P : Program} {w : World} {K : PySem.W.Frag} {mg : Str → Option Value} {base : Heap}
/-- behind the k-th question: the words as they are now -/
def BentR (e : En) (p c l lo : Addr) (z : Str) (G5 : Hp) (n j : Nat) (d3 : Int) (ws : List Str) (k : Int) (σ' : L2.St) (H' : Hp) : Prop := ∃ (Gi : Hp) (lw : Addr) (ws' : List Str), σ' = [some (.ref p), some (.str z), some (.ref lw), some (.int (j : Int)), some (.int d3), some (.ref lo), none, none, none] ∧
  Wd e Gi H' [l, p] ∧ Same G5 Gi ∧ PenAt p c (n + 4) H' ∧ H' lw = some (.lst (ws'.map V.str)) ∧ Wt ws' (z.length + 34) ∧ lw ≠ p ∧ (d3 ≠ 4 → lw = l) ∧ (k < d3 → ws' = ws ∧ lw = l ∧ PenAt p c (n + 2) H') ∧ (d3 ≤ 4 → PenAt p c (n + 3) H')
abbrev nBentP : List Str := ["_law_pen_here", "_law_page", "_law_words", "_law_at", "_law_way", "_law_odd", "_law_ends", "_law_found", "_law_k"]
theorem scBentP : FnScope nBentP ["_law_pen_here", "_law_page"] (defScope sBentP) := ⟨rfl, rfl, rfl, by decide +kernel, rfl, by decide +kernel, by decide +kernel⟩
theorem ok_bentP {f : Addr} {fd : FuncData} (F : FnP K "_law_bent" "_law_bent" sBentP [] f fd) (T : Bi mg) (Dd : Df P w K mg base CX0 2 "_law_draw" [] spDraw) (Dp : Df P w K mg base CX0 3 "_law_pick" [] (spPick K)) : FnOk P w K mg base CX0 4 f fd ["_law_pen_here", "_law_page"] spBentP := by
  refine fnP_ok F scBentP (fun vs H Q E h => ?_) (fun cdv A outer s H vs Q E hr h => ?_)
  · obtain ⟨G, p, c, n, z, rfl, _⟩ := h
    rfl
  · obtain ⟨G, p, c, n, z, rfl, sG, gp, hc, hp, hn, hz, hl, k⟩ := h
    have hu64 := hr.units
    have w0 : Wd ⟨H, G, [p], []⟩ G H [p] := by
      obtain ⟨a, g, h1, _⟩ := id hp
      exact wd_start sG (fun a h => by rw [List.mem_singleton.mp h]; exact ⟨gp, _, h1, rfl⟩) (by simp)
    refine ⟨_, (pss_cons (ps_set (i := 2) scBentP.nd rfl (Or.inr rfl) (pe_splitM (pv 1) pe_str))
        (pss_cons (ps_par (i := 3) (j := 4) (by rfl) scBentP.nd rfl rfl (by decide) rfl rfl (pa_cons (pe_callD Dd hr pass0 (pa_cons (pv 0) (pa_cons (pe_callB q_len (by rfl) T.len (by decide +kernel) (pa_cons (pv 2) pa_nil)) pa_nil))) (pa_cons (pe_callD Dd hr pass0 (pa_cons (pv 0) (pa_cons pe_int pa_nil))) pa_nil)) (by rfl))
        (pss_cons (ps_set (i := 5) scBentP.nd rfl (Or.inl rfl) (pe_lst (pa_cons pe_str (pa_cons pe_str (pa_cons pe_str (pa_cons pe_str (pa_cons pe_str (pa_cons pe_str (pa_cons pe_str (pa_cons pe_str (pa_cons pe_str (pa_cons pe_str (pa_cons (pe_op q_add pe_str (pe_op q_mulS pe_str pe_int)) (pa_cons pe_str pa_nil))))))))))))))
        (Evl.pss_cut (ps_if (pt_cmpR (q_eq hu64) (pv 4) pe_int (nomark _)) (pss_one (ps_asg (pe_callD Dp hr pass0 (pa_cons (pv 0) (pa_cons (pv 5) pa_nil))) (pg_sub (pv 2) (pv 3) set_list))) pss_nil)
        (Evl.pss_cut (ps_if (pt_cmpR (q_eq hu64) (pv 4) pe_int (nomark _)) (pss_one (ps_expr (pe_bm PySem.F.plainAttrs_list PySem.F.slot_list_pop PySem.F.type_list_pop mt_popAt (pv 2) (pa_cons (pv 3) pa_nil)))) pss_nil)
        (Evl.pss_cut (ps_if (pt_cmpR (q_eq hu64) (pv 4) pe_int (nomark _)) (pss_one (ps_expr (pe_bm PySem.F.plainAttrs_list PySem.F.slot_list_insert PySem.F.type_list_insert mt_ins (pv 2) (pa_cons (pv 3) (pa_cons (pe_callD Dp hr pass0 (pa_cons (pv 0) (pa_cons (pv 5) pa_nil))) pa_nil))))) pss_nil)
        (Evl.pss_cut (ps_if (pt_cmpR (q_eq hu64) (pv 4) pe_int (nomark _)) (pss_one (ps_expr (pe_bm PySem.F.plainAttrs_list PySem.F.slot_list_append PySem.F.type_list_append mt_append (pv 2) (pa_cons (pe_callD Dp hr pass0 (pa_cons (pv 0) (pa_cons (pe_lst (pa_cons pe_str (pa_cons pe_str (pa_cons pe_str (pa_cons pe_str pa_nil))))) pa_nil))) pa_nil)))) pss_nil)
        (Evl.pss_cut (ps_if (pt_cmpR (q_eq hu64) (pv 4) pe_int (nomark _)) (pss_one (ps_set (i := 2) scBentP.nd rfl (Or.inr rfl) (pe_slice sl_list (pv 2) po_none (po_some (pv 3))))) pss_nil)
        (pss_cons (ps_setLc (i := 6) (own := [("_law_k", 8)]) (g := gName 8) rfl scBentP.nd rfl rfl (sw_true rfl rfl rfl (by decide +kernel)) (pi_range1 rfl T.range (pa_cons (pe_callB q_len (by rfl) T.len (by decide +kernel) (pa_cons (pv 2) pa_nil)) pa_nil)) (blkOk_by (own := [("_law_k", 8)]) (N := nBentP) (sc := defScope sBentP) (by decide +kernel)) (fun _ _ _ _ _ => (pg_name (i := 8) scBentP.nd rfl (by first | exact Or.inl rfl | exact Or.inr rfl))) (fun _ _ _ _ _ => (pts_one (pt_cmpR (show OpR _ (compareOp .In) (rIn K false) from op_in_seq) (pe_ix (show IxR _ (rIx K) from q_ix) (pv 2) (pv 8) (fun _ _ => rfl)) (pe_tup (pa_cons pe_str (pa_cons pe_str pa_nil))) (by rfl)))) (fun _ _ _ _ _ => (pv 8)))
        (Evl.pss_cut (ps_if (PW.pt (pw_and (pt_cmpR q_gt (pv 4) pe_int (nomark _)) (pw_and1 (pt_cmpR (q_neNil hu64) (pv 6) (pe_lst pa_nil) (nomark _))))) (pss_one (ps_asg (pe_callD Dp hr pass0 (pa_cons (pv 0) (pa_cons (pe_lst (pa_cons pe_str (pa_cons pe_str (pa_cons pe_str pa_nil)))) pa_nil))) (pg_sub (pv 2) (pe_callD Dp hr pass0 (pa_cons (pv 0) (pa_cons (pv 6) pa_nil))) set_list))) pss_nil)
        (pss_cons (ps_set (i := 7) scBentP.nd rfl (Or.inl rfl) (pe_joinQ pe_str (pv 2)))
        (pss_one (ps_ret (pe_ifExp (pt_cmpR q_gt (pe_callD Dd hr pass0 (pa_cons (pv 0) (pa_cons pe_int pa_nil))) pe_int (nomark _)) (pv 7) (pe_op q_add (pv 7) (pe_callD Dp hr pass0 (pa_cons (pv 0) (pa_cons (pe_lst (pa_cons pe_str (pa_cons pe_str (pa_cons pe_str pa_nil)))) pa_nil)))))))))))))))))), ?_⟩
    have bl1 : (zBlank.length == 0) = false := by decide +kernel
    have W0 := wt_split hl
    obtain ⟨y0, r0, es⟩ := split_cons z zBlank
    have hpos : 0 < (Txt.split z zBlank).length := by rw [es]; exact Nat.succ_pos _
    have hls := split_len (x := z) (y := zBlank) (by decide +kernel)
    generalize hws : Txt.split z zBlank = ws at *
    walk_at "qq"
    refine r_splitM bl1 (by omega) ?_
    rw [hws]
    refine r_layM w0 (sz_m (by omega)) (by rfl) fun l H1 n1 w1 h1 t1 d1 => ?_
    walk_at "qq"
    have dlp : l ≠ p := d1 p (by simp)
    have e1b : zBlank.length = 1 := by decide +kernel
    refine u_draw w1 (by simp) hc (hp.same t1) (by omega) (by rw [List.length_map]; omega) (by rw [List.length_map]; omega) fun d2 G2 H2 w2 s2 b2 P2 d20 d21 => ?_
    have h2 := b2 _ _ dlp h1
    obtain ⟨j, rfl⟩ := Int.eq_ofNat_of_zero_le d20
    have hj : j < ws.length := by rw [List.length_map] at d21; omega
    obtain ⟨y, hy⟩ : ∃ y, ws[j]? = some y := ⟨_, List.getElem?_eq_getElem hj⟩
    have hjs : (ws.map V.str)[j]? = some (.str y) := by rw [List.getElem?_map, hy] <;> rfl
    have ixo : ∀ {xs : List V} {m : Nat}, m < xs.length → ixN xs.length (m : Int) = some m := fun {xs m} h => by
      unfold ixN
      rw [if_pos (Int.natCast_nonneg _), if_pos (by omega)]
      rfl
    have hat : ixN (ws.map V.str).length (j : Int) = some j := ixo (by rw [List.length_map]; exact hj)
    walk_at "qq"
    refine u_draw w2 (by simp) (hc.same s2) P2 (by omega) (by decide) (by decide) fun d3 G3 H3 w3 s3 b3 P3 d30 d31 => ?_
    have h3 := b3 _ _ dlp h2
    walk_at "qq"
    refine r_mulS (n := 31) (by decide) (by decide) ?_
    walk_at "qq"
    rename_i lo G5 H5 n5 w5 s5 ho t5
    have S5 := s2.trans (s3.trans s5)
    have P5 := P3.same t5
    have h5 := t5 _ _ h3
    have odd : ∀ v ∈ [V.str "", .str "check", .str "by", .str "a", .str "0", .str "03", .str "none", .str "done", .str "sound", .str "None", .str (Str.ofString "1" ++ Txt.mul (Str.ofString "0") ((31 : Nat) : Int)), .str "done\n"],
        ∃ o : Str, v = .str o ∧ o.length ≤ 32 ∧ Low o := by
      intro v hv
      simp only [List.mem_cons, List.not_mem_nil, or_false] at hv
      rcases hv with rfl | rfl | rfl | rfl | rfl | rfl | rfl | rfl | rfl | rfl | rfl | rfl <;> exact ⟨_, rfl, by decide +kernel, low_of (by decide +kernel)⟩
    have W1 : Wt ws (z.length + 34) := wt_more W0 (by omega)
    have d3c : ∀ {m : Int}, V.int d3 = V.int m → d3 = m := fun e => by injection e
    refine ⟨BentR ⟨H, G, [p], []⟩ p c l lo z G5 n j d3 ws 0, ?_, ?_⟩
    · walk_at "qq"
      refine ite_d (fun q => ?_) (fun q => ?_)
      · have q := d3c q
        walk_at "qq"
        refine u_pick w5 (by simp) (hc.same S5) P5 (by omega) (.inl ⟨lo, rfl, .inl (SqL.of ho)⟩) (by simp) (Nat.le_of_ble_eq_true rfl) fun v6 G6 H6 w6 s6 b6 P6 m6 => ?_
        obtain ⟨o, rfl, lo1, lo2⟩ := odd v6 m6
        have h6 := b6 _ _ dlp h5
        walk_at "qq"
        refine r_setM w6 (by simp) h6 hat fun H7 w7 h7 b7 => ?_
        have e7 : (ws.map V.str).set j (.str o) = (ws.set j o).map V.str := (List.map_set ..).symm
        rw [e7] at h7
        exact ⟨G6, l, ws.set j o, rfl, w7, s6, (P6.but b7 dlp.symm).more (by omega), h7, wt_more (wt_set (i := j) W0 lo2 lo1) (by omega), dlp, fun _ => rfl, (fun q2 => absurd q2 (by omega)), fun _ => (P6.but b7 dlp.symm).more (by omega)⟩
      · walk_at "qq"
        exact ⟨G5, l, ws, rfl, w5, Same.refl _, P5.more (by omega), h5, W1, dlp, fun _ => rfl, (fun _ => ⟨rfl, rfl, P5⟩), fun _ => P5.more (by omega)⟩
    rintro σ1 H7 ⟨G7, lw7, ws7, rfl, w7, s7, P7, h7, W7, np7, g7, k7, m7⟩
    walk_at "qq"
    refine ⟨BentR ⟨H, G, [p], []⟩ p c l lo z G5 n j d3 ws 1, ?_, ?_⟩
    · walk_at "qq"
      refine ite_d (fun q => ?_) (fun q => ?_)
      · have q := d3c q
        obtain ⟨rfl, rfl, Pn⟩ := k7 (by omega)
        walk_at "qq"
        refine r_popM w7 (by simp) h7 (by omega) hjs fun H8 w8 h8 b8 => ?_
        have e8 : (ws7.map V.str).eraseIdx j = (ws7.eraseIdx j).map V.str := (er_map ws7 j).symm
        rw [e8] at h8
        walk_at "qq"
        exact ⟨G7, lw7, ws7.eraseIdx j, rfl, w8, s7, P7.but b8 dlp.symm, h8, wt_more (wt_erase (i := j) W0) (by omega), dlp, fun _ => rfl, (fun q2 => absurd q2 (by omega)), fun _ => (Pn.but b8 dlp.symm).more (by omega)⟩
      · have q : d3 ≠ 1 := fun e => q (by rw [e])
        walk_at "qq"
        exact ⟨G7, lw7, ws7, rfl, w7, s7, P7, h7, W7, np7, g7, (fun q2 => k7 (by omega)), m7⟩
    rintro σ1 H8 ⟨G8, lw8, ws8, rfl, w8, s8, P8, h8, W8, np8, g8, k8, m8⟩
    walk_at "qq"
    refine ⟨BentR ⟨H, G, [p], []⟩ p c l lo z G5 n j d3 ws 2, ?_, ?_⟩
    · walk_at "qq"
      refine ite_d (fun q => ?_) (fun q => ?_)
      · have q := d3c q
        obtain ⟨rfl, rfl, Pn⟩ := k8 (by omega)
        walk_at "qq"
        refine u_pick w8 (by simp) (hc.same (S5.trans s8)) Pn (by omega) (.inl ⟨lo, rfl, .inl (SqL.of (s8 _ _ ho))⟩) (by simp) (Nat.le_of_ble_eq_true rfl) fun v9 G9 H9 w9 s9 b9 P9 m9 => ?_
        obtain ⟨o, rfl, lo1, lo2⟩ := odd v9 m9
        have h9 := b9 _ _ dlp h8
        have wl := wt_all W8
        walk_at "qq"
        refine r_insB w9 (by simp) h9 (by rw [List.length_map]; omega) (by omega) (by omega) fun H10 w10 h10 b10 => ?_
        have e10 : (ws8.map V.str).take (Int.toNat (j : Int)) ++ [V.str o] ++ (ws8.map V.str).drop (Int.toNat (j : Int)) = (ws8.take j ++ [o] ++ ws8.drop j).map V.str := by
          rw [Int.toNat_natCast]
          simp
        rw [e10] at h10
        walk_at "qq"
        exact ⟨G9, lw8, _, rfl, w10, s8.trans s9, (P9.but b10 dlp.symm).more (by omega), h10, wt_more (wt_ins (i := j) (m := 33) W0 lo2 (by omega)) (by omega), dlp, fun _ => rfl, (fun q2 => absurd q2 (by omega)), fun _ => (P9.but b10 dlp.symm).more (by omega)⟩
      · have q : d3 ≠ 2 := fun e => q (by rw [e])
        walk_at "qq"
        exact ⟨G8, lw8, ws8, rfl, w8, s8, P8, h8, W8, np8, g8, (fun q2 => k8 (by omega)), m8⟩
    rintro σ1 H9 ⟨G9, lw9, ws9, rfl, w9, s9, P9, h9, W9, np9, g9, k9, m9⟩
    walk_at "qq"
    refine ⟨BentR ⟨H, G, [p], []⟩ p c l lo z G5 n j d3 ws 3, ?_, ?_⟩
    · walk_at "qq"
      refine ite_d (fun q => ?_) (fun q => ?_)
      · have q := d3c q
        obtain ⟨rfl, rfl, Pn⟩ := k9 (by omega)
        walk_at "qq"
        rename_i l6 G6 H6 n6 w6 s6 h6 t6
        refine u_pick w6 (by simp) (hc.same (S5.trans (s9.trans s6))) (Pn.same t6) (by omega) (.inl ⟨l6, rfl, .inl (SqL.of h6)⟩) (by simp) (Nat.le_of_ble_eq_true rfl) fun v7 G7 H7 w7 s7 b7 P7 m7 => ?_
        obtain ⟨o, rfl, lo1, lo2⟩ : ∃ o : Str, v7 = .str o ∧ o.length ≤ 32 ∧ Low o := by
          simp only [List.mem_cons, List.not_mem_nil, or_false] at m7
          rcases m7 with rfl | rfl | rfl | rfl <;> exact ⟨_, rfl, by decide, low_of (by decide +kernel)⟩
        have h7 := b7 _ _ dlp (t6 _ _ h9)
        have wl := wt_all W9
        walk_at "qq"
        rename_i H8 w8 h8 b8
        have e8 : ws9.map V.str ++ [V.str o] = (ws9 ++ [o]).map V.str := by simp
        rw [e8] at h8
        exact ⟨G7, lw9, _, rfl, w8, s9.trans (s6.trans s7), (P7.but b8 dlp.symm).more (by omega), h8, wt_more (wt_snoc (m := 33) W0 lo2 (by omega)) (by omega), dlp, fun _ => rfl, (fun q2 => absurd q2 (by omega)), fun _ => (P7.but b8 dlp.symm).more (by omega)⟩
      · have q : d3 ≠ 3 := fun e => q (by rw [e])
        walk_at "qq"
        exact ⟨G9, lw9, ws9, rfl, w9, s9, P9, h9, W9, np9, g9, (fun q2 => k9 (by omega)), m9⟩
    rintro σ1 H10 ⟨G10, lw10, ws10, rfl, w10, s10, P10, h10, W10, np10, g10, k10, m10⟩
    walk_at "qq"
    refine ⟨BentR ⟨H, G, [p], []⟩ p c l lo z G5 n j d3 ws 4, ?_, ?_⟩
    · walk_at "qq"
      refine ite_d (fun q => ?_) (fun q => ?_)
      · have q := d3c q
        obtain ⟨rfl, rfl, Pn⟩ := k10 (by omega)
        walk_at "qq"
        rename_i l6 G6 H6 n6 w6 s6 h6 t6
        obtain ⟨ys, e6, W6⟩ := cut_strs W0 none (some (j : Int))
        rw [e6] at h6
        have nlp : l6 ≠ p := fun e => by
          rw [e] at h6
          rw [(w6.mu p (by simp)).1] at h6
          cases h6
        exact ⟨G6, l6, ys, rfl, w6, s10.trans s6, (Pn.same t6).more (by omega), w6.le _ _ h6, wt_more W6 (by omega), nlp, (fun q2 => absurd q q2), (fun q2 => absurd q2 (by omega)), fun _ => (Pn.same t6).more (by omega)⟩
      · have q : d3 ≠ 4 := fun e => q (by rw [e])
        walk_at "qq"
        exact ⟨G10, lw10, ws10, rfl, w10, s10, P10, h10, W10, np10, g10, (fun q2 => k10 (by omega)), m10⟩
    rintro σ1 H11 ⟨G11, lw11, ws11, rfl, w11, s11, P11, h11, W11, np11, g11, k11, m11⟩
    walk_at "qq"
    refine ⟨_, rfl, by have := wt_all W11; rw [List.length_map]; omega, by have := wt_all W11; rw [List.length_map]; omega, ?_⟩
    refine lc_go w11 walk_range (fun i acc _ Hy => (∃ ks : List Nat, acc = ks.map (fun q : Nat => V.int (q : Int)) ∧ ∀ q ∈ ks, q < ws11.length) ∧ Hy lw11 = some (.lst (ws11.map V.str)) ∧ (d3 ≤ 4 → PenAt p c (n + 3) Hy) ∧ PenAt p c (n + 4) Hy ∧ (4 < d3 → PenAt p c (n + 2) Hy))
      (fun Dd H' _ s' _ => ⟨⟨[], rfl, fun q h => by cases h⟩, s' _ _ h11, fun q => (m11 q).same s', P11.same s', fun q => ((k11 q).2.2).same s'⟩) (fun _ _ _ _ _ _ _ => trivial) ?_ ?_
    · rintro Dd i acc Gi H12 x12 H13 hi hl12 w12 s12 hD nm ⟨⟨ks, rfl, hk⟩, hlw, m12, P12, k12⟩ ⟨rfl, rfl⟩
      have hi' : i < ws11.length := by simp only [List.length_map, Int.toNat_natCast] at hi; exact hi
      obtain ⟨y12, hy12⟩ : ∃ y, ws11[i]? = some y := ⟨_, List.getElem?_eq_getElem hi'⟩
      have hix : atI (ws11.map V.str) (0 + (i : Int)) = some (.str y12) := by
        rw [Int.zero_add]
        exact get_ix hy12
      have n12 : Dd ≠ p := nm p (by simp)
      walk_at "qq"
      rename_i l14 G14 H14 n14 w14 s14 h14 t14
      refine ite_b (fun c => ?_) (fun c => ?_)
      · walk_at "qq"
        have wl := wt_all W11
        refine r_lcAdd w14 (s12.trans s14) (t14 _ _ hD) hl12 (by omega) fun H5 w5' b5 => ?_
        refine ⟨⟨ks ++ [i], by rw [List.map_append]; show _ ++ [V.int (0 + (i : Int))] = _ ++ [V.int (i : Int)]; rw [Int.zero_add], fun q hq => ?_⟩, b5 _ _ (fun e => ?_) (t14 _ _ hlw), fun q => ((m12 q).same t14).but b5 n12.symm, (P12.same t14).but b5 n12.symm, fun q => ((k12 q).same t14).but b5 n12.symm⟩
        · rcases List.mem_append.mp hq with hq | hq
          · exact hk q hq
          · rw [List.mem_singleton.mp hq]
            exact hi'
        · have e1 := t14 _ _ hlw
          have e2 := t14 _ _ hD
          rw [e, e2] at e1
          injection e1 with e1
          injection e1 with e1
          cases ws11 with
          | nil => exact absurd hi' (Nat.not_lt_zero _)
          | cons w0 wr =>
            cases ks with
            | nil => cases e1
            | cons k0 kr =>
              injection e1 with e1 _
              cases e1
      · exact ⟨_, G14, w14, s12.trans s14, t14 _ _ hD, Nat.le_succ_of_le hl12, ⟨ks, rfl, hk⟩, t14 _ _ hlw, fun q => (m12 q).same t14, P12.same t14, fun q => (k12 q).same t14⟩
    · rintro l13 acc Gi G13 H13 hl13 w13 s13 s13' h13 ⟨⟨ks, rfl, hk⟩, hlw, m13, P13, k13⟩
      walk_at "qq"
      refine ⟨fun σ' H' => ∃ (Gc : Hp) (ws' : List Str), σ' = [some (.ref p), some (.str z), some (.ref lw11), some (.int (j : Int)), some (.int d3), some (.ref lo), some (.ref l13), none, none] ∧ Wd ⟨H, G, [p], []⟩ Gc H' [l, p] ∧ Same G13 Gc ∧ PenAt p c (n + 4) H' ∧ H' lw11 = some (.lst (ws'.map V.str)) ∧ Wt ws' (z.length + 34), ?_, ?_⟩
      · walk_at "qq"
        refine ite_d (fun c4 => ?_) (fun c4 => ?_)
        · obtain ⟨rfl, rfl, P2'⟩ := k11 c4
          have Pk := k13 c4
          walk_at "qq"
          rename_i l14 G14 H14 n14 w14 s14 h14 t14
          refine r_nil0 (wd_sqL w14 (SqL.of (s14 _ _ h13))) (wd_sqL w14 (SqL.of h14)) ⟨_, rfl, ?_⟩
          cases ks with
          | nil =>
            refine iteF ?_
            walk_at "qq"
            exact ⟨G14, ws11, rfl, w14, s14, P13.same t14, t14 _ _ hlw, W11⟩
          | cons k0 kr =>
            refine iteT ?_
            walk_at "qq"
            rename_i l15 G15 H15 n15 w15 s15 h15 t15
            have Sc := S5.trans (s11.trans (s13.trans (s14.trans s15)))
            refine u_pick w15 (by simp) (hc.same Sc) ((Pk.same t14).same t15) (by omega) (.inl ⟨l15, rfl, .inl (SqL.of h15)⟩) (by simp) (Nat.le_of_ble_eq_true rfl) fun v7 G7 H7 w7 s7 b7 P7 m7 => ?_
            obtain ⟨o, rfl, lo1, lo2⟩ : ∃ o : Str, v7 = .str o ∧ o.length ≤ 32 ∧ Low o := by
              simp only [List.mem_cons, List.not_mem_nil, or_false] at m7
              rcases m7 with rfl | rfl | rfl <;> exact ⟨_, rfl, by decide, low_of (by decide +kernel)⟩
            have hlw7 := b7 _ _ dlp (t15 _ _ (t14 _ _ hlw))
            have wl := wt_all W11
            walk_at "qq"
            refine u_pick w7 (by simp) (hc.same (Sc.trans s7)) P7 (by omega) (.inl ⟨l13, rfl, .inl (SqL.of (s7 _ _ (s15 _ _ (s14 _ _ h13))))⟩) (by simp) (Nat.le_trans hl13 (by rw [List.length_map]; omega)) fun v8 G8 H8 w8 s8 b8 P8 m8 => ?_
            obtain ⟨q8, hq8, rfl⟩ := List.mem_map.mp m8
            have lq := hk q8 hq8
            have hat8 : ixN (ws11.map V.str).length (q8 : Int) = some q8 := ixo (by rw [List.length_map]; exact lq)
            have hlw8 := b8 _ _ dlp hlw7
            walk_at "qq"
            refine r_setM w8 (by simp) hlw8 hat8 fun H9 w9 h9 b9 => ?_
            have e9 : (ws11.map V.str).set q8 (.str o) = (ws11.set q8 o).map V.str := (List.map_set ..).symm
            rw [e9] at h9
            walk_at "qq"
            exact ⟨G8, ws11.set q8 o, rfl, w9, s14.trans (s15.trans (s7.trans s8)), (P8.but b9 dlp.symm).more (by omega), h9, wt_more (wt_set (i := q8) W0 lo2 lo1) (by omega)⟩
        · walk_at "qq"
          exact ⟨G13, ws11, rfl, w13, Same.refl _, P13, hlw, W11⟩
      · rintro σ2 H14 ⟨G14, ws14, rfl, w14, s14, P14, h14, W14⟩
        have S14 := S5.trans (s11.trans (s13.trans s14))
        walk_at "qq"
        refine r_joinL (ys := ws14) (SqL.of h14) (by have := W14.1; rw [e1b]; omega) ?_
        have J := wt_join W14
        walk_at "qq"
        refine u_draw w14 (by simp) (hc.same S14) P14 (by omega) (by decide) (by decide) fun d15 G15 H15 w15 s15 b15 P15 d150 d151 => ?_
        walk_at "qq"
        refine ite_d (fun c5 => ?_) (fun c5 => ?_)
        · walk_at "qq"
          exact retP_of k (wd_drop w15 (List.sublist_cons_self _ _)) (P15.more (by omega)) ⟨_, rfl, Nat.le_trans J.1 (by omega), J.2⟩
        · walk_at "qq"
          rename_i l6 G6 H6 n6 w6 s6 h6 t6
          refine u_pick w6 (by simp) (hc.same (S14.trans (s15.trans s6))) (P15.same t6) (by omega) (.inl ⟨l6, rfl, .inl (SqL.of h6)⟩) (by simp) (Nat.le_of_ble_eq_true rfl) fun v7 G7 H7 w7 s7 b7 P7 m7 => ?_
          obtain ⟨o, rfl, lo1, lo2⟩ : ∃ o : Str, v7 = .str o ∧ o.length ≤ 32 ∧ Low o := by
            simp only [List.mem_cons, List.not_mem_nil, or_false] at m7
            rcases m7 with rfl | rfl | rfl <;> exact ⟨_, rfl, by decide, low_of (by decide +kernel)⟩
          refine r_addS (sz_m (Nat.le_trans (Nat.add_le_add J.1 lo1) (by omega))) ?_
          walk_at "qq"
          exact retP_of k (wd_drop w7 (List.sublist_cons_self _ _)) (P7.more (by omega)) ⟨_, rfl, by (rw [Str.length_append]; have := J.1; exact Nat.le_trans (Nat.add_le_add J.1 lo1) (by omega)), low_app J.2 lo2⟩
end
section
variable {P : Program} {w : World} {K : PySem.W.Frag} {mg : Str → Option Value} {base : Heap} {C Ce Cb : Addr}
abbrev nLaw : List Str := ["_law_script", "_law_pen_here", "_law_turn", "_law_ticks", "_law_checks", "_law_made", "_law_page", "_law_again", "_law_bent_here", "_law_due_here", "_law_heard_here", "_law_thing", "_law_some"]
theorem scLaw : FnScope nLaw ["_law_script"] (defScope sLaw) := ⟨rfl, rfl, rfl, by decide +kernel, rfl, by decide +kernel, by decide +kernel⟩
def spLaw (K : PySem.W.Frag) (cs : List (Addr × Addr)) : Sp := fun vs H Q _ => ∃ (a : Addr) (ns : List Int), vs = [.ref a] ∧ SqL K H a (ns.map V.int) ∧ ns.length ≤ 63 ∧ OnlyT cs H ∧ (∀ p ∈ cs, H p.2 = some (.tbl #[])) ∧ ∀ H', Q (.bl true) H'
theorem ok_law {f pT cR : Addr} {fd : FuncData} (F : FnP K "law" "law" sLaw [] f fd) (T : Bi mg) (S : PlC K C) (hPl : Gc mg "Plan" (.ref C)) (hne : PySem.W.findIn K (.ref C) "__ne__" = some (some (.builtin "object.__ne__")))
    (De : Df P w K mg base CX0 1 "_law_pen" [] (spPen K)) (Dd : Df P w K mg base CX0 2 "_law_draw" [] spDraw) (Dp : Df P w K mg base CX0 3 "_law_pick" [] (spPick K))
    (DE : MkD P w K mg base CX0 3 "Entry" Ce [] (spEntInit Ce)) (Dt : Df P w K mg base CX0 7 "_law_tree" [] (spLTree 5)) (Dpl : Df P w K mg base CX0 9 "_law_planned" [] (spPlanned C Ce 5))
    (Deq : SpD P w K mg base CX0 7 C "__eq__" (spPlEq C Ce 5)) (DSt : SpD P w K mg base CX0 16 C "__str__" (spPlStr C Ce 5))
    (DR : CmD P w K mg base (L2.CX P w) 16 C "read" (spPlRead K C Ce Cb)) (DRK : CmK P w K mg base (L2.CX P w) 16 C "read" ["text"] (fun vs zs => vs ++ zs) (spPlRead K C Ce Cb))
    (Dpt : Df P w K mg base CX0 19 "plan_text" [] (spPlanText C Ce)) (DptK : DfK P w K mg base CX0 19 "plan_text" ["plan"] (fun vs zs => vs ++ zs) (spPlanText C Ce))
    (Db : Df P w K mg base CX0 4 "_law_bent" [] spBentP) (Du : Df P w K mg base CX0 9 "_law_due" [] spDueP) (Dh : Df P w K mg base CX0 17 "_law_heard" [] (spHeardP K C Ce)) :
    FnA P w K mg base CX0 20 f fd ["_law_script"] (spLaw K [(cR, pT)]) := by
  refine fnP_okA F scLaw (fun vs H Q E h => ?_) (fun cdv A outer s H vs Q E g0 hr h => ?_)
  · obtain ⟨a, ns, rfl, _⟩ := h
    rfl
  · obtain ⟨a, ns, rfl, ha, hl, only, htb, k⟩ := h
    have hu64 := hr.units
    have e30 : (10 : Int) ^ Int.toNat 30 = 1000000000000000000000000000000 := by decide
    have e45 : costT 4 = 45 := by decide
    refine ⟨_, (pss_cons (ps_set (i := 1) scLaw.nd rfl (Or.inl rfl) (pe_callD De hr pass0 (pa_cons (pv 0) pa_nil)))
        (pss_cons (ps_for PassesOwn.never rfl (pi_range1 rfl T.range (pa_cons pe_int pa_nil)) (pg_name (i := 2) scLaw.nd rfl (Or.inl rfl)) (pss_cons (ps_set (i := 3) scLaw.nd rfl (Or.inl rfl) (pe_lst (pa_cons (pe_callD Dd hr pass0 (pa_cons (pv 1) (pa_cons pe_int pa_nil))) (pa_cons (pe_op q_pow pe_int pe_int) (pa_cons (pe_callD Dd hr pass0 (pa_cons (pv 1) (pa_cons (pe_op q_pow pe_int pe_int) pa_nil))) pa_nil)))))
        (pss_cons (ps_set (i := 4) scLaw.nd rfl (Or.inl rfl) (pe_lst (pa_cons (pe_makeD DE hr pass0 (pa_cons pe_str (pa_cons (pe_ix q_ix (pv 3) pe_int (fun _ _ => rfl)) (pa_cons pe_str pa_nil)))) (pa_cons (pe_makeD DE hr pass0 (pa_cons pe_str (pa_cons (pe_ix q_ix (pv 3) pe_int (fun _ _ => rfl)) (pa_cons pe_str pa_nil)))) (pa_cons (pe_makeD DE hr pass0 (pa_cons pe_str (pa_cons (pe_ix q_ix (pv 3) pe_int (fun _ _ => rfl)) (pa_cons pe_str pa_nil)))) pa_nil)))))
        (pss_cons (ps_set (i := 5) scLaw.nd rfl (Or.inl rfl) (pe_callD Dpl hr pass0 (pa_cons (pe_callD Dt hr pass0 (pa_cons (pv 1) (pa_cons pe_int (pa_cons pe_int pa_nil)))) (pa_cons (pv 4) pa_nil))))
        (pss_cons (ps_set (i := 6) scLaw.nd rfl (Or.inl rfl) (pe_callTy (show CallR _ (.type "str") (rStrI C (spPlStr C Ce 5) E0) from q_strD DSt hr pass0) (by rfl) T.str (by decide +kernel) (pa_cons (pv 5) pa_nil)))
        (pss_cons (ps_if (PW.pt (pw_or (pt_cmpR (show OpR _ (compareOp .NotEq) (rNeI K C (spPlEq C Ce 5) E0) from q_neD hne S.cm Deq hr pass0) (pe_cmD (pe_gc hPl) DR hr passX0 (pa_cons (pv 6) pa_nil)) (pv 5) (nomark _)) (pw_or (pt_cmpR (show OpR _ (compareOp .NotEq) (rNeI K C (spPlEq C Ce 5) E0) from q_neD hne S.cm Deq hr pass0) (pe_cmKD (pe_gc hPl) DRK hr passX0 (pk_cons (pv 6) pk_nil)) (pv 5) (nomark _)) (pw_or1 (pt_cmpR (q_ne hu64) (pe_callD Dpt hr pass0 (pa_cons (pv 5) pa_nil)) (pv 6) (nomark _)))))) (pss_one (ps_ret pe_bl)) pss_nil)
        (pss_cons (ps_for PassesOwn.never rfl (pi_range1 rfl T.range (pa_cons pe_int pa_nil)) (pg_name (i := 7) scLaw.nd rfl (Or.inl rfl)) (pss_cons (ps_set (i := 8) scLaw.nd rfl (Or.inl rfl) (pe_callD Db hr pass0 (pa_cons (pv 1) (pa_cons (pv 6) pa_nil))))
        (Evl.pss_cut (ps_if (pt_cmpR (q_eq hu64) (pe_callD Dd hr pass0 (pa_cons (pv 1) (pa_cons pe_int pa_nil))) pe_int (nomark _)) (pss_one (ps_set (i := 8) scLaw.nd rfl (Or.inl rfl) (pe_callD Db hr pass0 (pa_cons (pv 1) (pa_cons (pv 8) pa_nil))))) pss_nil)
        (pss_cons (ps_par (i := 9) (j := 10) (by rfl) scLaw.nd rfl rfl (by decide) rfl rfl (pa_cons (pe_callD Du hr pass0 (pa_cons (pv 8) pa_nil)) (pa_cons (pe_callD Dh hr pass0 (pa_cons (pv 8) pa_nil)) pa_nil)) (by rfl))
        (pss_cons (ps_if (PW.pt (pw_and (pt_cmpR q_isN (pv 9) pe_non (nomark _)) (pw_and1 (PW.pt (pw_or (pt_not (pt_val (pe_callB call_isi (by rfl) T.isinstance (by decide +kernel) (pa_cons (pv 10) (pa_cons (pe_gc hPl) pa_nil))))) (pw_or1 (pt_cmpR (q_ne hu64) (pe_callKw DptK hr pass0 (pk_cons (pv 10) pk_nil)) (pv 8) (nomark _)))))))) (pss_one (ps_ret pe_bl)) pss_nil)
        (pss_one (ps_if (PW.pt (pw_and (pt_cmpR q_notN (pv 9) pe_non (nomark _)) (pw_and1 (pt_cmpR (q_ne hu64) (pe_callB (call_repr g0 hu64) (by rfl) T.repr (by decide +kernel) (pa_cons (pv 10) pa_nil)) (pe_callB (call_repr g0 hu64) (by rfl) T.repr (by decide +kernel) (pa_cons (pv 9) pa_nil)) (nomark _))))) (pss_one (ps_ret pe_bl)) pss_nil)))))))
        (pss_cons (ps_set (i := 11) scLaw.nd rfl (Or.inl rfl) (pe_callD Dp hr pass0 (pa_cons (pv 1) (pa_cons (pe_lst (pa_cons pe_non (pa_cons pe_int (pa_cons pe_bl (pa_cons (pe_lst (pa_cons (pv 6) pa_nil)) (pa_cons (pe_tup (pa_cons (pv 6) pa_nil)) (pa_cons pe_dnewK (pa_cons (pv 5) pa_nil)))))))) pa_nil))))
        (pss_one (ps_if (pt_cmpR (q_ne hu64) (pe_callB (call_repr g0 hu64) (by rfl) T.repr (by decide +kernel) (pa_cons (pe_callD Dh hr pass0 (pa_cons (pv 11) pa_nil)) pa_nil)) (pe_callB (call_repr g0 hu64) (by rfl) T.repr (by decide +kernel) (pa_cons (pe_tup (pa_cons pe_int (pa_cons pe_int pa_nil))) pa_nil)) (nomark _)) (pss_one (ps_ret pe_bl)) pss_nil))))))))))
        (pss_cons (ps_set (i := 12) scLaw.nd rfl (Or.inl rfl) (pe_lst (pa_cons (pe_callD Dh hr pass0 (pa_cons pe_str pa_nil)) (pa_cons (pe_callD Dh hr pass0 (pa_cons pe_str pa_nil)) (pa_cons (pe_callD Dh hr pass0 (pa_cons pe_str pa_nil)) (pa_cons (pe_callD Dh hr pass0 (pa_cons pe_str pa_nil)) pa_nil))))))
        (pss_one (ps_ret (pe_cmpR (q_eq hu64) (pe_callB (call_repr g0 hu64) (by rfl) T.repr (by decide +kernel) (pa_cons (pv 12) pa_nil)) (pe_callB (call_repr g0 hu64) (by rfl) T.repr (by decide +kernel) (pa_cons (pe_lst (pa_cons (pe_tup (pa_cons pe_int (pa_cons pe_int pa_nil))) (pa_cons (pe_tup (pa_cons pe_int (pa_cons pe_int pa_nil))) (pa_cons (pe_tup (pa_cons pe_int (pa_cons pe_int pa_nil))) (pa_cons (pe_tup (pa_cons pe_int (pa_cons pe_int pa_nil))) pa_nil))))) pa_nil)) (nomark _))))))), ?_⟩
    obtain ⟨en, G0, w0, ha0, enT, cov', inP'⟩ := law_start "" only (htb _ (List.mem_singleton.mpr rfl)) ha
    walk_at "qq"
    refine u_pen w0 ha0 hl fun p c G1 H1 w1 s1 t1 hc P1 => ?_
    walk_at "qq"
    refine for_go walk_range (fun i σ Hx => ∃ (Gi : Hp) (x2 x3 x4 x5 x6 x7 x8 x9 x10 x11 x12 : Option V), σ = [some (.ref a), some (.ref p), x2, x3, x4, x5, x6, x7, x8, x9, x10, x11, x12] ∧ Wd en Gi Hx [p] ∧ Same G1 Gi ∧ PenAt p c (200 * i) Hx)
      ⟨G1, _, _, _, _, _, _, _, _, _, _, _, rfl, w1, Same.refl _, P1⟩ (fun _ _ _ _ _ => trivial) ?_ ?_
    · rintro i xi σ Ha Hb hi ⟨Gi, x2, x3, x4, x5, x6, x7, x8, x9, x10, x11, x12, rfl, wi, si, Pi⟩ ⟨rfl, hx⟩
      have hi6 : i < 6 := hi
      have hci := hc.same si
      walk_at "qq"
      refine u_draw wi (by simp) hci Pi (by omega) (by decide) (by decide) fun d1 G2 H2 w2 s2 b2 P2 d10 d11 => ?_
      walk_at "qq"
      refine u_draw w2 (by simp) (hci.same s2) P2 (by omega) (by decide) (by decide) fun d3 G3 H3 w3 s3 b3 P3 d30 d31 => ?_
      rw [e30] at d31
      walk_at "qq"
      rename_i l4 G4 H4 n4 w4 s4 h4 t4
      rw [e30] at h4
      have r1 : RightC (Str.ofString "a", d1, Str.ofString "b") := ⟨show nmOk (Str.ofString "a") = true by decide +kernel, show nmOk (Str.ofString "b") = true by decide +kernel, d10, by show d1 ≤ _; omega⟩
      have r2 : RightC (Str.ofString "by", 1000000000000000000000000000000, Str.ofString "check") := ⟨by decide +kernel, by decide +kernel, by decide, by decide⟩
      have r3 : RightC (Str.ofString "done", d3, Str.ofString "z9") := ⟨show nmOk (Str.ofString "done") = true by decide +kernel, show nmOk (Str.ofString "z9") = true by decide +kernel, d30, by show d3 ≤ _; omega⟩
      have S4 := s2.trans (s3.trans s4)
      walk_at "qq"
      refine u_ent w4 r1 fun e1 G5 H5 w5 s5 t5 he1 => ?_
      have h45 := s5 _ _ h4
      walk_at "qq"
      refine u_ent w5 r2 fun e2 G6 H6 w6 s6 t6 he2 => ?_
      have h46 := s6 _ _ h45
      walk_at "qq"
      refine u_ent w6 r3 fun e3 G7 H7 w7 s7 t7 he3 => ?_
      walk_at "qq"
      rename_i l8 G8 H8 n8 w8 s8 h8 t8
      have S8 := S4.trans (s5.trans (s6.trans (s7.trans s8)))
      have P8 := ((((P3.same t4).same t5).same t6).same t7).same t8
      have hck : ChecksAt Ce G8 l8 (ckOf (Str.ofString "a", d1, Str.ofString "b") (Str.ofString "by", 1000000000000000000000000000000, Str.ofString "check") (Str.ofString "done", d3, Str.ofString "z9")) :=
        ⟨e1, e2, e3, h8, he1.same (s6.trans (s7.trans s8)), he2.same (s7.trans s8), he3.same s8⟩
      have rck := right_ckOf r1 r2 r3
      generalize ckOf (Str.ofString "a", d1, Str.ofString "b") (Str.ofString "by", 1000000000000000000000000000000, Str.ofString "check") (Str.ofString "done", d3, Str.ofString "z9") = gg at hck rck
      walk_at "qq"
      refine u_lTree (d := 4) w8 (by simp) (hci.same S8) P8 (by omega) (by decide) (by decide) fun v9 t9 G9 H9 w9 s9 b9 P9 ht9 ok9 => ?_
      rw [e45] at P9
      walk_at "qq"
      refine u_planned (d := 4) (g := gg) w9 ht9 (by decide) (Bool.or_eq_true_iff.mpr (.inr ok9)) (hck.same s9) fun v10 G10 H10 w10 s10 t10 hb => ?_
      have okt : (t9.map gg).ok 4 = true := by rw [Tr.ok_map]; exact ok9
      have rt := Tr.right_map rck t9
      have lp := Tr.len4 rt okt
      have rd := pgR_back okt rt
      have S10 := S8.trans (s9.trans s10)
      have P10 := P9.same t10
      have ntm : (t9.map gg).isNo = false := by
        rw [Tr.isNo_map]
        cases t9 with
        | no => cases ok9
        | done => rfl
        | ask _ _ _ => rfl
      generalize t9.map gg = tm at *
      obtain ⟨ap, dxp, u1, u2, u3, blp, elp, esp, rfl, hap, _⟩ := id (hb.ins ntm)
      walk_at "qq"
      refine r_strI (w10.le _ _ hap) (u_plStr w10 hb (by decide) okt rt fun G11 H11 w11 s11 t11 => ⟨_, rfl, ?_⟩)
      have hb11 := hb.same s11
      have tinj : ∀ t', valR (.str tm.text) = .inr t' → tm = t' := fun t' e => by
        have e : pgR tm.text = .inr t' := e
        rw [rd] at e
        exact Sum.inr.inj e
      have nbad : ∀ l k, valR (.str tm.text) ≠ .inl (l, k) := fun l k e => by
        have e : pgR tm.text = .inl (l, k) := e
        rw [rd] at e
        cases e
      have lz : ∀ z, V.str tm.text = .str z → z.length ≤ 50000 := fun z e => by cases e; omega
      walk_at "qq"
      refine r_tCm ?_
      walk_at "qq"
      refine u_plRead w11 (kd_str _) lz (fun t' e1 v1 G12 H12 w12 s12 t12 hb12 => ?_) (fun l k e1 => absurd e1 (nbad l k))
      obtain rfl := tinj t' e1
      have hb12' := hb11.same s12
      obtain ⟨a12, dx12, _, _, _, _, _, _, rfl, ha12, _⟩ := id (hb12.ins ntm)
      walk_at "qq"
      refine r_neI (w12.le _ _ ha12) (same_ty w12.le (S.ty ((s11.trans s12) _ _ hap))) S.fme (u_plEq w12 hb12 hb12' (by decide) okt fun G13 H13 w13 s13 t13 => ⟨true, rfl, ?_⟩)
      walk_at "qq"
      refine r_tCmK ?_
      walk_at "qq"
      refine ⟨rfl, u_plRead w13 (kd_str _) lz (fun t' e1 v1 G14 H14 w14 s14 t14 hb14 => ?_) (fun l k e1 => absurd e1 (nbad l k))⟩
      obtain rfl := tinj t' e1
      have hb14' := hb12'.same (s13.trans s14)
      obtain ⟨a14, dx14, _, _, _, _, _, _, rfl, ha14, _⟩ := id (hb14.ins ntm)
      walk_at "qq"
      refine r_neI (w14.le _ _ ha14) (same_ty w14.le (S.ty ((s11.trans (s12.trans (s13.trans s14))) _ _ hap))) S.fme (u_plEq w14 hb14 hb14' (by decide) okt fun G15 H15 w15 s15 t15 => ⟨true, rfl, ?_⟩)
      have hb15 := hb14'.same s15
      walk_at "qq"
      refine u_planText w15 hb15 okt rt fun G16 H16 w16 s16 t16 => ?_
      walk_at "qq"
      refine ite_nd (fun h => absurd rfl h) fun _ => ?_
      have S16 : Same G10 G16 := s11.trans (s12.trans (s13.trans (s14.trans (s15.trans s16))))
      have P16 := (((((P10.same t11).same t12).same t13).same t14).same t15).same t16
      have hb16 := hb15.same s16
      obtain ⟨lp1, lowp⟩ := lp
      walk_at "qq"
      refine for_go walk_range (fun j σ Hx => ∃ (Gj : Hp) (y7 y8 y9 y10 y11 y12 : Option V), σ = [some (.ref a), some (.ref p), some xi, some (.ref l4), some (.ref l8), some (.ref ap), some (.str tm.text), y7, y8, y9, y10, y11, y12] ∧ Wd en Gj Hx [p] ∧ Same G16 Gj ∧ PenAt p c (200 * i + 47 + 13 * j) Hx)
        ⟨G16, _, _, _, _, _, _, rfl, w16, Same.refl _, P16.more (by omega)⟩ (fun _ _ _ _ _ => trivial) ?_ ?_
      · rintro j xj σ Hc Hd hj ⟨Gj, y7, y8, y9, y10, y11, y12, rfl, wj, sj, Pj⟩ ⟨rfl, hxj⟩
        have hj5 : j < 5 := hj
        have hcj := hci.same (S10.trans (S16.trans sj))
        walk_at "qq"
        refine u_bentP wj (by simp) hcj Pj (by omega) (by omega) lowp fun z1 Ga H1a wa sa ba Pa lz1 low1 => ?_
        walk_at "qq"
        refine ⟨fun σ' H' => ∃ (Gc : Hp) (z : Str), σ' = [some (.ref a), some (.ref p), some xi, some (.ref l4), some (.ref l8), some (.ref ap), some (.str tm.text), some xj, some (.str z), y9, y10, y11, y12] ∧ Wd en Gc H' [p] ∧ Same Gj Gc ∧ PenAt p c (200 * i + 47 + 13 * j + 13) H' ∧ z.length ≤ 1300 ∧ Low z, ?_, ?_⟩
        · walk_at "qq"
          refine u_draw wa (by simp) (hcj.same sa) Pa (by omega) (by decide) (by decide) fun d1 Gb H1b wb sb bb Pb d10 d11 => ?_
          walk_at "qq"
          refine ite_d (fun c1 => ?_) (fun c1 => ?_)
          · walk_at "qq"
            refine u_bentP wb (by simp) (hcj.same (sa.trans sb)) Pb (by omega) (by omega) low1 fun z2 Gc Hc2 wc sc bc Pc lz2 low2 => ?_
            walk_at "qq"
            exact ⟨Gc, z2, rfl, wc, sa.trans (sb.trans sc), Pc.more (by omega), by omega, low2⟩
          · walk_at "qq"
            exact ⟨Gb, z1, rfl, wb, sa.trans sb, Pb.more (by omega), by omega, low1⟩
        · rintro σ' H' ⟨Gc, z, rfl, wc, sc, Pc, lz2, low2⟩
          walk_at "qq"
          refine u_dueP wc (by omega) low2 fun v1 Gd H1d wd sd td due1 => ?_
          walk_at "qq"
          refine u_heardP wd (kd_str _) (fun z' e => by cases e; omega) fun v2 Ge He we se te hh => ?_
          have due2 := due1.same se
          have Pe := (Pc.same td).same te
          rcases hh with ⟨l, k1, hd, q2, rfl, hq2⟩ | ⟨t2, hd, hb2⟩
          · have hdz : pgR z = .inl (l, k1) := hd
            rw [dueP_some hdz] at due2
            obtain ⟨q1, rfl, hq1⟩ := due2
            obtain ⟨b1, b2, b3⟩ := pgR_bad hdz
            have wf := words_few (z := z) (by omega)
            have sh := two_showN K Ge b1 b2 (by omega)
            have dp1 : L2.Dp K He (.ref q1) (.tuple [.int l, .int k1]) := wd_dp we (.tup (SqT.of hq1) (.cons (.int _) (.cons (.int _) .nil)))
            have dp2 : L2.Dp K He (.ref q2) (.tuple [.int l, .int k1]) := wd_dp we (.tup (SqT.of hq2) (.cons (.int _) (.cons (.int _) .nil)))
            walk_at "qq"
            refine iteN (by first | rfl | decide) ?_
            walk_at "qq"
            refine iteY (by first | rfl | decide) ?_
            walk_at "qq"
            refine r_repr dp2 sh.1 sh.2.1 sh.2.2 ?_
            walk_at "qq"
            refine r_repr dp1 sh.1 sh.2.1 sh.2.2 ?_
            walk_at "qq"
            refine ite_nd (fun h => absurd rfl h) fun _ => ?_
            walk_at "qq"
            exact ⟨Ge, _, _, _, _, _, _, rfl, we, sj.trans (sc.trans (sd.trans se)), Pe.more (by omega)⟩
          · have hdz : pgR z = .inr t2 := hd
            rw [dueP_none hdz] at due2
            obtain rfl : v1 = .non := due2
            obtain ⟨ok2, r2, ez⟩ := pgR_text hdz
            have nt2 : t2.isNo = false := by
              cases t2 with
              | no => cases ok2
              | done => rfl
              | ask _ _ _ => rfl
            obtain ⟨a2, dx2, _, _, _, _, _, _, rfl, hi2, _⟩ := id (hb2.ins nt2)
            have hty := same_ty we.le (S.ty hi2)
            have hkm := S.me
            walk_at "qq"
            refine iteY (by first | rfl | decide) ?_
            walk_at "qq"
            refine r_tCallKw ?_
            walk_at "qq"
            refine ⟨rfl, u_planText we hb2 ok2 r2 fun Gf Hf wf sf tf => ?_⟩
            rw [← ez]
            walk_at "qq"
            refine ite_nd (fun h => absurd rfl h) fun _ => ?_
            walk_at "qq"
            refine iteN (by first | rfl | decide) ?_
            walk_at "qq"
            exact ⟨Gf, _, _, _, _, _, _, rfl, wf, sj.trans (sc.trans (sd.trans (se.trans sf))), (Pe.same tf).more (by omega)⟩
      · rintro σ Hc ⟨Gj, y7, y8, y9, y10, y11, y12, rfl, wj, sj, Pj⟩
        have hcj := hci.same (S10.trans (S16.trans sj))
        have hbj := hb16.same sj
        walk_at "qq"
        rename_i la Ga H1a na wa sa ha2 ta lb Gb H1b nb wb sb hb2 tb ld Gd H1d nd wd sd hd2 td lt Gt Ht nt wt st ht2 tt
        refine u_pick wt (by simp) (hcj.same (sa.trans (sb.trans (sd.trans st)))) ((((Pj.same ta).same tb).same td).same tt) (by omega) (.inl ⟨lt, rfl, .inl (SqL.of ht2)⟩) (by simp) (Nat.le_of_ble_eq_true rfl) fun v Gv Hv wv sv bv Pv mv => ?_
        have Sv : Same Gj Gv := sa.trans (sb.trans (sd.trans (st.trans sv)))
        have hbv := hbj.same Sv
        obtain ⟨_, _, _, _, _, _, _, _, ev, hiv, _⟩ := id (hbv.ins ntm)
        cases ev
        obtain ⟨u, hkd, hns⟩ : ∃ u, Kd K Gv v u ∧ ∀ z, v ≠ .str z := by
          simp only [List.mem_cons, List.not_mem_nil, or_false] at mv
          rcases mv with rfl | rfl | rfl | rfl | rfl | rfl | rfl
          · exact ⟨_, kd_non, fun z e => nomatch e⟩
          · exact ⟨_, kd_int _, fun z e => nomatch e⟩
          · exact ⟨_, kd_bl _, fun z e => nomatch e⟩
          · exact ⟨_, kd_lst (sv _ _ (st _ _ (sd _ _ (sb _ _ ha2)))), fun z e => nomatch e⟩
          · exact ⟨_, kd_tup (sv _ _ (st _ _ (sd _ _ hb2))), fun z e => nomatch e⟩
          · exact ⟨_, kd_dK (sv _ _ (st _ _ hd2)), fun z e => nomatch e⟩
          · exact ⟨_, S.kd hiv, fun z e => nomatch e⟩
        have rd0 : valR v = .inl (0, 0) := by
          cases v with
          | str z => exact absurd rfl (hns z)
          | _ => rfl
        walk_at "qq"
        refine u_heardP wv hkd (fun z e => absurd e (hns z)) fun v3 Gw Hw ww sw tw hh => ?_
        rcases hh with ⟨l, k1, hd, q2, rfl, hq2⟩ | ⟨_, ex, _⟩
        · rw [rd0] at hd
          cases hd
          have sh := two_show (l := 0) (k := 0) (.inl ⟨rfl, 0, by decide, rfl⟩)
          have dp2 : L2.Dp K Hw (.ref q2) (.tuple [.int 0, .int 0]) := wd_dp ww (.tup (SqT.of hq2) (.cons (.int _) (.cons (.int _) .nil)))
          walk_at "qq"
          rename_i lx Gx H1x nx wx sx hx2 tx
          refine ite_nd (fun h => absurd rfl h) fun _ => ?_
          walk_at "qq"
          exact ⟨Gx, _, _, _, _, _, _, _, _, _, _, _, rfl, wx, si.trans (S10.trans (S16.trans (sj.trans (Sv.trans (sw.trans sx))))), ((Pv.same tw).same tx).more (by omega)⟩
        · rw [rd0] at ex
          cases ex
    · rintro σ Ha ⟨Gi, x2, x3, x4, x5, x6, x7, x8, x9, x10, x11, x12, rfl, wi, si, Pi⟩
      walk_at "qq"
      have rdA : pgR (Str.ofString "") = .inl (0, 0) := dueP_back (by decide +kernel)
      have rdB : pgR (Str.ofString "none") = .inl (0, 0) := dueP_back (by decide +kernel)
      have rdC : pgR (Str.ofString "done done") = .inl (0, 1) := dueP_back (by decide +kernel)
      have rdD : pgR (Str.ofString "done\n") = .inl (1, 0) := dueP_back (by decide +kernel)
      refine u_heardP wi (kd_str _) (fun z e => by cases e; decide) fun vA GA HA wA sA tA hhA => ?_
      rcases hhA with ⟨lA, kA, hdA, qA, rfl, hqA⟩ | ⟨_, exA, _⟩
      case inr => rw [show valR (.str (Str.ofString "")) = pgR (Str.ofString "") from rfl, rdA] at exA; cases exA
      rw [show valR (.str (Str.ofString "")) = pgR (Str.ofString "") from rfl, rdA] at hdA
      cases hdA
      walk_at "qq"
      refine u_heardP wA (kd_str _) (fun z e => by cases e; decide) fun vB GB HB wB sB tB hhB => ?_
      rcases hhB with ⟨lB, kB, hdB, qB, rfl, hqB⟩ | ⟨_, exB, _⟩
      case inr => rw [show valR (.str (Str.ofString "none")) = pgR (Str.ofString "none") from rfl, rdB] at exB; cases exB
      rw [show valR (.str (Str.ofString "none")) = pgR (Str.ofString "none") from rfl, rdB] at hdB
      cases hdB
      walk_at "qq"
      refine u_heardP wB (kd_str _) (fun z e => by cases e; decide) fun vC GC HC wC sC tC' hhC => ?_
      rcases hhC with ⟨lC, kC, hdC, qC, rfl, hqC⟩ | ⟨_, exC, _⟩
      case inr => rw [show valR (.str (Str.ofString "done done")) = pgR (Str.ofString "done done") from rfl, rdC] at exC; cases exC
      rw [show valR (.str (Str.ofString "done done")) = pgR (Str.ofString "done done") from rfl, rdC] at hdC
      cases hdC
      walk_at "qq"
      refine u_heardP wC (kd_str _) (fun z e => by cases e; decide) fun vD GD HD wD sD tD hhD => ?_
      rcases hhD with ⟨lD, kD, hdD, qD, rfl, hqD⟩ | ⟨_, exD, _⟩
      case inr => rw [show valR (.str (Str.ofString "done\n")) = pgR (Str.ofString "done\n") from rfl, rdD] at exD; cases exD
      rw [show valR (.str (Str.ofString "done\n")) = pgR (Str.ofString "done\n") from rfl, rdD] at hdD
      cases hdD
      walk_at "qq"
      rw [decide_eq_true (rfl : _ = _)]
      exact k _
end
theorem factsL {P : Program} {w : World} {K : PySem.W.Frag} {h : Heap} {mg : Str → Option Value} {f : Addr} (X : K.In h) (G : h.Ns mainGlobals mg) (hfa : mg ("law" : Str) = some (.ref f)) (c : SaysR faL fnL tfL exL h K) (dq : ∀ t ∈ tsL, DicAt K w (t.1 K) t.2) :
    f = He.ga K "law" ∧ ∃ fd : FuncData, (∀ (s : Shared) (v : Value), BindsTo s fd ⟨[v], []⟩ [("_law_script", v)]) ∧ ∀ base : Heap, K.In base → base.Ns mainGlobals mg → LamX.TabB base mg (cTA K (He.ga K "law")).1 (cTA K (He.ga K "law")).2 → FnA P w K mg base CX0 20 f fd ["_law_script"] (spLaw K [cTA K (He.ga K "law")]) := by
  have e := c.more
  unfold exL at e
  have T : Bi mg := ⟨He.free_ok X G (c.t.fact 0 (f := .free "int") rfl), He.free_ok X G (c.t.fact 1 (f := .free "len") rfl), He.free_ok X G (c.t.fact 2 (f := .free "abs") rfl), He.free_ok X G (c.t.fact 3 (f := .free "list") rfl), He.free_ok X G (c.t.fact 4 (f := .free "range") rfl), He.free_ok X G (c.t.fact 5 (f := .free "repr") rfl), He.free_ok X G (c.t.fact 6 (f := .free "str") rfl), He.free_ok X G (c.t.fact 7 (f := .free "isinstance") rfl), He.free_ok X G (c.t.fact 8 (f := .free "all") rfl), He.free_ok X G (c.t.fact 9 (f := .free "any") rfl), He.free_ok X G (c.t.fact 10 (f := .free "bool") rfl), He.free_ok X G (c.t.fact 11 (f := .free "tuple") rfl), He.free_ok X G (c.t.fact 12 (f := .free "sorted") rfl), He.free_ok X G (c.t.fact 13 (f := .free "set") rfl), He.free_ok X G (c.t.fact 14 (f := .free "dict") rfl), He.free_ok X G (c.t.fact 15 (f := .free "enumerate") rfl), He.free_ok X G (c.t.fact 16 (f := .free "zip") rfl), He.free_ok X G (c.t.fact 17 (f := .free "min") rfl), He.free_ok X G (c.t.fact 18 (f := .free "max") rfl), He.free_ok X G (c.t.fact 19 (f := .free "ValueError") rfl)⟩
  obtain ⟨xRes, e⟩ := He.ba e
  obtain ⟨xFo, e⟩ := He.ba e
  obtain ⟨xoET, e⟩ := He.ba e
  obtain ⟨xhET, e⟩ := He.ba e
  obtain ⟨xiET, e⟩ := He.ba e
  obtain ⟨xEc, e⟩ := He.ba e
  obtain ⟨xEn, e⟩ := He.ba e
  obtain ⟨xEe, e⟩ := He.ba e
  obtain ⟨xPc, e⟩ := He.ba e
  obtain ⟨xPn, e⟩ := He.ba e
  obtain ⟨xPe, e⟩ := He.ba e
  obtain ⟨xPk, e⟩ := He.ba e
  obtain ⟨xPr, e⟩ := He.ba e
  obtain ⟨xPd, e⟩ := He.ba e
  obtain ⟨xPa, e⟩ := He.ba e
  obtain ⟨xppp1, e⟩ := He.ba e
  obtain ⟨xppp2, e⟩ := He.ba e
  obtain ⟨xRw, e⟩ := He.ba e
  obtain ⟨xRf, e⟩ := He.ba e
  have xHe := e
  obtain ⟨fdL, FL⟩ : ∃ fd, FnP K "law" "law" sLaw [] (He.ga K "law") fd := c.t.def_ 0
  have z := hfa.symm.trans (He.glo_ok X G (c.t.fact 20 (f := .glo "law") rfl))
  cases z
  have b := FunD.bindsA (ps := ["_law_script"]) FL fun _ _ _ _ _ _ us hl => match us, hl with | [_], _ => rfl
  refine ⟨rfl, fdL, fun s v => b s [v] rfl, fun base _ _ TB => ?_⟩
  obtain ⟨fd0, F0⟩ : ∃ fd, FnP K "is_integer" "is_integer" sIsInt [] (He.ga K "is_integer") fd := c.t.def_ 1
  obtain ⟨fd1, F1⟩ : ∃ fd, FnP K "is_moment" "is_moment" sMoment [.int 0] (He.ga K "is_moment") fd := c.t.def_ 2
  obtain ⟨fd2, F2⟩ : ∃ fd, FnP K "is_name" "is_name" sIsName [] (He.ga K "is_name") fd := c.t.def_ 3
  have NM : Nm K mg := ⟨⟨_, ⟨_, (He.glo_ok X G (c.t.fact 24 (f := .glo "RESERVED") rfl)), rfl⟩, fun H => He.tupB_ok xRes H⟩, (He.str_ok X G (c.t.fact 25 (f := .str "LETTERS" zLetters) rfl)).elim fun t z => ⟨_, z, t, rfl⟩, (He.str_ok X G (c.t.fact 26 (f := .str "FIGURES" zFigures) rfl)).elim fun t z => ⟨_, z, t, rfl⟩,
    (He.int_ok X G (c.t.fact 27 (f := .int "MOST_SIGNS" 8) rfl)).elim fun t z => ⟨_, z, t, rfl⟩, (He.int_ok X G (c.t.fact 28 (f := .int "MOST_MOMENT" 1000000000000000000000000000000) rfl)).elim fun t z => ⟨_, z, t, rfl⟩⟩
  have D0 : Df P w K mg base CX0 1 "is_integer" [] (spIsInt K) := df_of F0 (He.glo_ok X G (c.t.fact 21 (f := .glo "is_integer") rfl)) (ok_isInt F0 T) fun _ _ _ _ _ _ us hl => match us, hl with | [_], _ => rfl
  have D1 : Df P w K mg base CX0 2 "is_moment" [.int 0] (spMoment K) := by
    obtain ⟨ds, vd, bd⟩ := FunD.binds1 (ps := ["thing", "least"]) F1 1 0 (by simp) rfl fun _ _ _ _ _ _ _ us its hl hi => match us, its, hl, hi with | [_], [_], _, _ => ⟨_, rfl, rfl⟩
    exact ⟨_, fd1, _, ds, (He.glo_ok X G (c.t.fact 22 (f := .glo "is_moment") rfl)), F1.kp, bd, vd, ok_moment F1 T NM D0⟩
  have D2 : Df P w K mg base CX0 1 "is_name" [] (spIsName K) := df_of F2 (He.glo_ok X G (c.t.fact 23 (f := .glo "is_name") rfl)) (ok_isName F2 T NM) fun _ _ _ _ _ _ us hl => match us, hl with | [_], _ => rfl
  have hFig : Gc mg "MOST_FIGURES" (.int 31) := (He.int_ok X G (c.t.fact 29 (f := .int "MOST_FIGURES" 31) rfl)).elim fun t z => ⟨_, z, t, rfl⟩
  have hMost : Gc mg "MOST_CHECKS" (.int 4) := (He.int_ok X G (c.t.fact 30 (f := .int "MOST_CHECKS" 4) rfl)).elim fun t z => ⟨_, z, t, rfl⟩
  obtain ⟨aF, hForms, hfT⟩ : ∃ a, Gc mg "ENTRY_FORMS" (.ref a) ∧ ∀ H, SqT K H a (entForms.map V.str) := ⟨_, ⟨_, (He.glo_ok X G (c.t.fact 31 (f := .glo "ENTRY_FORMS") rfl)), rfl⟩, fun H => He.tupB_ok xFo H⟩
  obtain ⟨fdET, FET⟩ : ∃ fd, FnP K "__init__" "BadText.__init__" sErrX [] (He.ma K (He.ga K "BadText") "__init__") fd := c.t.def_ 4
  have oET := oexB_ok xoET
  have hET := hdB_ok xhET
  have iET := hdB_ok xiET
  have gET := (He.glo_ok X G (c.t.fact 33 (f := .glo "BadText") rfl))
  have mET := He.meth_ok (c.t.fact 32 (f := .meth "BadText" "__init__") rfl)
  have ET : ErD P w K mg base "BadText" (He.ga K "BadText") (spErr2 (He.ga K "BadText") "line" "word") := ⟨_, fdET, _, oET, mET.at_, isFn_ty mET.fn, gET, (FET.bindsN fun _ _ _ _ _ _ us hl => match us, hl with | [_, _, _], _ => rfl), ok_errX FET oET hET.n iET.n⟩
  obtain ⟨fdmi, Fmi⟩ : ∃ fd, FnP K "moment_in" "moment_in" sMomIn [] (He.ga K "moment_in") fd := c.t.def_ 5
  have Dmi : Df P w K mg base CX0 1 "moment_in" [] spMomIn := df_of Fmi (He.glo_ok X G (c.t.fact 34 (f := .glo "moment_in") rfl)) (ok_momIn Fmi T NM hFig) fun _ _ _ _ _ _ us hl => match us, hl with | [_], _ => rfl
  obtain ⟨fdca, Fca⟩ : ∃ fd, FnP K "can_stand" "can_stand" sCan [] (He.ga K "can_stand") fd := c.t.def_ 6
  have Dca : Df P w K mg base CX0 2 "can_stand" [] spCan := df_of Fca (He.glo_ok X G (c.t.fact 35 (f := .glo "can_stand") rfl)) (ok_can Fca T D2 Dmi) fun _ _ _ _ _ _ us hl => match us, hl with | [_, _], _ => rfl
  obtain ⟨fdnf, Fnf⟩ : ∃ fd, FnP K "need_forms" "need_forms" sNeed [] (He.ga K "need_forms") fd := c.t.def_ 7
  have Dnf : Df P w K mg base (L2.CX P w) 3 "need_forms" [] (spNeed K (He.ga K "BadText")) := df_of Fnf (He.glo_ok X G (c.t.fact 36 (f := .glo "need_forms") rfl)) (ok_need Fnf T Dca ET) fun _ _ _ _ _ _ us hl => match us, hl with | [_, _, _, _], _ => rfl
  obtain ⟨fdne, Fne⟩ : ∃ fd, FnP K "need_end" "need_end" sNeedE [] (He.ga K "need_end") fd := c.t.def_ 8
  have Dne : Df P w K mg base (L2.CX P w) 3 "need_end" [] (spNeedEnd (He.ga K "BadText")) := df_of Fne (He.glo_ok X G (c.t.fact 37 (f := .glo "need_end") rfl)) (ok_needE Fne T ET) fun _ _ _ _ _ _ us hl => match us, hl with | [_, _, _], _ => rfl
  obtain ⟨fdli, Fli⟩ : ∃ fd, FnP K "lines_of" "lines_of" sLines [] (He.ga K "lines_of") fd := c.t.def_ 9
  have Dli : Df P w K mg base (L2.CX P w) 3 "lines_of" [] (spLines K (He.ga K "BadText")) := df_of Fli (He.glo_ok X G (c.t.fact 38 (f := .glo "lines_of") rfl)) (ok_lines Fli T ET) fun _ _ _ _ _ _ us hl => match us, hl with | [_], _ => rfl
  obtain ⟨fdol, Fol⟩ : ∃ fd, FnP K "need_one_line" "need_one_line" sOneL [] (He.ga K "need_one_line") fd := c.t.def_ 10
  have Dol : Df P w K mg base (L2.CX P w) 4 "need_one_line" [] (spOneLine (He.ga K "BadText")) := df_of Fol (He.glo_ok X G (c.t.fact 39 (f := .glo "need_one_line") rfl)) (ok_oneL Fol T Dne ET) fun _ _ _ _ _ _ us hl => match us, hl with | [_, _], _ => rfl
  obtain ⟨fdea, Fea⟩ : ∃ fd, FnP K "entry_at" "entry_at" sEnA [] (He.ga K "entry_at") fd := c.t.def_ 11
  have Dea : Df P w K mg base (L2.CX P w) 4 "entry_at" [] (spEntryAt (He.ga K "BadText")) := df_of Fea (He.glo_ok X G (c.t.fact 40 (f := .glo "entry_at") rfl)) (ok_enA Fea T hForms hfT Dnf Dmi) fun _ _ _ _ _ _ us hl => match us, hl with | [_, _], _ => rfl
  obtain ⟨fdpa, Fpa⟩ : ∃ fd, FnP K "plan_at" "plan_at" sPlAt [] (He.ga K "plan_at") fd := c.t.def_ 12
  obtain ⟨fdbr, Fbr⟩ : ∃ fd, FnP K "branch_at" "branch_at" sBrAt [] (He.ga K "branch_at") fd := c.t.def_ 13
  obtain ⟨fdpt, Fpt⟩ : ∃ fd, FnP K "plan_tree" "plan_tree" sPlTree [] (He.ga K "plan_tree") fd := c.t.def_ 14
  have Dpa0 : Df P w K mg base (L2.CX P w) 4 "plan_at" [] (spPlanAt (He.ga K "BadText") 0) := df_of Fpa (He.glo_ok X G (c.t.fact 41 (f := .glo "plan_at") rfl)) (ok_planAt0 Fpa) fun _ _ _ _ _ _ us hl => match us, hl with | [_, _, _], _ => rfl
  have Dbr0 : Df P w K mg base (L2.CX P w) 5 "branch_at" [] (spBranch (He.ga K "BadText") 0) := df_of Fbr (He.glo_ok X G (c.t.fact 42 (f := .glo "branch_at") rfl)) (ok_branch Fbr T Dpa0) fun _ _ _ _ _ _ us hl => match us, hl with | [_, _, _, _], _ => rfl
  have Dpa1 : Df P w K mg base (L2.CX P w) 6 "plan_at" [] (spPlanAt (He.ga K "BadText") 1) := df_of Fpa (He.glo_ok X G (c.t.fact 41 (f := .glo "plan_at") rfl)) (ok_planAt Fpa T (by decide) hForms hfT hMost Dea Dbr0 ET) fun _ _ _ _ _ _ us hl => match us, hl with | [_, _, _], _ => rfl
  have Dbr1 : Df P w K mg base (L2.CX P w) 7 "branch_at" [] (spBranch (He.ga K "BadText") 1) := df_of Fbr (He.glo_ok X G (c.t.fact 42 (f := .glo "branch_at") rfl)) (ok_branch Fbr T Dpa1) fun _ _ _ _ _ _ us hl => match us, hl with | [_, _, _, _], _ => rfl
  have Dpa2 : Df P w K mg base (L2.CX P w) 8 "plan_at" [] (spPlanAt (He.ga K "BadText") 2) := df_of Fpa (He.glo_ok X G (c.t.fact 41 (f := .glo "plan_at") rfl)) (ok_planAt Fpa T (by decide) hForms hfT hMost Dea Dbr1 ET) fun _ _ _ _ _ _ us hl => match us, hl with | [_, _, _], _ => rfl
  have Dbr2 : Df P w K mg base (L2.CX P w) 9 "branch_at" [] (spBranch (He.ga K "BadText") 2) := df_of Fbr (He.glo_ok X G (c.t.fact 42 (f := .glo "branch_at") rfl)) (ok_branch Fbr T Dpa2) fun _ _ _ _ _ _ us hl => match us, hl with | [_, _, _, _], _ => rfl
  have Dpa3 : Df P w K mg base (L2.CX P w) 10 "plan_at" [] (spPlanAt (He.ga K "BadText") 3) := df_of Fpa (He.glo_ok X G (c.t.fact 41 (f := .glo "plan_at") rfl)) (ok_planAt Fpa T (by decide) hForms hfT hMost Dea Dbr2 ET) fun _ _ _ _ _ _ us hl => match us, hl with | [_, _, _], _ => rfl
  have Dbr3 : Df P w K mg base (L2.CX P w) 11 "branch_at" [] (spBranch (He.ga K "BadText") 3) := df_of Fbr (He.glo_ok X G (c.t.fact 42 (f := .glo "branch_at") rfl)) (ok_branch Fbr T Dpa3) fun _ _ _ _ _ _ us hl => match us, hl with | [_, _, _, _], _ => rfl
  have Dpa4 : Df P w K mg base (L2.CX P w) 12 "plan_at" [] (spPlanAt (He.ga K "BadText") 4) := df_of Fpa (He.glo_ok X G (c.t.fact 41 (f := .glo "plan_at") rfl)) (ok_planAt Fpa T (by decide) hForms hfT hMost Dea Dbr3 ET) fun _ _ _ _ _ _ us hl => match us, hl with | [_, _, _], _ => rfl
  have Dbr4 : Df P w K mg base (L2.CX P w) 13 "branch_at" [] (spBranch (He.ga K "BadText") 4) := df_of Fbr (He.glo_ok X G (c.t.fact 42 (f := .glo "branch_at") rfl)) (ok_branch Fbr T Dpa4) fun _ _ _ _ _ _ us hl => match us, hl with | [_, _, _, _], _ => rfl
  have Dpa5 : Df P w K mg base (L2.CX P w) 14 "plan_at" [] (spPlanAt (He.ga K "BadText") 5) := df_of Fpa (He.glo_ok X G (c.t.fact 41 (f := .glo "plan_at") rfl)) (ok_planAt Fpa T (by decide) hForms hfT hMost Dea Dbr4 ET) fun _ _ _ _ _ _ us hl => match us, hl with | [_, _, _], _ => rfl
  have Dptr : Df P w K mg base (L2.CX P w) 15 "plan_tree" [] (spPlanTree K (He.ga K "BadText")) := df_of Fpt (He.glo_ok X G (c.t.fact 43 (f := .glo "plan_tree") rfl)) (ok_planTree Fpt T Dli Dpa5 Dol) fun _ _ _ _ _ _ us hl => match us, hl with | [_], _ => rfl
  obtain ⟨⟨a1, a2, a3⟩, ⟨b1, b2⟩, c1, c2⟩ := of_decide_eq_true xEe
  have hmEn := (He.glo_ok X G (c.t.fact 44 (f := .glo "Entry") rfl))
  have hEnt : Gc mg "Entry" (.ref (He.ga K "Entry")) := ⟨_, hmEn, rfl⟩
  have Se : EnC K (He.ga K "Entry") := ⟨He.cls_ok (c.t.fact 45 (f := .cls "Entry") rfl), He.noat_ok (c.t.fact 47 (f := .noat "Entry" "tool") rfl), He.noat_ok (c.t.fact 48 (f := .noat "Entry" "moment") rfl), He.noat_ok (c.t.fact 49 (f := .noat "Entry" "by") rfl), He.noat_ok (c.t.fact 50 (f := .noat "Entry" "face") rfl),
    He.eqO_ok xEc, a1, a2, a3, b1, b2 _ (by simp), c1⟩
  have hneE := He.eqO_ok xEn
  have mkE := He.mkr_ok (c.t.fact 46 (f := .mkr "Entry") rfl)
  obtain ⟨fdEI, FEI⟩ : ∃ fd, FnP K "__init__" "Entry.__init__" sEnInit [] (He.ma K (He.ga K "Entry") "__init__") fd := c.t.def_ 15
  obtain ⟨fdEE, FEE⟩ : ∃ fd, FnP K "__eq__" "Entry.__eq__" sEnEq [] (He.ma K (He.ga K "Entry") "__eq__") fd := c.t.def_ 16
  obtain ⟨fdES, FES⟩ : ∃ fd, FnP K "__str__" "Entry.__str__" sEnStr [] (He.ma K (He.ga K "Entry") "__str__") fd := c.t.def_ 17
  have okEI := ok_enInit FEI T Se D2 D1
  have DE : MkD P w K mg base CX0 3 "Entry" (He.ga K "Entry") [] (spEntInit (He.ga K "Entry")) := ⟨_, fdEI, _, [], hmEn, mkE, (FEI.bindsN fun _ _ _ _ _ _ us hl => match us, hl with | [_, _, _, _], _ => rfl), .nil, okEI⟩
  have okEE := ok_enEq (P := P) (w := w) (mg := mg) (base := base) FEE T Se hEnt
  have mEE := He.meth_ok (c.t.fact 52 (f := .meth "Entry" "__eq__") rfl)
  have DeqE : SpD P w K mg base CX0 1 (He.ga K "Entry") "__eq__" (spEntEq (He.ga K "Entry")) := ⟨_, fdEE, _, mEE.at_, mEE.fn, (FEE.bindsN fun _ _ _ _ _ _ us hl => match us, hl with | [_, _], _ => rfl), okEE⟩
  have okES := ok_enStr (P := P) (w := w) (mg := mg) (base := base) FES Se
  have mES := He.meth_ok (c.t.fact 53 (f := .meth "Entry" "__str__") rfl)
  have DStE : SpD P w K mg base CX0 1 (He.ga K "Entry") "__str__" (spEntStr (He.ga K "Entry")) := ⟨_, fdES, _, mES.at_, mES.fn, (FES.bindsN fun _ _ _ _ _ _ us hl => match us, hl with | [_], _ => rfl), okES⟩
  obtain ⟨⟨pa1, pa2, pa3⟩, ⟨pb1, pb2⟩, pc1, pc2⟩ := of_decide_eq_true xPe
  obtain ⟨pk1, pk2, pk3⟩ := of_decide_eq_true xPk
  have hmPl := (He.glo_ok X G (c.t.fact 54 (f := .glo "Plan") rfl))
  have hPl : Gc mg "Plan" (.ref (He.ga K "Plan")) := ⟨_, hmPl, rfl⟩
  have Spl : PlC K (He.ga K "Plan") := ⟨He.cls_ok (c.t.fact 55 (f := .cls "Plan") rfl), He.noat_ok (c.t.fact 57 (f := .noat "Plan" "entry") rfl), He.noat_ok (c.t.fact 58 (f := .noat "Plan" "own_passed") rfl), He.noat_ok (c.t.fact 59 (f := .noat "Plan" "own_failed") rfl), He.noat_ok (c.t.fact 60 (f := .noat "Plan" "below") rfl), He.noat_ok (c.t.fact 61 (f := .noat "Plan" "each") rfl),
    He.eqO_ok xPc, pa1, pa2, pa3, pb1, pc1, pk1, pk2, pk3, pb2 _ (by simp)⟩
  have hnePl := He.eqO_ok xPn
  have mkPl := He.mkr_ok (c.t.fact 56 (f := .mkr "Plan") rfl)
  obtain ⟨fdPI, FPI⟩ : ∃ fd, FnP K "__init__" "Plan.__init__" sPlInit [] (He.ma K (He.ga K "Plan") "__init__") fd := c.t.def_ 18
  have okPI := ok_plInit (P := P) (w := w) (mg := mg) (base := base) (Ce := (He.ga K "Entry")) FPI Spl
  have DPl : MkD P w K mg base CX0 1 "Plan" (He.ga K "Plan") [] (spPlInit (He.ga K "Plan") (He.ga K "Entry")) := ⟨_, fdPI, _, [], hmPl, mkPl, (FPI.bindsN fun _ _ _ _ _ _ us hl => match us, hl with | [_, _, _, _], _ => rfl), .nil, okPI⟩
  obtain ⟨fdPdo, FPdo⟩ : ∃ fd, FnP K "done" "Plan.done" sPlDone [] (He5.wf K (He.ga K "Plan") "staticmethod" "done") fd := c.t.def_ 19
  obtain ⟨fdPas, FPas⟩ : ∃ fd, FnP K "ask" "Plan.ask" sPlAsk [] (He5.wf K (He.ga K "Plan") "staticmethod" "ask") fd := c.t.def_ 20
  have Ddo : StD P w K mg base CX0 3 (He.ga K "Plan") "done" (spDone (He.ga K "Plan") (He.ga K "Entry")) := ⟨_, _, _, fdPdo, _, readB_ok xPr, statB_ok xPd, (FPdo.bindsN fun _ _ _ _ _ _ us hl => match us, hl with | [], _ => rfl), ok_plDone FPdo DPl⟩
  have Das : StD P w K mg base CX0 3 (He.ga K "Plan") "ask" (spAsk (He.ga K "Plan") (He.ga K "Entry")) := ⟨_, _, _, fdPas, _, readB_ok xPr, statB_ok xPa, (FPas.bindsN fun _ _ _ _ _ _ us hl => match us, hl with | [_, _, _], _ => rfl), ok_plAsk FPas T Spl Se hPl hEnt DPl⟩
  obtain ⟨fdpp1, Fpp1⟩ : ∃ fd, FnP K "passed" "Plan.passed" sPlP [] (getterOf K (He.ma K (He.ga K "Plan") "passed")) fd := c.t.def_ 21
  have Dp1 : PrD P w K mg base CX0 1 (He.ga K "Plan") "passed" (spPlBranch (He.ga K "Plan") (He.ga K "Entry") true) := ⟨_, _, fdpp1, _, He.cls_ok (c.t.fact 55 (f := .cls "Plan") rfl), propB_ok xppp1, (Fpp1.bindsN fun _ _ _ _ _ _ us hl => match us, hl with | [_], _ => rfl), (ok_plP Fpp1 Spl)⟩
  obtain ⟨fdpp2, Fpp2⟩ : ∃ fd, FnP K "failed" "Plan.failed" sPlF [] (getterOf K (He.ma K (He.ga K "Plan") "failed")) fd := c.t.def_ 22
  have Dp2 : PrD P w K mg base CX0 1 (He.ga K "Plan") "failed" (spPlBranch (He.ga K "Plan") (He.ga K "Entry") false) := ⟨_, _, fdpp2, _, He.cls_ok (c.t.fact 55 (f := .cls "Plan") rfl), propB_ok xppp2, (Fpp2.bindsN fun _ _ _ _ _ _ us hl => match us, hl with | [_], _ => rfl), (ok_plF Fpp2 Spl)⟩
  obtain ⟨fdPE, FPE⟩ : ∃ fd, FnP K "__eq__" "Plan.__eq__" sPlEq [] (He.ma K (He.ga K "Plan") "__eq__") fd := c.t.def_ 23
  have mPE := He.meth_ok (c.t.fact 63 (f := .meth "Plan" "__eq__") rfl)
  obtain ⟨fdPS, FPS⟩ : ∃ fd, FnP K "__str__" "Plan.__str__" sPlStr [] (He.ma K (He.ga K "Plan") "__str__") fd := c.t.def_ 24
  have mPS := He.meth_ok (c.t.fact 64 (f := .meth "Plan" "__str__") rfl)
  have DeqP0 : SpD P w K mg base CX0 2 (He.ga K "Plan") "__eq__" (spPlEq (He.ga K "Plan") (He.ga K "Entry") 0) := ⟨_, fdPE, _, mPE.at_, mPE.fn, (FPE.bindsN fun _ _ _ _ _ _ us hl => match us, hl with | [_, _], _ => rfl), ok_plEq0 FPE⟩
  have DeqP1 : SpD P w K mg base CX0 3 (He.ga K "Plan") "__eq__" (spPlEq (He.ga K "Plan") (He.ga K "Entry") 1) := ⟨_, fdPE, _, mPE.at_, mPE.fn, (FPE.bindsN fun _ _ _ _ _ _ us hl => match us, hl with | [_, _], _ => rfl), ok_plEq FPE T Spl Se hPl (by decide) hneE DeqE Dp1 Dp2 DeqP0⟩
  have DeqP2 : SpD P w K mg base CX0 4 (He.ga K "Plan") "__eq__" (spPlEq (He.ga K "Plan") (He.ga K "Entry") 2) := ⟨_, fdPE, _, mPE.at_, mPE.fn, (FPE.bindsN fun _ _ _ _ _ _ us hl => match us, hl with | [_, _], _ => rfl), ok_plEq FPE T Spl Se hPl (by decide) hneE DeqE Dp1 Dp2 DeqP1⟩
  have DeqP3 : SpD P w K mg base CX0 5 (He.ga K "Plan") "__eq__" (spPlEq (He.ga K "Plan") (He.ga K "Entry") 3) := ⟨_, fdPE, _, mPE.at_, mPE.fn, (FPE.bindsN fun _ _ _ _ _ _ us hl => match us, hl with | [_, _], _ => rfl), ok_plEq FPE T Spl Se hPl (by decide) hneE DeqE Dp1 Dp2 DeqP2⟩
  have DeqP4 : SpD P w K mg base CX0 6 (He.ga K "Plan") "__eq__" (spPlEq (He.ga K "Plan") (He.ga K "Entry") 4) := ⟨_, fdPE, _, mPE.at_, mPE.fn, (FPE.bindsN fun _ _ _ _ _ _ us hl => match us, hl with | [_, _], _ => rfl), ok_plEq FPE T Spl Se hPl (by decide) hneE DeqE Dp1 Dp2 DeqP3⟩
  have DeqP5 : SpD P w K mg base CX0 7 (He.ga K "Plan") "__eq__" (spPlEq (He.ga K "Plan") (He.ga K "Entry") 5) := ⟨_, fdPE, _, mPE.at_, mPE.fn, (FPE.bindsN fun _ _ _ _ _ _ us hl => match us, hl with | [_, _], _ => rfl), ok_plEq FPE T Spl Se hPl (by decide) hneE DeqE Dp1 Dp2 DeqP4⟩
  have DstP0 : SpD P w K mg base CX0 1 (He.ga K "Plan") "__str__" (spPlStr (He.ga K "Plan") (He.ga K "Entry") 0) := ⟨_, fdPS, _, mPS.at_, mPS.fn, (FPS.bindsN fun _ _ _ _ _ _ us hl => match us, hl with | [_], _ => rfl), ok_plStr0 FPS⟩
  have DstP1 : SpD P w K mg base CX0 4 (He.ga K "Plan") "__str__" (spPlStr (He.ga K "Plan") (He.ga K "Entry") 1) := ⟨_, fdPS, _, mPS.at_, mPS.fn, (FPS.bindsN fun _ _ _ _ _ _ us hl => match us, hl with | [_], _ => rfl), ok_plStr FPS Spl (by decide) T DStE DstP0⟩
  have DstP2 : SpD P w K mg base CX0 7 (He.ga K "Plan") "__str__" (spPlStr (He.ga K "Plan") (He.ga K "Entry") 2) := ⟨_, fdPS, _, mPS.at_, mPS.fn, (FPS.bindsN fun _ _ _ _ _ _ us hl => match us, hl with | [_], _ => rfl), ok_plStr FPS Spl (by decide) T DStE DstP1⟩
  have DstP3 : SpD P w K mg base CX0 10 (He.ga K "Plan") "__str__" (spPlStr (He.ga K "Plan") (He.ga K "Entry") 3) := ⟨_, fdPS, _, mPS.at_, mPS.fn, (FPS.bindsN fun _ _ _ _ _ _ us hl => match us, hl with | [_], _ => rfl), ok_plStr FPS Spl (by decide) T DStE DstP2⟩
  have DstP4 : SpD P w K mg base CX0 13 (He.ga K "Plan") "__str__" (spPlStr (He.ga K "Plan") (He.ga K "Entry") 4) := ⟨_, fdPS, _, mPS.at_, mPS.fn, (FPS.bindsN fun _ _ _ _ _ _ us hl => match us, hl with | [_], _ => rfl), ok_plStr FPS Spl (by decide) T DStE DstP3⟩
  have DstP5 : SpD P w K mg base CX0 16 (He.ga K "Plan") "__str__" (spPlStr (He.ga K "Plan") (He.ga K "Entry") 5) := ⟨_, fdPS, _, mPS.at_, mPS.fn, (FPS.bindsN fun _ _ _ _ _ _ us hl => match us, hl with | [_], _ => rfl), ok_plStr FPS Spl (by decide) T DStE DstP4⟩
  obtain ⟨fdof, Fof⟩ : ∃ fd, FnP K "plan_of" "plan_of" sPlOf [] (He.ga K "plan_of") fd := c.t.def_ 25
  have Dof0 : Df P w K mg base CX0 4 "plan_of" [] (spPlanOf (He.ga K "Plan") (He.ga K "Entry") 0) := df_of Fof (He.glo_ok X G (c.t.fact 65 (f := .glo "plan_of") rfl)) (ok_planOf0 Fof) fun _ _ _ _ _ _ us hl => match us, hl with | [_], _ => rfl
  have Dof1 : Df P w K mg base CX0 5 "plan_of" [] (spPlanOf (He.ga K "Plan") (He.ga K "Entry") 1) := df_of Fof (He.glo_ok X G (c.t.fact 65 (f := .glo "plan_of") rfl)) (ok_planOf Fof T (by decide) hPl DE Ddo Das Dof0) fun _ _ _ _ _ _ us hl => match us, hl with | [_], _ => rfl
  have Dof2 : Df P w K mg base CX0 6 "plan_of" [] (spPlanOf (He.ga K "Plan") (He.ga K "Entry") 2) := df_of Fof (He.glo_ok X G (c.t.fact 65 (f := .glo "plan_of") rfl)) (ok_planOf Fof T (by decide) hPl DE Ddo Das Dof1) fun _ _ _ _ _ _ us hl => match us, hl with | [_], _ => rfl
  have Dof3 : Df P w K mg base CX0 7 "plan_of" [] (spPlanOf (He.ga K "Plan") (He.ga K "Entry") 3) := df_of Fof (He.glo_ok X G (c.t.fact 65 (f := .glo "plan_of") rfl)) (ok_planOf Fof T (by decide) hPl DE Ddo Das Dof2) fun _ _ _ _ _ _ us hl => match us, hl with | [_], _ => rfl
  have Dof4 : Df P w K mg base CX0 8 "plan_of" [] (spPlanOf (He.ga K "Plan") (He.ga K "Entry") 4) := df_of Fof (He.glo_ok X G (c.t.fact 65 (f := .glo "plan_of") rfl)) (ok_planOf Fof T (by decide) hPl DE Ddo Das Dof3) fun _ _ _ _ _ _ us hl => match us, hl with | [_], _ => rfl
  have Dof5 : Df P w K mg base CX0 9 "plan_of" [] (spPlanOf (He.ga K "Plan") (He.ga K "Entry") 5) := df_of Fof (He.glo_ok X G (c.t.fact 65 (f := .glo "plan_of") rfl)) (ok_planOf Fof T (by decide) hPl DE Ddo Das Dof4) fun _ _ _ _ _ _ us hl => match us, hl with | [_], _ => rfl
  obtain ⟨x1, x2⟩ := of_decide_eq_true xHe
  obtain ⟨fdPR, FPR⟩ : ∃ fd, FnP K "read" "Plan.read" sPlRead [] (He5.wf K (He.ga K "Plan") "classmethod" "read") fd := c.t.def_ 26
  have okPR := ok_plRead (C := (He.ga K "Plan")) (Ce := (He.ga K "Entry")) FPR Dptr Dof5
  have CM : ClX.CMet K (He.ga K "Plan") (.type "type") "read" _ _ := He5.cmet_of xRw xRf
  have DR : CmD P w K mg base (L2.CX P w) 16 (He.ga K "Plan") "read" (spPlRead K (He.ga K "Plan") (He.ga K "Entry") (He.ga K "BadText")) := ⟨_, _, _, fdPR, _, readB_ok xPr, CM, (FPR.bindsN fun _ _ _ _ _ _ us hl => match us, hl with | [_, _], _ => rfl), okPR⟩
  have DRK : CmK P w K mg base (L2.CX P w) 16 (He.ga K "Plan") "read" ["text"] (fun vs zs => vs ++ zs) (spPlRead K (He.ga K "Plan") (He.ga K "Entry") (He.ga K "BadText")) := ⟨_, _, _, fdPR, _, _, readB_ok xPr, CM, kbn_of FPR 1 ["text"] (fun us ws => us ++ ws) (fun r1 r2 => r1.append r2) fun _ _ _ _ _ _ us ws l1 l2 => match us, ws, l1, l2 with | [_], [_], _, _ => rfl, okPR⟩
  obtain ⟨fdtx, Ftx⟩ : ∃ fd, FnP K "plan_text" "plan_text" sPlText [] (He.ga K "plan_text") fd := c.t.def_ 27
  have okTx := ok_planText (mg := mg) (base := base) (C := (He.ga K "Plan")) (Ce := (He.ga K "Entry")) Ftx T DstP5
  have Dtx : Df P w K mg base CX0 19 "plan_text" [] (spPlanText (He.ga K "Plan") (He.ga K "Entry")) := df_of Ftx (He.glo_ok X G (c.t.fact 67 (f := .glo "plan_text") rfl)) okTx fun _ _ _ _ _ _ us hl => match us, hl with | [_], _ => rfl
  have DtxK : DfK P w K mg base CX0 19 "plan_text" ["plan"] (fun vs zs => vs ++ zs) (spPlanText (He.ga K "Plan") (He.ga K "Entry")) := ⟨_, fdtx, _, _, (He.glo_ok X G (c.t.fact 67 (f := .glo "plan_text") rfl)), Ftx.kp, kbn_of Ftx 0 ["plan"] (fun us ws => us ++ ws) (fun r1 r2 => r1.append r2) fun _ _ _ _ _ _ us ws l1 l2 => match us, ws, l1, l2 with | [], [_], _, _ => rfl, okTx⟩
  obtain ⟨fd3, F3⟩ : ∃ fd, FnP K "_law_pen" "_law_pen" sPen [] (He.ga K "_law_pen") fd := c.t.def_ 28
  obtain ⟨fd4, F4⟩ : ∃ fd, FnP K "_law_draw" "_law_draw" sDraw [] (He.ga K "_law_draw") fd := c.t.def_ 29
  obtain ⟨fd5, F5⟩ : ∃ fd, FnP K "_law_pick" "_law_pick" sPick [] (He.ga K "_law_pick") fd := c.t.def_ 30
  have D3 : Df P w K mg base CX0 1 "_law_pen" [] (spPen K) := df_of F3 (He.glo_ok X G (c.t.fact 68 (f := .glo "_law_pen") rfl)) (ok_pen F3 T) fun _ _ _ _ _ _ us hl => match us, hl with | [_], _ => rfl
  have D4 : Df P w K mg base CX0 2 "_law_draw" [] spDraw := df_of F4 (He.glo_ok X G (c.t.fact 69 (f := .glo "_law_draw") rfl)) (ok_draw F4 T) fun _ _ _ _ _ _ us hl => match us, hl with | [_, _], _ => rfl
  have D5 : Df P w K mg base CX0 3 "_law_pick" [] (spPick K) := df_of F5 (He.glo_ok X G (c.t.fact 70 (f := .glo "_law_pick") rfl)) (ok_pick F5 T D4) fun _ _ _ _ _ _ us hl => match us, hl with | [_, _], _ => rfl
  obtain ⟨fdtr, Ftr⟩ : ∃ fd, FnP K "_law_tree" "_law_tree" sLTree [] (He.ga K "_law_tree") fd := c.t.def_ 31
  obtain ⟨fdpl, Fpl⟩ : ∃ fd, FnP K "_law_planned" "_law_planned" sPlanned [] (He.ga K "_law_planned") fd := c.t.def_ 32
  have Dt0 : Df P w K mg base CX0 2 "_law_tree" [] (spLTree 0) := df_of Ftr (He.glo_ok X G (c.t.fact 71 (f := .glo "_law_tree") rfl)) (ok_lTree0 Ftr) fun _ _ _ _ _ _ us hl => match us, hl with | [_, _, _], _ => rfl
  have Dt1 : Df P w K mg base CX0 3 "_law_tree" [] (spLTree 1) := df_of Ftr (He.glo_ok X G (c.t.fact 71 (f := .glo "_law_tree") rfl)) (ok_lTree Ftr (by decide) D4 Dt0) fun _ _ _ _ _ _ us hl => match us, hl with | [_, _, _], _ => rfl
  have Dt2 : Df P w K mg base CX0 4 "_law_tree" [] (spLTree 2) := df_of Ftr (He.glo_ok X G (c.t.fact 71 (f := .glo "_law_tree") rfl)) (ok_lTree Ftr (by decide) D4 Dt1) fun _ _ _ _ _ _ us hl => match us, hl with | [_, _, _], _ => rfl
  have Dt3 : Df P w K mg base CX0 5 "_law_tree" [] (spLTree 3) := df_of Ftr (He.glo_ok X G (c.t.fact 71 (f := .glo "_law_tree") rfl)) (ok_lTree Ftr (by decide) D4 Dt2) fun _ _ _ _ _ _ us hl => match us, hl with | [_, _, _], _ => rfl
  have Dt4 : Df P w K mg base CX0 6 "_law_tree" [] (spLTree 4) := df_of Ftr (He.glo_ok X G (c.t.fact 71 (f := .glo "_law_tree") rfl)) (ok_lTree Ftr (by decide) D4 Dt3) fun _ _ _ _ _ _ us hl => match us, hl with | [_, _, _], _ => rfl
  have Dt5 : Df P w K mg base CX0 7 "_law_tree" [] (spLTree 5) := df_of Ftr (He.glo_ok X G (c.t.fact 71 (f := .glo "_law_tree") rfl)) (ok_lTree Ftr (by decide) D4 Dt4) fun _ _ _ _ _ _ us hl => match us, hl with | [_, _, _], _ => rfl
  have Dpl0 : Df P w K mg base CX0 4 "_law_planned" [] (spPlanned (He.ga K "Plan") (He.ga K "Entry") 0) := df_of Fpl (He.glo_ok X G (c.t.fact 72 (f := .glo "_law_planned") rfl)) (ok_planned0 Fpl) fun _ _ _ _ _ _ us hl => match us, hl with | [_, _], _ => rfl
  have Dpl1 : Df P w K mg base CX0 5 "_law_planned" [] (spPlanned (He.ga K "Plan") (He.ga K "Entry") 1) := df_of Fpl (He.glo_ok X G (c.t.fact 72 (f := .glo "_law_planned") rfl)) (ok_planned Fpl (by decide) hPl Ddo Das Dpl0) fun _ _ _ _ _ _ us hl => match us, hl with | [_, _], _ => rfl
  have Dpl2 : Df P w K mg base CX0 6 "_law_planned" [] (spPlanned (He.ga K "Plan") (He.ga K "Entry") 2) := df_of Fpl (He.glo_ok X G (c.t.fact 72 (f := .glo "_law_planned") rfl)) (ok_planned Fpl (by decide) hPl Ddo Das Dpl1) fun _ _ _ _ _ _ us hl => match us, hl with | [_, _], _ => rfl
  have Dpl3 : Df P w K mg base CX0 7 "_law_planned" [] (spPlanned (He.ga K "Plan") (He.ga K "Entry") 3) := df_of Fpl (He.glo_ok X G (c.t.fact 72 (f := .glo "_law_planned") rfl)) (ok_planned Fpl (by decide) hPl Ddo Das Dpl2) fun _ _ _ _ _ _ us hl => match us, hl with | [_, _], _ => rfl
  have Dpl4 : Df P w K mg base CX0 8 "_law_planned" [] (spPlanned (He.ga K "Plan") (He.ga K "Entry") 4) := df_of Fpl (He.glo_ok X G (c.t.fact 72 (f := .glo "_law_planned") rfl)) (ok_planned Fpl (by decide) hPl Ddo Das Dpl3) fun _ _ _ _ _ _ us hl => match us, hl with | [_, _], _ => rfl
  have Dpl5 : Df P w K mg base CX0 9 "_law_planned" [] (spPlanned (He.ga K "Plan") (He.ga K "Entry") 5) := df_of Fpl (He.glo_ok X G (c.t.fact 72 (f := .glo "_law_planned") rfl)) (ok_planned Fpl (by decide) hPl Ddo Das Dpl4) fun _ _ _ _ _ _ us hl => match us, hl with | [_, _], _ => rfl
  obtain ⟨fdnm, Fnm⟩ : ∃ fd, FnP K "_law_is_name" "_law_is_name" sNameL [] (He.ga K "_law_is_name") fd := c.t.def_ 33
  have Dnm : Df P w K mg base CX0 2 "_law_is_name" [] spNameL := df_of Fnm (He.glo_ok X G (c.t.fact 73 (f := .glo "_law_is_name") rfl)) (ok_nameL Fnm T) fun _ _ _ _ _ _ us hl => match us, hl with | [_], _ => rfl
  obtain ⟨fdml, Fml⟩ : ∃ fd, FnP K "_law_is_moment" "_law_is_moment" sMomL [] (He.ga K "_law_is_moment") fd := c.t.def_ 34
  have Dml : Df P w K mg base CX0 2 "_law_is_moment" [] spMomL := df_of Fml (He.glo_ok X G (c.t.fact 74 (f := .glo "_law_is_moment") rfl)) (ok_momL Fml T) fun _ _ _ _ _ _ us hl => match us, hl with | [_], _ => rfl
  obtain ⟨fdfi, Ffi⟩ : ∃ fd, FnP K "_law_fits" "_law_fits" sFitsL [] (He.ga K "_law_fits") fd := c.t.def_ 35
  have Dfi : Df P w K mg base CX0 3 "_law_fits" [] spFitsL := df_of Ffi (He.glo_ok X G (c.t.fact 75 (f := .glo "_law_fits") rfl)) (ok_fitsL Ffi Dnm Dml) fun _ _ _ _ _ _ us hl => match us, hl with | [_, _], _ => rfl
  obtain ⟨fdrd, Frd⟩ : ∃ fd, FnP K "_law_read" "_law_read" sRdL [] (He.ga K "_law_read") fd := c.t.def_ 36
  have Drd0 : Df P w K mg base CX0 3 "_law_read" [] (spRdL 0) := df_of Frd (He.glo_ok X G (c.t.fact 76 (f := .glo "_law_read") rfl)) (ok_rdL0 Frd) fun _ _ _ _ _ _ us hl => match us, hl with | [_, _, _], _ => rfl
  have Drd1 : Df P w K mg base CX0 4 "_law_read" [] (spRdL 1) := df_of Frd (He.glo_ok X G (c.t.fact 76 (f := .glo "_law_read") rfl)) (ok_rdL Frd T (by decide) Dfi Drd0) fun _ _ _ _ _ _ us hl => match us, hl with | [_, _, _], _ => rfl
  have Drd2 : Df P w K mg base CX0 5 "_law_read" [] (spRdL 2) := df_of Frd (He.glo_ok X G (c.t.fact 76 (f := .glo "_law_read") rfl)) (ok_rdL Frd T (by decide) Dfi Drd1) fun _ _ _ _ _ _ us hl => match us, hl with | [_, _, _], _ => rfl
  have Drd3 : Df P w K mg base CX0 6 "_law_read" [] (spRdL 3) := df_of Frd (He.glo_ok X G (c.t.fact 76 (f := .glo "_law_read") rfl)) (ok_rdL Frd T (by decide) Dfi Drd2) fun _ _ _ _ _ _ us hl => match us, hl with | [_, _, _], _ => rfl
  have Drd4 : Df P w K mg base CX0 7 "_law_read" [] (spRdL 4) := df_of Frd (He.glo_ok X G (c.t.fact 76 (f := .glo "_law_read") rfl)) (ok_rdL Frd T (by decide) Dfi Drd3) fun _ _ _ _ _ _ us hl => match us, hl with | [_, _, _], _ => rfl
  have Drd5 : Df P w K mg base CX0 8 "_law_read" [] (spRdL 5) := df_of Frd (He.glo_ok X G (c.t.fact 76 (f := .glo "_law_read") rfl)) (ok_rdL Frd T (by decide) Dfi Drd4) fun _ _ _ _ _ _ us hl => match us, hl with | [_, _, _], _ => rfl
  obtain ⟨fddu, Fdu⟩ : ∃ fd, FnP K "_law_due" "_law_due" sDuePl [] (He.ga K "_law_due") fd := c.t.def_ 37
  have Ddu : Df P w K mg base CX0 9 "_law_due" [] spDueP := df_of Fdu (He.glo_ok X G (c.t.fact 77 (f := .glo "_law_due") rfl)) (ok_dueP Fdu T Drd5) fun _ _ _ _ _ _ us hl => match us, hl with | [_], _ => rfl
  obtain ⟨fdbl, Fbl⟩ : ∃ fd, FnP K "_law_bent" "_law_bent" sBentP [] (He.ga K "_law_bent") fd := c.t.def_ 38
  have Dbl : Df P w K mg base CX0 4 "_law_bent" [] spBentP := df_of Fbl (He.glo_ok X G (c.t.fact 78 (f := .glo "_law_bent") rfl)) (ok_bentP Fbl T D4 D5) fun _ _ _ _ _ _ us hl => match us, hl with | [_, _], _ => rfl
  obtain ⟨fdhl, Fhl⟩ : ∃ fd, FnP K "_law_heard" "_law_heard" sHeardP [] (He.ga K "_law_heard") fd := c.t.def_ 39
  have Dhl : Df P w K mg base CX0 17 "_law_heard" [] (spHeardP K (He.ga K "Plan") (He.ga K "Entry")) := df_of Fhl (He.glo_ok X G (c.t.fact 79 (f := .glo "_law_heard") rfl)) (ok_heardP Fhl T (He.glo_ok X G (c.t.fact 66 (f := .glo "TillError") rfl)) hPl ⟨_, gET, rfl⟩ DR hET iET x1 x2) fun _ _ _ _ _ _ us hl => match us, hl with | [_], _ => rfl
  exact ok_law FL T Spl hPl hnePl D3 D4 D5 DE Dt5 Dpl5 DeqP5 DstP5 DR DRK Dtx DtxK Dbl Ddu Dhl
end Q
open PySem PySem.W PySem.Calls PyProof.Rows
theorem PySem.Challenge.cw_soundtill_k81_plans_read_holds : PySem.Challenge.rw_soundtill_k81_plans_read.Holds := by
  w_on; o_law
  refine HandSHeadRun.head_any (r := OpenLaw.row PySem.Challenge.rw_soundtill_k81_plans_read) (q := view (OpenLaw.row PySem.Challenge.rw_soundtill_k81_plans_read).prog [80]) (H := Q.hkL) (ob := Q.obL) (M := 12000) (loose := (("_wall" : PySem.Str) :: ("__name__" : PySem.Str) :: ("TillError" : PySem.Str) :: ("BadName" : PySem.Str) :: ("BadMoment" : PySem.Str) :: ("BadSaying" : PySem.Str) :: ("NoTool" : PySem.Str) :: ("BadEntry" : PySem.Str) :: ("BadText" : PySem.Str) :: ("RESERVED" : PySem.Str) :: ("LETTERS" : PySem.Str) :: ("FIGURES" : PySem.Str) :: ("MOST_SIGNS" : PySem.Str) :: ("MOST_FIGURES" : PySem.Str) :: ("MOST_MOMENT" : PySem.Str) :: ("is_integer" : PySem.Str) :: ("is_moment" : PySem.Str) :: ("is_name" : PySem.Str) :: ("moment_in" : PySem.Str) :: ("TRUTHS" : PySem.Str) :: ("MANY_WORDS" : PySem.Str) :: ("Saying" : PySem.Str) :: ("ENTRY_FORMS" : PySem.Str) :: ("MOST_CHECKS" : PySem.Str) :: ("can_stand" : PySem.Str) :: ("need_forms" : PySem.Str) :: ("need_end" : PySem.Str) :: ("lines_of" : PySem.Str) :: ("need_one_line" : PySem.Str) :: ("entry_at" : PySem.Str) :: ("entry_parts" : PySem.Str) :: ("plan_at" : PySem.Str) :: ("branch_at" : PySem.Str) :: ("plan_tree" : PySem.Str) :: ("FORMS" : PySem.Str) :: ("BEGINNINGS" : PySem.Str) :: ("need_name" : PySem.Str) :: ("need_moment" : PySem.Str) :: ("Row" : PySem.Str) :: ("Beginning" : PySem.Str) :: ("Check" : PySem.Str) :: ("Meeting" : PySem.Str) :: ("Begun" : PySem.Str) :: ("SetBy" : PySem.Str) :: ("Found" : PySem.Str) :: ("Trusted" : PySem.Str) :: ("Passed" : PySem.Str) :: ("Failed" : PySem.Str) :: ("Agreed" : PySem.Str) :: ("Differed" : PySem.Str) :: ("Served" : PySem.Str) :: ("Backed" : PySem.Str) :: ("made_meeting" : PySem.Str) :: ("made_row" : PySem.Str) :: ("fits" : PySem.Str) :: ("row_in" : PySem.Str) :: ("Entry" : PySem.Str) :: ("Plan" : PySem.Str) :: ("plan_of" : PySem.Str) :: ("plan_text" : PySem.Str) :: ("_law_pen" : PySem.Str) :: ("_law_draw" : PySem.Str) :: ("_law_pick" : PySem.Str) :: ("_law_tree" : PySem.Str) :: ("_law_planned" : PySem.Str) :: ("_law_is_name" : PySem.Str) :: ("_law_is_moment" : PySem.Str) :: ("_law_fits" : PySem.Str) :: ("_law_read" : PySem.Str) :: ("_law_due" : PySem.Str) :: ("_law_bent" : PySem.Str) :: ("_law_heard" : PySem.Str) :: [])) (d := HandSHeadRun.topDef (OpenLaw.row PySem.Challenge.rw_soundtill_k81_plans_read).prog 80) (kwd := []) Q.obL_eq
    (by kernel_rfl) (fun s => by kernel_rfl) Q.runL (by kernel_rfl) (by kernel_rfl) (by kernel_rfl) (by rfl) (by first | assumption | decide +kernel) (by decide +kernel) ⟨rfl, rfl, rfl, rfl, rfl, by decide +kernel⟩ ?hw ?hc
  case hw => w_witness2
  case hc =>
    refine Q.walk_ofAT (l := PySem.Challenge.rw_soundtill_k81_plans_read) (n := 63) (k := 20) (x := "_law_script") (CX := L2.CX0) rfl (by decide) (by kernel_rfl) ⟨rfl, by decide, by decide⟩ ?F (fun _ _ _ _ z => z)
    intro w mg fa h Y G hmg0
    obtain ⟨K, KX, c, dq⟩ := Y
    have hmg : mg ("law" : PySem.Str) = some (.ref fa) := by
      have e : (HandSHeadRun.topDef (OpenLaw.row PySem.Challenge.rw_soundtill_k81_plans_read).prog 80).name = ("law" : PySem.Str) := by kernel_rfl
      rw [← e]
      exact hmg0
    obtain ⟨ef, fd, hb, hF⟩ := Q.factsL (P := (PySem.Challenge.rw_soundtill_k81_plans_read).prog) (w := w) KX G hmg c dq
    subst ef
    exact ⟨K, fd, [Q.cTA K (He.ga K "law")], Q.spLaw K [Q.cTA K (He.ga K "law")], KX, (fun r hr => by
      simp only [List.mem_cons, List.not_mem_nil, or_false] at hr
      rcases hr with rfl
      · exact c.hd _ (List.mem_of_getElem? (i := 0) rfl)), (fun r hr => by
      simp only [List.mem_cons, List.not_mem_nil, or_false] at hr
      rcases hr with rfl
      · exact c.out _ (List.mem_of_getElem? (i := 0) rfl)), (fun r hr => by
      simp only [List.mem_cons, List.not_mem_nil, or_false] at hr
      rcases hr with rfl
      · exact c.empty _ (List.mem_of_getElem? (i := 0) rfl)), hb, fun H a ns hl hO hT hS => ⟨a, ns, rfl, hS, hl, hO, hT, fun _ => rfl⟩,
      fun b0 h1 h2 h3 => hF b0 h1 h2 (h3 _ (List.mem_of_getElem? (i := 0) rfl))⟩
