import PyProof.Rows.All
import Wide.All
import OpenK.AllK
import Wide.FinOn
import HandS.ForMost
import HandS.Wide
import HandS.IsInst
import HandS.Property
import HandS.ClsMeth
import HandS.Defaults
import HandS.MakeKw
import HandS.MakeKwOnly
import HandS.FStr
import HandS.Lambda
import HandS.SlotsOwn
import HandS.Evl
import HandS.Walk
import KE.KStateDown
import Lean
import HandS.Text
import PyProof.StrBlock2
import OpenK.KDescr
import KE.GoesEnum
import KE.GoesEnumKw
import KE.GoesZip
import KE.GoesMore
import KE.KUnpackStar
import HandS.Ends
import HandS.Words
import HandS.Head0
import HandS.Head1
import HandS.Head2
import HandS.HeadEnd
import HandS.HeadHook1
import HandS.HeadHook2
import HandS.HeadNt
import HandS.HeadHook4
import KE.KNestM
import HandS.ExcIs
import KE.KOpsOwn
import KE.KExcIs
import HandS.ExcInit
import HandS.ExcOwn
import HandS.ExcField
import HandS.RaiseMore
import HandS.Set
import HandS.SetFor
import HandS.Strs
import HandS.Conv
import HandS.DictComp
import HandS.Star
import HandS.More
import KE.KDictSum
import KE.KSortTupG
import HandS.EndTab
import PyProof.ReprLen
import PyProof.StrLawsRepr
import KE.LtData
import KE.DataCmp
import KE.KCallOwn
import KE.KDictPairs
import HandS.TupLen
import HandS.Flow
import HandS.Style
import HandS.ReplaceLit
import HandS.DictEq
import HandS.ExcValue
import HandS.ListEq
import KE.KSuper
import HandS.HeadHook3
import PyProof.MeetsStr3
import PyProof.WalkInts
import PySem.Challenge.RW_soundtill_k13_pairs_of_rows
set_option Elab.async false
set_option linter.all false
set_option maxRecDepth 100000
set_option maxHeartbeats 4000000
namespace Q
open PySem PySem.Spec PyProof.Rows L2
/-- nothing is being shown -/
abbrev G0 (A : Around) : Prop := A.guards = some []
theorem g0_deeper {A : Around} {e : Env} (h : G0 A) : G0 (A.deeper e) := h
theorem g0_caller : G0 callerA := rfl
/-- a def's promise where nothing is being shown around it -/
structure FnA (P : Program) (w : World) (K : PySem.W.Frag) (mg : Str → Option Value) (base : Heap) (CX : CXT) (k : Nat) (f : Addr) (fd : FuncData) (ps : List Str) (sp : Sp) : Prop where
  len : ∀ vs H Q E, sp vs H Q E → vs.length = ps.length
  run : ∀ (A : Around) (outer : List Env) (s : Shared) (H : Hp) (args : Args) (us : List Value) (vs : List V) (Q : VK) (E : XK), G0 A → Room k A → Env0 P w K mg base A outer s H →
    BindsTo s fd args (ps.zip us) → Vals vs us → sp vs H Q E → codeAny (model P w) A (.call (.ref f) args) (CR CX outer P w H s Q E) s
section
variable {X : Cx}
def rRepr (K : PySem.W.Frag) : List V → Hp → VK → Prop := fun xs H Q => ∃ (x : V) (d : PyData), xs = [x] ∧ Dp K H x d ∧ d.showable = true ∧ d.depth ≤ 60 ∧ d.shown.length ≤ sizeLine ∧ Q (.str d.shown) H
end
end Q
namespace Q
open PySem PySem.Spec PyProof.Rows L2
/-- no table of code objects -/
abbrev NoT (o : HO) : Prop := ∀ ps, o ≠ .tbl ps
/-- neither a table nor a thing by its heap -/
def plainB : HO → Bool
  | .tbl _ => false
  | .ext _ => false
  | _ => true
/-- told: as it is, and no table -/
def Gh (G H : Hp) : Prop := Same G H ∧ ∀ a o, G a = some o → NoT o
/-- all but p is as it was -/
def But (p : Addr) (H H' : Hp) : Prop := ∀ b o, b ≠ p → H b = some o → H' b = some o
/-- the entry: the heap, the ghost, the objects of the caller that the def may change -/
structure En where
  H0 : Hp
  G0 : Hp
  P0 : List Addr
  T : List (Addr × Str)
structure Wd (e : En) (G H : Hp) (M : List Addr) : Prop where
  le : Same G H
  mu : ∀ a ∈ M, G a = none ∧ (∃ o, H a = some o) ∧ (e.H0 a = none ∨ a ∈ e.P0)
  nd : M.Nodup
  dom : ∀ a, e.H0 a ≠ none → H a ≠ none
  gr : Same e.G0 G
  fr : ∀ a, e.H0 a ≠ none → G a = e.G0 a
  kp : ∀ a o, a ∉ e.P0 → e.H0 a = some o → H a = some o
  nt : ∀ a o, G a = some o → NoT o
  mt : ∀ a ∈ M, ∀ o, H a = some o → plainB o = true
  tb : LamX.Tabs e.T H
theorem pl_nt {o : HO} (h : plainB o = true) : NoT o := fun ps z => by
  rw [z] at h
  cases h
theorem tabs_but {T : List (Addr × Str)} {H H' : Hp} {p : Addr} {o : HO} (t : LamX.Tabs T H) (b : But p H H') (hp : H p = some o) (pl : plainB o = true) : LamX.Tabs T H' := fun q hq => by
  obtain ⟨ps, h1, h2, h3⟩ := t q hq
  refine ⟨ps, b _ _ (fun z => ?_) h1, h2, fun pos cv hc => ?_⟩
  · rw [z, hp] at h1
    rw [Option.some.inj h1] at pl
    cases pl
  · obtain ⟨c, e1, e2⟩ := h3 pos cv hc
    refine ⟨c, e1, b _ _ (fun z => ?_) e2⟩
    rw [z, hp] at e2
    rw [Option.some.inj e2] at pl
    cases pl
theorem tabs_nil {H : Hp} : LamX.Tabs [] H := fun p hp => by cases hp
theorem Wd.gh {e : En} {G H : Hp} {M : List Addr} (w : Wd e G H M) : Gh G H := ⟨w.le, w.nt⟩
section
variable {e : En} {G H H' : Hp} {M : List Addr} {q p : Addr} {o u : HO}
theorem same_upd (h : H q = none) : Same H (upd H q o) := fun a u e => by
  rw [upd_ne (ne_of_none e h)]
  exact e
theorem some_ne {α : Type} {x : Option α} {y : α} (h : x = some y) : x ≠ none := by rw [h]; exact Option.some_ne_none y
theorem wd_startT {H G : Hp} {P : List Addr} {T : List (Addr × Str)} {M : List Addr} (s : Gh G H) (hp : ∀ a ∈ M, G a = none ∧ ∃ o, H a = some o ∧ plainB o = true) (nd : M.Nodup) (sub : ∀ a ∈ M, a ∈ P) (t : LamX.Tabs T H) : Wd ⟨H, G, P, T⟩ G H M :=
  ⟨s.1, fun a ha => ⟨(hp a ha).1, (hp a ha).2.elim fun o z => ⟨o, z.1⟩, .inr (sub a ha)⟩, nd, fun _ h => h, Same.refl _, fun _ _ => rfl, fun _ _ _ h => h, s.2, fun a ha o h => by
    obtain ⟨_, u, h1, h2⟩ := hp a ha
    rw [h1] at h
    rw [← Option.some.inj h]
    exact h2, t⟩
theorem wd_start {H G : Hp} {P : List Addr} (s : Gh G H) (hp : ∀ a ∈ P, G a = none ∧ ∃ o, H a = some o ∧ plainB o = true) (nd : P.Nodup) : Wd ⟨H, G, P, []⟩ G H P := wd_startT s hp nd (fun _ h => h) tabs_nil
theorem wd_pure {H G : Hp} (s : Gh G H) : Wd ⟨H, G, [], []⟩ G H [] := wd_start s (fun a h => by simp at h) List.nodup_nil
theorem Wd.g (w : Wd e G H M) (h : H q = none) : G q = none := by
  cases z : G q with
  | none => rfl
  | some o => rw [w.le _ _ z] at h; cases h
theorem Wd.nm (w : Wd e G H M) (h : H q = none) {m : Addr} (hm : m ∈ M) : q ≠ m := fun z => by
  obtain ⟨_, ⟨o, ho⟩, _⟩ := w.mu m hm
  rw [← z, h] at ho
  cases ho
theorem Wd.n0 (w : Wd e G H M) (h : H q = none) : e.H0 q = none := by
  cases z : e.H0 q with
  | none => rfl
  | some o => exact absurd h (w.dom q (some_ne z))
/-- a new object, told -/
theorem wd_lay (w : Wd e G H M) (h : H q = none) (no : NoT o := by intro ps z; cases z) : Wd e (upd G q o) (upd H q o) M where
  le := fun a u z => by
    by_cases x : a = q
    · subst x; rw [upd_same] at z ⊢; exact z
    · rw [upd_ne x] at z ⊢; exact w.le _ _ z
  mu := fun a ha => by
    obtain ⟨h1, h2, h3⟩ := w.mu a ha
    have x : a ≠ q := (w.nm h ha).symm
    rw [upd_ne x, upd_ne x]
    exact ⟨h1, h2, h3⟩
  nd := w.nd
  dom := fun a ha => by
    by_cases x : a = q
    · rw [x, upd_same]; simp
    · rw [upd_ne x]; exact w.dom a ha
  gr := fun a u z => same_upd (w.g h) _ _ (w.gr _ _ z)
  fr := fun a ha => by
    have x : a ≠ q := fun z => by rw [z, w.n0 h] at ha; exact ha rfl
    rw [upd_ne x]
    exact w.fr a ha
  kp := fun a u hp z => same_upd h _ _ (w.kp a u hp z)
  nt := fun a u z => by
    by_cases x : a = q
    · rw [x, upd_same] at z
      rw [← Option.some.inj z]
      exact no
    · rw [upd_ne x] at z
      exact w.nt a u z
  mt := fun a ha u z => by
    rw [upd_ne (w.nm h ha).symm] at z
    exact w.mt a ha u z
  tb := w.tb.ext (same_upd h)
/-- a new object, to be changed -/
theorem wd_layM (w : Wd e G H M) (h : H q = none) (no : plainB o = true := by rfl) : Wd e G (upd H q o) (q :: M) where
  le := fun a u z => same_upd h _ _ (w.le _ _ z)
  mu := fun a ha => by
    rcases List.mem_cons.mp ha with x | ha
    · subst x
      exact ⟨w.g h, ⟨o, upd_same⟩, .inl (w.n0 h)⟩
    · obtain ⟨h1, h2, h3⟩ := w.mu a ha
      rw [upd_ne (w.nm h ha).symm]
      exact ⟨h1, h2, h3⟩
  nd := List.nodup_cons.mpr ⟨fun z => w.nm h z rfl, w.nd⟩
  dom := fun a ha => by
    by_cases x : a = q
    · rw [x, upd_same]; simp
    · rw [upd_ne x]; exact w.dom a ha
  gr := w.gr
  fr := w.fr
  kp := fun a u hp z => same_upd h _ _ (w.kp a u hp z)
  nt := w.nt
  mt := fun a ha u z => by
    rcases List.mem_cons.mp ha with x | ha
    · rw [x, upd_same] at z
      rw [← Option.some.inj z]
      exact no
    · rw [upd_ne (w.nm h ha).symm] at z
      exact w.mt a ha u z
  tb := w.tb.ext (same_upd h)
/-- a changed object -/
theorem wd_but (w : Wd e G H M) (hq : q ∈ M) (b : But q H H') (ho : H' q = some o) (no : plainB o = true := by rfl) : Wd e G H' M where
  le := fun a u z => b a u (fun x => by rw [x, (w.mu q hq).1] at z; cases z) (w.le _ _ z)
  mu := fun a ha => by
    obtain ⟨h1, ⟨o1, h2⟩, h3⟩ := w.mu a ha
    refine ⟨h1, ?_, h3⟩
    by_cases x : a = q
    · subst x; exact ⟨_, ho⟩
    · exact ⟨_, b a _ x h2⟩
  nd := w.nd
  dom := fun a ha => by
    by_cases x : a = q
    · rw [x, ho]; simp
    · cases z : H a with
      | none => exact absurd z (w.dom a ha)
      | some u => rw [b a u x z]; simp
  gr := w.gr
  fr := w.fr
  kp := fun a u hp z => by
    have h1 := w.kp a u hp z
    refine b a u (fun x => ?_) h1
    subst x
    rcases (w.mu a hq).2.2 with y | y
    · rw [y] at z; cases z
    · exact hp y
  nt := w.nt
  mt := fun a ha u z => by
    by_cases x : a = q
    · rw [x, ho] at z
      rw [← Option.some.inj z]
      exact no
    · obtain ⟨_, ⟨v, hv⟩, _⟩ := w.mu a ha
      rw [b a v x hv] at z
      rw [← Option.some.inj z]
      exact w.mt a ha v hv
  tb := by
    obtain ⟨_, ⟨v, hv⟩, _⟩ := w.mu q hq
    exact tabs_but w.tb b hv (w.mt q hq v hv)
theorem but_upd : But q H (upd H q o) := fun b u hb h => by rw [upd_ne hb]; exact h
theorem wd_mut (w : Wd e G H M) (hq : q ∈ M) (no : plainB o = true := by rfl) : Wd e G (upd H q o) M := wd_but w hq but_upd upd_same no
theorem wd_same (w : Wd e G H M) (s : Same H H') : Wd e G H' M where
  le := fun a u z => s _ _ (w.le _ _ z)
  mu := fun a ha => by
    obtain ⟨h1, ⟨o1, h2⟩, h3⟩ := w.mu a ha
    exact ⟨h1, ⟨o1, s _ _ h2⟩, h3⟩
  nd := w.nd
  dom := fun a ha => by
    cases z : H a with
    | none => exact absurd z (w.dom a ha)
    | some u => rw [s a u z]; simp
  gr := w.gr
  fr := w.fr
  kp := fun a u hp z => s _ _ (w.kp a u hp z)
  nt := w.nt
  mt := fun a ha u z => by
    obtain ⟨_, ⟨v, hv⟩, _⟩ := w.mu a ha
    rw [s _ _ hv] at z
    rw [← Option.some.inj z]
    exact w.mt a ha v hv
  tb := w.tb.ext s
/-- what is changed no more is told -/
theorem wd_freeze (w : Wd e G H (q :: M)) (h : H q = some o) (h0 : e.H0 q = none) : Wd e (upd G q o) H M ∧ Same G (upd G q o) := by
  have gq := (w.mu q (List.mem_cons_self)).1
  have nq := List.nodup_cons.mp w.nd
  refine ⟨⟨fun a u z => ?_, fun a ha => ?_, nq.2, w.dom, fun a u z => same_upd gq _ _ (w.gr _ _ z), fun a ha => ?_, w.kp, fun a u z => ?_, fun a ha => w.mt a (List.mem_cons_of_mem _ ha), w.tb⟩, same_upd gq⟩
  · by_cases x : a = q
    · subst x; rw [upd_same] at z; rw [← z]; exact h
    · rw [upd_ne x] at z; exact w.le _ _ z
  · obtain ⟨h1, h2, h3⟩ := w.mu a (List.mem_cons_of_mem _ ha)
    rw [upd_ne (show a ≠ q from fun x => nq.1 (by rw [← x]; exact ha))]
    exact ⟨h1, h2, h3⟩
  · have x : a ≠ q := fun z => by rw [z, h0] at ha; exact ha rfl
    rw [upd_ne x]
    exact w.fr a ha
  · by_cases x : a = q
    · rw [x, upd_same] at z
      rw [← Option.some.inj z]
      exact pl_nt (w.mt q List.mem_cons_self o h)
    · rw [upd_ne x] at z
      exact w.nt a u z
theorem wd_drop {M' : List Addr} (w : Wd e G H M) (h : M'.Sublist M) : Wd e G H M' := ⟨w.le, fun a ha => w.mu a (h.subset ha), w.nd.sublist h, w.dom, w.gr, w.fr, w.kp, w.nt, fun a ha => w.mt a (h.subset ha), w.tb⟩
end
/-- a def that changes nothing hands back what P tells: P of the value and the ghost -/
def Ret (G H : Hp) (P : V → Hp → Prop) (Q : VK) : Prop := ∀ v H' G', Same H H' → Gh G' H' → Same G G' → (∀ a, H a ≠ none → G' a = G a) → P v G' → Q v H'
theorem ret_of {G H G' H' : Hp} {M : List Addr} {P : V → Hp → Prop} {Q : VK} {v : V} (k : Ret G H P Q) (w : Wd ⟨H, G, [], []⟩ G' H' M) (p : P v G') : Q v H' :=
  k v H' G' (fun a o h => w.kp a o (by simp) h) w.gh w.gr w.fr p
/-- a call of such a def -/
theorem ret_use {e : En} {G H : Hp} {M : List Addr} {P : V → Hp → Prop} {Q : VK} (w : Wd e G H M) (k : ∀ v G' H', Wd e G' H' M → Same G G' → Same H H' → P v G' → Q v H') : Ret G H P Q := by
  intro v H' G' s1 s2 s3 fr p
  refine k v G' H' ?_ s3 s1 p
  have w1 := wd_same w s1
  refine ⟨s2.1, fun a ha => ?_, w.nd, w1.dom, fun a o h => s3 _ _ (w.gr _ _ h), fun a ha => by rw [fr a (w.dom a ha)]; exact w.fr a ha, w1.kp, s2.2, w1.mt, w1.tb⟩
  obtain ⟨h1, ⟨o, h2⟩, h3⟩ := w.mu a ha
  obtain ⟨_, h4, _⟩ := w1.mu a ha
  exact ⟨by rw [fr a (some_ne h2)]; exact h1, h4, h3⟩
/-- the pen at p, its cells at c, at most n of them begun -/
def PenAt (p c : Addr) (n : Nat) (H : Hp) : Prop := ∃ (at_ : Nat) (g : Int), H p = some (.lst [.ref c, .int at_, .int g]) ∧ at_ ≤ n ∧ 0 ≤ g
theorem PenAt.more {p c : Addr} {n m : Nat} {H : Hp} (P : PenAt p c n H) (h : n ≤ m) : PenAt p c m H := by
  obtain ⟨a, g, h1, h2, h3⟩ := P
  exact ⟨a, g, h1, Nat.le_trans h2 h, h3⟩
theorem PenAt.same {p c : Addr} {n : Nat} {H H' : Hp} (P : PenAt p c n H) (s : Same H H') : PenAt p c n H' := by
  obtain ⟨a, g, h1, h2⟩ := P
  exact ⟨a, g, s _ _ h1, h2⟩
theorem PenAt.but {p c q : Addr} {n : Nat} {H H' : Hp} (P : PenAt p c n H) (b : But q H H') (h : p ≠ q) : PenAt p c n H' := by
  obtain ⟨a, g, h1, h2⟩ := P
  exact ⟨a, g, b _ _ h h1, h2⟩
def Cells (c : Addr) (G : Hp) : Prop := ∃ ns : List Int, G c = some (.lst (ns.map V.int)) ∧ ns.length ≤ 63
theorem Cells.same {c : Addr} {G G' : Hp} (h : Cells c G) (s : Same G G') : Cells c G' := by
  obtain ⟨ns, h1, h2⟩ := h
  exact ⟨ns, s _ _ h1, h2⟩
/-- a def that takes from the pen alone -/
def RetP (p c : Addr) (n : Nat) (G H : Hp) (P : V → Hp → Prop) (Q : VK) : Prop := ∀ v H' G', But p H H' → PenAt p c n H' → Gh G' H' → Same G G' → (∀ a, H a ≠ none → G' a = G a) → P v G' → Q v H'
theorem retP_of {p c : Addr} {n : Nat} {G H G' H' : Hp} {M : List Addr} {P : V → Hp → Prop} {Q : VK} {v : V} (k : RetP p c n G H P Q) (w : Wd ⟨H, G, [p], []⟩ G' H' M) (hp : PenAt p c n H') (h : P v G') : Q v H' :=
  k v H' G' (fun a o hn h => w.kp a o (by simpa using hn) h) hp w.gh w.gr w.fr h
theorem retP_use {p c : Addr} {n : Nat} {e : En} {G H : Hp} {M : List Addr} {P : V → Hp → Prop} {Q : VK} (w : Wd e G H M) (hp : p ∈ M) (k : ∀ v G' H', Wd e G' H' M → Same G G' → But p H H' → PenAt p c n H' → P v G' → Q v H') : RetP p c n G H P Q := by
  intro v H' G' b P' s2 s3 fr p'
  obtain ⟨a, g, h1, h2⟩ := id P'
  have w1 := wd_but w hp b h1
  refine k v G' H' ⟨s2.1, fun a ha => ?_, w.nd, w1.dom, fun a o h => s3 _ _ (w.gr _ _ h), fun a ha => by rw [fr a (w.dom a ha)]; exact w.fr a ha, w1.kp, s2.2, w1.mt, w1.tb⟩ s3 b P' p'
  obtain ⟨h1, ⟨o, h2⟩, h3⟩ := w.mu a ha
  obtain ⟨_, h4, _⟩ := w1.mu a ha
  exact ⟨by rw [fr a (some_ne h2)]; exact h1, h4, h3⟩
theorem same_at {H H' : Hp} {p : Addr} {o : HO} (s : Same H H') (h : H p = some o) : H' p = some o := s _ _ h
theorem but_at {H H' : Hp} {p q : Addr} {o : HO} (s : But q H H') (n : p ≠ q) (h : H p = some o) : H' p = some o := s _ _ n h
theorem wd_at {e : En} {G H : Hp} {M : List Addr} {p : Addr} {o : HO} (w : Wd e G H M) (h : G p = some o) : H p = some o := w.le _ _ h
theorem same_sqL {K : PySem.W.Frag} {H H' : Hp} {p : Addr} {xs : List V} (s : Same H H') (h : SqL K H p xs) : SqL K H' p xs := s.seq h
theorem wd_sqL {e : En} {G H : Hp} {M : List Addr} {K : PySem.W.Frag} {p : Addr} {xs : List V} (w : Wd e G H M) (h : SqL K G p xs) : SqL K H p xs := w.le.seq h
theorem same_sqT {K : PySem.W.Frag} {H H' : Hp} {p : Addr} {xs : List V} (s : Same H H') (h : SqT K H p xs) : SqT K H' p xs := by
  rcases h with (h | ⟨o, h⟩) | h
  · exact .inl (.inl (s _ _ h))
  · exact .inl (.inr ⟨o, s _ _ h⟩)
  · exact .inr h
theorem wd_sqT {e : En} {G H : Hp} {M : List Addr} {K : PySem.W.Frag} {p : Addr} {xs : List V} (w : Wd e G H M) (h : SqT K G p xs) : SqT K H p xs := same_sqT w.le h
theorem same_dpAll {K : PySem.W.Frag} {H H' : Hp} (s : Same H H') : ∀ (n : Nat), (∀ d x, sizeOf d ≤ n → Dp K H x d → Dp K H' x d) ∧ (∀ ds vs, sizeOf ds ≤ n → DpAll K H vs ds → DpAll K H' vs ds) := by
  intro n
  induction n with
  | zero => exact ⟨fun d x hn h => (by cases d <;> simp at hn), fun ds vs hn h => (by cases ds <;> simp at hn)⟩
  | succ n ih =>
    have h1 : ∀ d x, sizeOf d ≤ n + 1 → Dp K H x d → Dp K H' x d := by
      intro d x hn h
      cases h with
      | non => exact .non
      | bl b => exact .bl b
      | int i => exact .int i
      | str x => exact .str x
      | lst hs ha => exact .lst (s.seq hs) (ih.2 _ _ (by simp at hn; omega) ha)
      | tup hs ha => exact .tup (same_sqT s hs) (ih.2 _ _ (by simp at hn; omega) ha)
    refine ⟨h1, fun ds vs hn h => ?_⟩
    cases h with
    | nil => exact .nil
    | cons a b => exact .cons (h1 _ _ (by simp at hn; omega) a) (ih.2 _ _ (by simp at hn; omega) b)
theorem same_dp {K : PySem.W.Frag} {H H' : Hp} (s : Same H H') {x : V} {d : PyData} (h : Dp K H x d) : Dp K H' x d := (same_dpAll s (sizeOf d)).1 d x (Nat.le_refl _) h
theorem same_dpa {K : PySem.W.Frag} {H H' : Hp} (s : Same H H') {xs : List V} {ds : List PyData} (h : DpAll K H xs ds) : DpAll K H' xs ds := (same_dpAll s (sizeOf ds)).2 ds xs (Nat.le_refl _) h
theorem wd_dp {e : En} {G H : Hp} {M : List Addr} {K : PySem.W.Frag} {x : V} {d : PyData} (w : Wd e G H M) (h : Dp K G x d) : Dp K H x d := same_dp w.le h
section
variable {σ : L2.St} {H : Hp} {i : Nat} {v x y z : V} {ta tb tc te : TE} {t u : TT} {ts tl : TA} {D : Ends} {sa sb : TS} {g : TG} {Qv : VK} {Qa : List V → Hp → Prop} {Qb : Bool → Hp → Prop} {r r' : R2} {K : PySem.W.Frag}
theorem r_var (h : σ[i]? = some (some v)) (q : Qv v H) : tVar i σ H Qv := ⟨v, h, q⟩
theorem r_c (q : Qv v H) : tC v σ H Qv := q
theorem r_op (q : ta σ H fun x H1 => tb σ H1 fun y H2 => r x y H2 Qv) : tOp r ta tb σ H Qv := q
theorem r_un {r : V → Hp → VK → Prop} (q : ta σ H fun x H1 => r x H1 Qv) : tUn r ta σ H Qv := q
theorem r_cb {r : List V → Hp → VK → Prop} (q : ts σ H fun vs H1 => r vs H1 Qv) : tCB r ts σ H Qv := q
theorem r_call {sp : Sp} {dvs : List V} {E : XK} (q : ts σ H fun vs H1 => sp (vs ++ dvs) H1 Qv E) : tCall sp dvs E ts σ H Qv := q
theorem r_call0 {sp : Sp} {E : XK} (q : ts σ H fun vs H1 => sp vs H1 Qv E) : tCall sp [] E ts σ H Qv := by
  unfold tCall
  simp only [List.append_nil]
  exact q
theorem r_nil (q : Qa [] H) : tNil σ H Qa := q
theorem r_cons (q : ta σ H fun x H1 => ts σ H1 fun xs H2 => Qa (x :: xs) H2) : tCons ta ts σ H Qa := q
theorem r_seq (q : sa { D with nx := sb D } σ H) : tSeq sa sb D σ H := q
theorem r_asg (q : te σ H fun x H1 => g x σ H1 D.nx) : tAsg te g D σ H := q
theorem r_name {Q : L2.St → Hp → Prop} (q : Q (σ.set i (some v)) H) : gName i v σ H Q := q
theorem r_ret (q : te σ H D.rt) : tRet te D σ H := q
theorem r_next (q : D.nx σ H) : tNext D σ H := q
theorem r_drop (q : te σ H fun _ H1 => D.nx σ H1) : tDrop te D σ H := q
theorem r_ifS (q : t σ H fun b H1 => if b = true then sa D σ H1 else sb D σ H1) : tIfS t sa sb D σ H := q
theorem r_test (q : te σ H fun x H' => ∃ k, x = .bl k ∧ Qb k H') : tTest te σ H Qb := q
theorem r_tB (q : te σ H fun x H' => ∃ k, x = .bl k ∧ Qb k H') : tB te σ H Qb := q
theorem r_exb {P : Bool → Prop} {b : Bool} (q : P b) : ∃ k, V.bl b = .bl k ∧ P k := ⟨b, rfl, q⟩
theorem r_and (q : t σ H fun c H1 => if c = true then u σ H1 Qb else Qb false H1) : tAnd t u σ H Qb := q
theorem r_or (q : t σ H fun c H1 => if c = true then Qb true H1 else u σ H1 Qb) : tOr t u σ H Qb := q
theorem r_not (q : t σ H fun c H1 => Qb (!c) H1) : tNot t σ H Qb := q
theorem r_andV (q : ta σ H fun x H1 => ∃ c, x = .bl c ∧ if c = true then tb σ H1 Qv else Qv (.bl false) H1) : tAndV ta tb σ H Qv := q
theorem r_orV (q : ta σ H fun x H1 => ∃ c, x = .bl c ∧ if c = true then Qv (.bl true) H1 else tb σ H1 Qv) : tOrV ta tb σ H Qv := q
theorem r_notV (q : ta σ H fun x H1 => ∃ c, x = .bl c ∧ Qv (.bl (!c)) H1) : tNotV ta σ H Qv := q
theorem r_ifE (q : t σ H fun c H1 => if c = true then ta σ H1 Qv else tb σ H1 Qv) : tIf t ta tb σ H Qv := q
theorem r_chain (q : ta σ H fun x H1 => tb σ H1 fun y H2 => r x y H2 fun z H3 => ∃ k, z = .bl k ∧ (if k = true then tc σ H3 fun w' H4 => r' y w' H4 Qv else Qv (.bl false) H3)) : tChain r r' ta tb tc σ H Qv := q
theorem r_eq (h : scal x y = true) (q : Qv (.bl (decide (x = y))) H) : rEq x y H Qv := ⟨h, q⟩
theorem r_gSub {to ti : TE} {s : TSet} {Q : L2.St → Hp → Prop} (q : to σ H fun o H1 => ti σ H1 fun i H2 => s o i v H2 fun H3 => Q σ H3) : gSub to ti s v σ H Q := q
/-- a new object is laid, then R of its address -/
def Lay (n : Nat) (o : HO) (R : VK) (H : Hp) : Prop := n ≤ sizeLine ∧ ∀ p, H p = none → R (.ref p) (upd H p o)
theorem r_lay {e : En} {G : Hp} {M : List Addr} {n : Nat} {o : HO} {R : VK} (w : Wd e G H M) (hl : n ≤ sizeLine) (no : NoT o) (k : ∀ p G' H', H p = none → Wd e G' H' M → Same G G' → G' p = some o → Same H H' → R (.ref p) H') : Lay n o R H :=
  ⟨hl, fun p hp => k p _ _ hp (wd_lay w hp no) (same_upd (w.g hp)) upd_same (same_upd hp)⟩
def LayM (n : Nat) (o : HO) (R : VK) (H : Hp) : Prop := Lay n o R H
theorem r_layM {e : En} {G : Hp} {M : List Addr} {n : Nat} {o : HO} {R : VK} (w : Wd e G H M) (hl : n ≤ sizeLine) (no : plainB o = true) (k : ∀ p H', H p = none → Wd e G H' (p :: M) → H' p = some o → Same H H' → (∀ m ∈ M, p ≠ m) → R (.ref p) H') : LayM n o R H :=
  ⟨hl, fun p hp => k p _ hp (wd_layM w hp no) upd_same (same_upd hp) fun m hm => w.nm hp hm⟩
/-- a list that will be changed -/
def tLstM (ts : TA) : TE := tLst ts
theorem pe_lstM {X : Cx} {es : List Expr} {pos : Pos} (h : PA X es ts) : PE X (.List es pos) (tLstM ts) := pe_lst h
theorem r_lstM (q : ts σ H fun xs H1 => LayM xs.length (.lst xs) Qv H1) : tLstM ts σ H Qv := q
theorem r_tup (q : ts σ H fun xs H1 => Lay xs.length (.tup xs) Qv H1) : tTup ts σ H Qv := q
theorem r_lst (q : ts σ H fun xs H1 => Lay xs.length (.lst xs) Qv H1) : tLst ts σ H Qv := q
theorem opr_or {X : Cx} {f : Value → Value → Sem Value} {r1 r2 : R2} (h1 : OpR X f r1) (h2 : OpR X f r2) : OpR X f (fun x y H Q => r1 x y H Q ∨ r2 x y H Q) := fun pins s σ H x y v u Q I rx ry h =>
  h.elim (fun h => h1 pins s σ H x y v u Q I rx ry h) fun h => h2 pins s σ H x y v u Q I rx ry h
theorem cr_or {X : Cx} {f : Value} {r1 r2 : List V → Hp → VK → Prop} (h1 : CallR X f r1) (h2 : CallR X f r2) : CallR X f (fun xs H Q => r1 xs H Q ∨ r2 xs H Q) := fun pins s σ H xs us Q I r h =>
  h.elim (fun h => h1 pins s σ H xs us Q I r h) fun h => h2 pins s σ H xs us Q I r h
def rStr2 (f : Str → Str → V) : R2 := fun x y H Q => ∃ a b, x = .str a ∧ y = .str b ∧ Q (f a b) H
def rAddS : R2 := fun x y H Q => ∃ i j, x = .str i ∧ y = .str j ∧ i.length + j.length ≤ sizeLine ∧ Q (.str (i ++ j)) H
/-- + : ints, texts, lists -/
def rAdd : R2 := fun x y H Q => rI0 (fun i j => .int (i + j)) x y H Q ∨ (rAddS x y H Q ∨ rCat x y H Q)
theorem q_add {X : Cx} : OpR X (binaryOp .Add) rAdd := opr_or op_add (opr_or op_add_str op_cat)
theorem r_addI {a b : Int} (q : Qv (.int (a + b)) H) : rAdd (.int a) (.int b) H Qv := .inl ⟨a, b, rfl, rfl, q⟩
theorem r_addS {a b : Str} (h : a.length + b.length ≤ sizeLine) (q : Qv (.str (a ++ b)) H) : rAdd (.str a) (.str b) H Qv := .inr (.inl ⟨a, b, rfl, rfl, h, q⟩)
theorem r_addL {a b : Addr} {xs zs : List V} (h1 : H a = some (.lst xs)) (h2 : H b = some (.lst zs)) (q : Lay (xs.length + zs.length) (.lst (xs ++ zs)) Qv H) : rAdd (.ref a) (.ref b) H Qv := .inr (.inr ⟨a, b, xs, zs, rfl, rfl, h1, h2, q⟩)
def rSub : R2 := rI0 fun i j => .int (i - j)
theorem q_sub {X : Cx} : OpR X (binaryOp .Sub) rSub := op_sub
theorem r_sub {a b : Int} (q : Qv (.int (a - b)) H) : rSub (.int a) (.int b) H Qv := ⟨a, b, rfl, rfl, q⟩
def rMul : R2 := rI CMul fun i j => .int (i * j)
theorem q_mul {X : Cx} : OpR X (binaryOp .Mult) rMul := op_mul
theorem r_mul {a b : Int} (c : CMul a b) (q : Qv (.int (a * b)) H) : rMul (.int a) (.int b) H Qv := ⟨a, b, rfl, rfl, c, q⟩
def rFdiv : R2 := rI CDivW fun i j => .int (i / j)
theorem q_fdiv {X : Cx} : OpR X (binaryOp .FloorDiv) rFdiv := op_fdivW
theorem r_fdiv {a b : Int} (c : CDivW a b) (q : Qv (.int (a / b)) H) : rFdiv (.int a) (.int b) H Qv := ⟨a, b, rfl, rfl, c, q⟩
def rMod : R2 := rI (fun _ j => 0 < j) fun i j => .int (i % j)
theorem q_mod {X : Cx} : OpR X (binaryOp .Mod) rMod := op_mod
theorem r_mod {a b : Int} (c : 0 < b) (q : Qv (.int (a % b)) H) : rMod (.int a) (.int b) H Qv := ⟨a, b, rfl, rfl, c, q⟩
def rPow : R2 := rI CPow fun i j => .int (i ^ j.toNat)
theorem q_pow {X : Cx} : OpR X (binaryOp .Pow) rPow := op_pow
theorem r_pow {a b : Int} (c : CPow a b) (q : Qv (.int (a ^ b.toNat)) H) : rPow (.int a) (.int b) H Qv := ⟨a, b, rfl, rfl, c, q⟩
/-- comparisons of ints | of texts -/
def rLtX : R2 := fun x y H Q => rI0 (fun i j => .bl (decide (i < j))) x y H Q ∨ rStr2 (fun a b => .bl (decide (a.cps.toList < b.cps.toList))) x y H Q
theorem q_lt {X : Cx} : OpR X (compareOp .Lt) rLtX := opr_or op_lt op_lt_str
theorem r_lt {a b : Int} (q : Qv (.bl (decide (a < b))) H) : rLtX (.int a) (.int b) H Qv := .inl ⟨a, b, rfl, rfl, q⟩
theorem r_ltS {a b : Str} (q : Qv (.bl (decide (a.cps.toList < b.cps.toList))) H) : rLtX (.str a) (.str b) H Qv := .inr ⟨a, b, rfl, rfl, q⟩
def rLeX : R2 := rI0 fun i j => .bl (decide (i ≤ j))
theorem q_le {X : Cx} : OpR X (compareOp .LtE) rLeX := op_le
theorem r_le {a b : Int} (q : Qv (.bl (decide (a ≤ b))) H) : rLeX (.int a) (.int b) H Qv := ⟨a, b, rfl, rfl, q⟩
def rGtX : R2 := rI0 fun i j => .bl (decide (j < i))
theorem q_gt {X : Cx} : OpR X (compareOp .Gt) rGtX := op_gt
theorem r_gt {a b : Int} (q : Qv (.bl (decide (b < a))) H) : rGtX (.int a) (.int b) H Qv := ⟨a, b, rfl, rfl, q⟩
def rGeX : R2 := rI0 fun i j => .bl (decide (j ≤ i))
theorem q_ge {X : Cx} : OpR X (compareOp .GtE) rGeX := op_ge
theorem r_ge {a b : Int} (q : Qv (.bl (decide (b ≤ a))) H) : rGeX (.int a) (.int b) H Qv := ⟨a, b, rfl, rfl, q⟩
/-- == : scalars, data -/
def rEqX (K : PySem.W.Frag) : R2 := fun x y H Q => rEq x y H Q ∨ rEqD K x y H Q
theorem q_eq {X : Cx} (hu : X.A.units + 64 < cLine) : OpR X (compareOp .Eq) (rEqX X.K) := opr_or op_eq (op_eqD hu)
theorem r_eqS (h : scal x y = true) (q : Qv (.bl (decide (x = y))) H) : rEqX K x y H Qv := .inl ⟨h, q⟩
theorem r_eqD {d e : PyData} (h1 : Dp K H x d) (h2 : Dp K H y e) (s1 : SeqAt.shaped d = true) (s2 : SeqAt.shaped e = true) (q : Qv (.bl (PyData.eqv d e)) H) : rEqX K x y H Qv := .inr ⟨d, e, h1, h2, s1, s2, q⟩
def rNeX (K : PySem.W.Frag) : R2 := fun x y H Q => rNe x y H Q ∨ rNeD K x y H Q
theorem q_ne {X : Cx} (hu : X.A.units + 64 < cLine) : OpR X (compareOp .NotEq) (rNeX X.K) := opr_or op_ne (op_neD hu)
theorem r_neS (h : scal x y = true) (q : Qv (.bl (!decide (x = y))) H) : rNeX K x y H Qv := .inl ⟨h, q⟩
theorem r_neD {d e : PyData} (h1 : Dp K H x d) (h2 : Dp K H y e) (s1 : SeqAt.shaped d = true) (s2 : SeqAt.shaped e = true) (q : Qv (.bl (!PyData.eqv d e)) H) : rNeX K x y H Qv := .inr ⟨d, e, h1, h2, s1, s2, q⟩
theorem r_inL {p : Addr} {xs : List V} (h : SqL K H p xs) (f1 : flatV x = true) (f2 : xs.all flatV = true) (q : Qv (.bl (inV x xs)) H) : rIn K false x (.ref p) H Qv := ⟨p, xs, rfl, .inl h, f1, f2, q⟩
theorem r_inT {p : Addr} {xs : List V} (h : SqT K H p xs) (f1 : flatV x = true) (f2 : xs.all flatV = true) (q : Qv (.bl (inV x xs)) H) : rIn K false x (.ref p) H Qv := ⟨p, xs, rfl, .inr h, f1, f2, q⟩
theorem r_ninL {p : Addr} {xs : List V} (h : SqL K H p xs) (f1 : flatV x = true) (f2 : xs.all flatV = true) (q : Qv (.bl (!inV x xs)) H) : rIn K true x (.ref p) H Qv := ⟨p, xs, rfl, .inl h, f1, f2, q⟩
theorem r_ninT {p : Addr} {xs : List V} (h : SqT K H p xs) (f1 : flatV x = true) (f2 : xs.all flatV = true) (q : Qv (.bl (!inV x xs)) H) : rIn K true x (.ref p) H Qv := ⟨p, xs, rfl, .inr h, f1, f2, q⟩
def rIsN : R2 := fun x y H Q => y = .non ∧ Q (.bl (decide (x = .non))) H
theorem r_isN (q : Qv (.bl (decide (x = .non))) H) : rIsN x .non H Qv := ⟨rfl, q⟩
def rNotN : R2 := fun x y H Q => y = .non ∧ Q (.bl (!decide (x = .non))) H
theorem r_notN (q : Qv (.bl (!decide (x = .non))) H) : rNotN x .non H Qv := ⟨rfl, q⟩
theorem q_ix {X : Cx} : IxR X (rIx X.K) := ix_seq
theorem r_ixL {p : Addr} {xs : List V} {k : Int} (h : SqL K H p xs) (e : atI xs k = some v) (q : Qv v H) : rIx K (.ref p) (.int k) H Qv := .inl ⟨p, xs, k, v, rfl, rfl, h, e, q⟩
theorem r_ixT {p : Addr} {xs : List V} {k : Int} (h : SqT K H p xs) (e : atI xs k = some v) (q : Qv v H) : rIx K (.ref p) (.int k) H Qv := .inr (.inl ⟨p, xs, k, v, rfl, rfl, h, e, q⟩)
theorem r_ixS {z : Str} {k : Int} {c : Nat} (h : z.length ≤ sizeLine) (e : atI z.cps.toList k = some c) (q : Qv (.str ⟨#[c]⟩) H) : rIx K (.str z) (.int k) H Qv := .inr (.inr ⟨z, k, c, rfl, rfl, h, e, q⟩)
theorem r_setM {e : En} {G : Hp} {M : List Addr} {p : Addr} {xs : List V} {k : Int} {j : Nat} {Q : Hp → Prop} (w : Wd e G H M) (hm : p ∈ M) (h : H p = some (.lst xs)) (e' : ixN xs.length k = some j)
    (q : ∀ H', Wd e G H' M → H' p = some (.lst (xs.set j v)) → But p H H' → Q H') : rSetL (.ref p) (.int k) v H Q := ⟨p, xs, k, j, rfl, rfl, h, e', q _ (wd_mut w hm) upd_same but_upd⟩
def rInt1 : List V → Hp → VK → Prop := fun xs H Q => (∃ i, xs = [.int i] ∧ Q (.int i) H) ∨ ∃ k, xs = [.bl k] ∧ Q (.int (if k then 1 else 0)) H
theorem q_int {X : Cx} : CallR X (.type "int") rInt1 := call_int1
theorem r_int {a : Int} (q : Qv (.int a) H) : rInt1 [.int a] H Qv := .inl ⟨a, rfl, q⟩
theorem r_intB {b : Bool} (q : Qv (.int (if b then 1 else 0)) H) : rInt1 [.bl b] H Qv := .inr ⟨b, rfl, q⟩
def rAbs : List V → Hp → VK → Prop := fun xs H Q => ∃ i, xs = [.int i] ∧ Q (.int (if i < 0 then -i else i)) H
theorem q_abs {X : Cx} : CallR X (.builtin "abs") rAbs := call_abs
theorem r_abs {a : Int} (q : Qv (.int (if a < 0 then -a else a)) H) : rAbs [.int a] H Qv := ⟨a, rfl, q⟩
def rLenX (K : PySem.W.Frag) : List V → Hp → VK → Prop := fun xs H Q => ∃ x n, xs = [x] ∧ LenV K x H n ∧ Q (.int n) H
theorem q_len {X : Cx} : CallR X (.builtin "len") (rLenX X.K) := call_len
theorem r_lenL {p : Addr} {xs : List V} (h : SqL K H p xs) (q : Qv (.int (xs.length : Nat)) H) : rLenX K [.ref p] H Qv := ⟨_, _, rfl, .inl ⟨xs, h, rfl⟩, q⟩
theorem r_lenT {p : Addr} {xs : List V} (h : SqT K H p xs) (q : Qv (.int (xs.length : Nat)) H) : rLenX K [.ref p] H Qv := ⟨_, _, rfl, .inr ⟨xs, h, rfl⟩, q⟩
theorem r_lenS {z : Str} (h : z.length ≤ sizeLine) (q : Qv (.int (z.length : Nat)) H) : rLenX K [.str z] H Qv := ⟨_, _, rfl, ⟨h, rfl⟩, q⟩
def rListOf (K : PySem.W.Frag) : List V → Hp → VK → Prop := fun xs H Q => ∃ p ys, xs = [.ref p] ∧ (SqL K H p ys ∨ SqT K H p ys) ∧ ∀ l, H l = none → Q (.ref l) (upd H l (.lst ys))
theorem q_list {X : Cx} : CallR X (.type "list") (rListOf X.K) := call_list_of
theorem r_listL {p : Addr} {ys : List V} (h : SqL K H p ys) (q : Lay 0 (.lst ys) Qv H) : rListOf K [.ref p] H Qv := ⟨p, ys, rfl, .inl h, q.2⟩
theorem r_listT {p : Addr} {ys : List V} (h : SqT K H p ys) (q : Lay 0 (.lst ys) Qv H) : rListOf K [.ref p] H Qv := ⟨p, ys, rfl, .inr h, q.2⟩
theorem r_sl {r : V → Option Int → Option Int → Hp → VK → Prop} {t1 t2 : TO} (q : te σ H fun x H1 => t1 σ H1 fun l H2 => t2 σ H2 fun u H3 => r x l u H3 Qv) : tSl r te t1 t2 σ H Qv := q
theorem r_noPart {Q : Option Int → Hp → Prop} (q : Q none H) : tNoPart σ H Q := q
theorem r_part {Q : Option Int → Hp → Prop} (q : te σ H fun x H1 => ∃ i, x = .int i ∧ Q (some i) H1) : tPart te σ H Q := q
theorem r_exi {P : Int → Prop} {a : Int} (q : P a) : ∃ i, V.int a = .int i ∧ P i := ⟨a, rfl, q⟩
theorem r_slL {p : Addr} {xs : List V} {lo hi : Option Int} (h : SqL K H p xs) (q : Lay 0 (.lst (cutV xs lo hi)) Qv H) : rSlL K (.ref p) lo hi H Qv := ⟨p, xs, rfl, h, q.2⟩
theorem r_repr {d : PyData} (h : Dp K H x d) (s : d.showable = true) (dp : d.depth ≤ 60) (sz : d.shown.length ≤ sizeLine) (q : Qv (.str d.shown) H) : rRepr K [x] H Qv := ⟨x, d, rfl, h, s, dp, sz, q⟩
end
theorem dpa_ints {K : PySem.W.Frag} {H : Hp} : ∀ ns : List Int, DpAll K H (ns.map V.int) (ns.map PyData.int)
  | [] => .nil
  | n :: r => .cons (.int n) (dpa_ints r)
theorem canLay_ints : ∀ ns : List Int, PyData.canLayAll0 (ns.map PyData.int) = true
  | [] => by simp [PyData.canLayAll0]
  | n :: r => by simp [PyData.canLayAll0, PyData.canLay0, canLay_ints r]
theorem depth_ints : ∀ ns : List Int, PyData.depthAll (ns.map PyData.int) = 0
  | [] => by simp [PyData.depthAll]
  | n :: r => by simp [PyData.depthAll, PyData.depth, depth_ints r]
theorem shaped_ints (ns : List Int) : SeqAt.shaped (.list (ns.map PyData.int)) = true := by
  simp [SeqAt.shaped, PyData.canLay0, PyData.depth, canLay_ints, depth_ints]
theorem shaped_nil : SeqAt.shaped (.list []) = true := shaped_ints []
theorem eqv_nil (ds : List PyData) : PyData.eqv (.list ds) (.list []) = ds.isEmpty := by
  cases ds <;> simp [PyData.eqv, PyData.eqvAll]
theorem sq_bound {a c : Int} (h0 : 0 ≤ a) (h1 : a ≤ 1048576) (c0 : 0 ≤ c) (c1 : c ≤ 1048576) : 0 ≤ c * a * a ∧ c * a * a ≤ 1152921504606846976 := by
  have e1 : c * a ≤ 1048576 * 1048576 := Int.mul_le_mul c1 h1 h0 (by decide)
  have e0 : 0 ≤ c * a := Int.mul_nonneg c0 h0
  refine ⟨Int.mul_nonneg e0 h0, ?_⟩
  exact Int.le_trans (Int.mul_le_mul e1 h1 h0 (by decide)) (by decide)
theorem mul_bound {m k : Int} (h0 : 0 ≤ m) (h1 : m ≤ 4294967296) (k0 : 0 ≤ k) (k1 : k ≤ 134217728) : 0 ≤ m * k ∧ m * k ≤ 576460752303423488 :=
  ⟨Int.mul_nonneg h0 k0, Int.le_trans (Int.mul_le_mul h1 k1 k0 (by decide)) (by decide)⟩
theorem at_mod {α : Type} {xs : List α} (a : Int) (h : xs ≠ []) : ∃ j v, (a % (xs.length : Int)) = (j : Nat) ∧ xs[j]? = some v ∧ atI xs (a % (xs.length : Int)) = some v := by
  have h0 : 0 < xs.length := by cases xs with
    | nil => exact absurd rfl h
    | cons _ _ => simp
  have h1 := Int.emod_nonneg a (show (xs.length : Int) ≠ 0 by omega)
  have h2 := Int.emod_lt_of_pos a (show (0 : Int) < xs.length by omega)
  obtain ⟨j, e⟩ := Int.eq_ofNat_of_zero_le h1
  have hj : j < xs.length := by omega
  refine ⟨j, xs[j], e, List.getElem?_eq_getElem hj, ?_⟩
  rw [e]
  exact atI_nat (List.getElem?_eq_getElem hj)
theorem at_mod_ints {ns : List Int} (a : Int) (h : ns ≠ []) : ∃ z, atI (ns.map V.int) (a % ((ns.map V.int).length : Int)) = some (V.int z) := by
  obtain ⟨j, v, _, h2, h3⟩ := at_mod (xs := ns.map V.int) a (by simpa using h)
  rw [List.getElem?_map] at h2
  cases e : ns[j]? with
  | none => rw [e] at h2; cases h2
  | some z =>
    rw [e] at h2
    exact ⟨z, by rw [h3]; exact h2.symm⟩
theorem pow_small {m k c a e : Int} (m0 : 0 ≤ m) (m1 : m ≤ 4294967296) (k0 : 0 ≤ k) (k1 : k ≤ 134217728) (c0 : 0 ≤ c) (c1 : c ≤ 1048576) (a0 : 0 ≤ a) (a1 : a ≤ 1048576) (e0 : 0 ≤ e) (e1 : e ≤ 4294967296) : (m * k + c * a * a + e).natAbs < 2 ^ 64 := by
  have h1 := mul_bound m0 m1 k0 k1
  have h2 := sq_bound a0 a1 c0 c1
  omega
theorem cdiv_lit {i j : Int} (h : 0 < j) (h2 : j < 1073741824) : CDivW i j := wide_div (b := 30) h (by omega) (by decide) (by decide)
def spDraw : Sp := fun vs H Q _ => ∃ (G : Hp) (p c : Addr) (n : Nat) (many : Int), vs = [.ref p, .int many] ∧ Gh G H ∧ G p = none ∧ Cells c G ∧ PenAt p c n H ∧ n ≤ 1048576 ∧ 0 < many ∧ many ≤ 10000000000000000000000000000000000000000000000000000000000000000000000 ∧
  RetP p c (n + 1) G H (fun v _ => ∃ d : Int, v = .int d ∧ 0 ≤ d ∧ d < many) Q
theorem u_draw {e : En} {G H : Hp} {M : List Addr} {p c : Addr} {n : Nat} {many : Int} {Q : VK} {E : XK} (w : Wd e G H M) (hm : p ∈ M) (hc : Cells c G) (P : PenAt p c n H) (hn : n ≤ 1048576) (h0 : 0 < many)
    (hb : many ≤ 10000000000000000000000000000000000000000000000000000000000000000000000) (k : ∀ (d : Int) (G' H' : Hp), Wd e G' H' M → Same G G' → But p H H' → PenAt p c (n + 1) H' → 0 ≤ d → d < many → Q (.int d) H') : spDraw [.ref p, .int many] H Q E :=
  ⟨G, p, c, n, many, rfl, w.gh, (w.mu p hm).1, hc, P, hn, h0, hb, retP_use w hm fun v G' H' w' s b P' ⟨d, e, h1, h2⟩ => by subst e; exact k d G' H' w' s b P' h1 h2⟩
theorem cutV_ints (ns : List Int) (lo hi : Option Int) : ∃ ms : List Int, cutV (ns.map V.int) lo hi = ms.map V.int := by
  unfold cutV
  exact ⟨_, by rw [← List.map_drop, ← List.map_take]⟩
/-- the pen is made -/
def spPen (K : PySem.W.Frag) : Sp := fun vs H Q _ => ∃ (G : Hp) (a : Addr) (ns : List Int), vs = [.ref a] ∧ Gh G H ∧ SqL K G a (ns.map V.int) ∧ ns.length ≤ 63 ∧
  ∀ (p c : Addr) (G' H' : Hp), Same H H' → Gh G' H' → Same G G' → (∀ a, H a ≠ none → G' a = G a) → G' p = none → H p = none → Cells c G' → PenAt p c 0 H' → Q (.ref p) H'
theorem wd_grow {e : En} {G H G' H' : Hp} {M : List Addr} {p : Addr} {o : HO} (w : Wd e G H M) (s1 : Same H H') (s2 : Gh G' H') (s3 : Same G G') (fr : ∀ a, H a ≠ none → G' a = G a) (gp : G' p = none) (hp : H p = none) (ho : H' p = some o)
    (no : plainB o = true := by rfl) : Wd e G' H' (p :: M) := by
  have w1 := wd_same w s1
  refine ⟨s2.1, fun a ha => ?_, List.nodup_cons.mpr ⟨fun z => w.nm hp z rfl, w.nd⟩, w1.dom, fun a o h => s3 _ _ (w.gr _ _ h), fun a ha => by rw [fr a (w.dom a ha)]; exact w.fr a ha, w1.kp, s2.2, fun a ha u z => ?_, w1.tb⟩
  · rcases List.mem_cons.mp ha with x | ha
    · subst x
      exact ⟨gp, ⟨o, ho⟩, .inl (w.n0 hp)⟩
    · obtain ⟨h1, ⟨o, h2⟩, h3⟩ := w.mu a ha
      obtain ⟨_, h4, _⟩ := w1.mu a ha
      exact ⟨by rw [fr a (some_ne h2)]; exact h1, h4, h3⟩
  · rcases List.mem_cons.mp ha with x | ha
    · rw [x, ho] at z
      rw [← Option.some.inj z]
      exact no
    · exact w1.mt a ha u z
theorem u_pen {K : PySem.W.Frag} {e : En} {G H : Hp} {M : List Addr} {a : Addr} {ns : List Int} {Q : VK} {E : XK} (w : Wd e G H M) (h : SqL K G a (ns.map V.int)) (hl : ns.length ≤ 63)
    (k : ∀ (p c : Addr) (G' H' : Hp), Wd e G' H' (p :: M) → Same G G' → Same H H' → Cells c G' → PenAt p c 0 H' → Q (.ref p) H') : spPen K [.ref a] H Q E :=
  ⟨G, a, ns, rfl, w.gh, h, hl, fun p c G' H' s1 s2 s3 fr gp hp hc P => by
    obtain ⟨_, _, h1, _⟩ := id P
    exact k p c G' H' (wd_grow w s1 s2 s3 fr gp hp h1) s3 s1 hc P⟩
/-- what can be picked from -/
def IsSq (K : PySem.W.Frag) (G : Hp) (s : V) (xs : List V) : Prop := (∃ l, s = .ref l ∧ (SqL K G l xs ∨ SqT K G l xs)) ∨ ∃ z : Str, s = .str z ∧ z.length ≤ 1000 ∧ xs = z.cps.toList.map fun c => V.str ⟨#[c]⟩
def spPick (K : PySem.W.Frag) : Sp := fun vs H Q _ => ∃ (G : Hp) (p c : Addr) (n : Nat) (s : V) (xs : List V), vs = [.ref p, s] ∧ Gh G H ∧ G p = none ∧ Cells c G ∧ PenAt p c n H ∧ n ≤ 1048576 ∧ IsSq K G s xs ∧ xs ≠ [] ∧ xs.length ≤ 1000000 ∧
  RetP p c (n + 1) G H (fun v _ => v ∈ xs) Q
theorem u_pick {K : PySem.W.Frag} {e : En} {G H : Hp} {M : List Addr} {p c : Addr} {n : Nat} {s : V} {xs : List V} {Q : VK} {E : XK} (w : Wd e G H M) (hm : p ∈ M) (hc : Cells c G) (P : PenAt p c n H) (hn : n ≤ 1048576) (hs : IsSq K G s xs) (h0 : xs ≠ []) (hb : xs.length ≤ 1000000)
    (k : ∀ (v : V) (G' H' : Hp), Wd e G' H' M → Same G G' → But p H H' → PenAt p c (n + 1) H' → v ∈ xs → Q v H') : spPick K [.ref p, s] H Q E :=
  ⟨G, p, c, n, s, xs, rfl, w.gh, (w.mu p hm).1, hc, P, hn, hs, h0, hb, retP_use w hm fun v G' H' w' s b P' h => k v G' H' w' s b P' h⟩
theorem same_ty {K : PySem.W.Frag} {H H' : Hp} {x : V} {t : Value} (s : Same H H') (h : TyX K H x t) : TyX K H' x t := by
  cases h with
  | base b =>
    cases b with
    | non => exact .base .non
    | bl y => exact .base (.bl y)
    | int i => exact .base (.int i)
    | str y => exact .base (.str y)
    | flt y => exact .base (.flt y)
    | lst e => exact .base (.lst (s _ _ e))
    | frz e => exact .base (.frz (s _ _ e))
    | tup e => exact .base (.tup (s _ _ e))
    | dK e => exact .base (.dK (s _ _ e))
    | dT e => exact .base (.dT (s _ _ e))
    | ins e cl ha hn htk hm => exact .base (.ins (s _ _ e) cl ha hn htk hm)
  | byt y => exact .byt y
  | set e => exact .set (s _ _ e)
  | kList e c => exact .kList e c
  | kTuple e c => exact .kTuple e c
  | kDict e c => exact .kDict e c
  | fTuple e => exact .fTuple (s _ _ e)
  | fDict e => exact .fDict (s _ _ e)
theorem r_isi {K : PySem.W.Frag} {H : Hp} {x : V} {n : String} {t : Value} {b : Bool} {Qv : VK} (h : TyX K H x t) (e : PySem.W.kitOne K t (.type n) = some b) (q : Qv (.bl b) H) : rIsi K [x, .ty n] H Qv := ⟨x, .ty n, t, .type n, b, rfl, .ty n, h, e, q⟩
theorem r_isiC {K : PySem.W.Frag} {H : Hp} {x : V} {C : Addr} {t : Value} {b : Bool} {Qv : VK} (h : TyX K H x t) (e : PySem.W.kitOne K t (.ref C) = some b) (q : Qv (.bl b) H) : rIsi K [x, .ref C] H Qv := ⟨x, .ref C, t, .ref C, b, rfl, .own C, h, e, q⟩
end Q
namespace Q
open PySem PySem.Spec PyProof.Rows L2
abbrev FnP (K : PySem.W.Frag) (x qual : Str) (st : Stmt) (dvs : List V) (f : Addr) (fd : FuncData) : Prop := FunD K x qual (defArgs st) (defBody st) (defScope st) dvs [] f fd
structure Df (P : Program) (w : World) (K : PySem.W.Frag) (mg : Str → Option Value) (base : Heap) (CX : CXT) (k : Nat) (x : Str) (dvs : List V) (sp : Sp) : Prop where
  ex : ∃ (f : Addr) (fd : FuncData) (ps : List Str) (ds : List Value), mg x = some (.ref f) ∧ PySem.W.keepIn K (.ref f) = true ∧ Binds K fd ps ds ∧ Vals dvs ds ∧ FnOk P w K mg base CX k f fd ps sp
section
variable {X : Cx} {CX : CXT} {k j : Nat} {sp : Sp} {dvs : List V} {E : XK} {x : Str} {e : Expr} {es : List Expr} {t : TA} {pos p : Pos}
theorem pe_callD (D : Df X.prog X.w X.K X.mg X.base CX k x dvs sp) (hr : Room j X.A) (hx : Passes CX X E) (ha : PA X (e :: es) t) (hj : k ≤ j := by decide) (hg : Gl X x := by rfl)
    (hdb : (x == ("__debug__" : Str)) = false := by decide) (he : starEach (e :: es) X.env = (false, eval e X.env) :: starEach es X.env := by rfl) (hpl : (backTo pos (starEach es X.env)).any (·.1) = false := by rfl) :
    PE X (.Call (.Name x p) (e :: es) [] pos) (tCall sp dvs E t) := by
  obtain ⟨f, fd, ps, ds, h1, h2, h3, h4, h5⟩ := D.ex
  exact pe_call h5 (hr.mono hj) hg h1 h2 h3 h4 hx ha hdb he hpl
theorem pe_callD0 (D : Df X.prog X.w X.K X.mg X.base CX k x dvs sp) (hr : Room j X.A) (hx : Passes CX X E) (hj : k ≤ j := by decide) (hg : Gl X x := by rfl)
    (hdb : (x == ("__debug__" : Str)) = false := by decide) : PE X (.Call (.Name x p) [] [] pos) (tCall sp dvs E tNil) := by
  obtain ⟨f, fd, ps, ds, h1, h2, h3, h4, h5⟩ := D.ex
  exact pe_call0 h5 (hr.mono hj) hg h1 h2 h3 h4 hx hdb
end
section
variable {P : Program} {w : World} {K : PySem.W.Frag} {mg : Str → Option Value} {base : Heap} {x qual : Str} {st : Stmt} {f : Addr} {fd : FuncData} {N ps : List Str} {k : Nat} {sp : Sp} {dvs : List V}
/-- a def from which nothing is raised -/
theorem fnP_ok (F : FnP K x qual st dvs f fd) (S : FnScope N ps (defScope st)) (len : ∀ vs H Q E, sp vs H Q E → vs.length = ps.length)
    (body : ∀ (cdv : Value) (A : Around) (outer : List Env) (s : Shared) (H : Hp) (vs : List V) (Q : VK) (E : XK), Room k (A.deeper (envOfC qual (defScope st) s.heap.objs.size f cdv)) → sp vs H Q E →
      ∃ t, PSs (cxOf CX0 P w K mg base N qual (defScope st) f cdv A outer s H E).nox (defBody st) t ∧ t { nx := fun _ H' => Q .non H', rt := Q } (start N vs) H) :
    FnOk P w K mg base CX0 (k + 1) f fd ps sp := FunD.ok F S len fun cdv A outer s H vs Q E hr h => by
  obtain ⟨t, h1, q⟩ := body cdv A outer s H vs Q E hr h
  exact ⟨t, h1.nox, q⟩
theorem df_of {CX : CXT} (F : FnP K x qual st [] f fd) (hm : mg x = some (.ref f)) (G : FnOk P w K mg base CX k f fd ps sp)
    (b : ∀ (kV doc pm : Value) (an : Option Addr) (cdv ct : Value) (us : List Value), us.length = ps.length → bindArgs (PySem.W.fnOf x qual (defArgs st) (defBody st) (defScope st) .none kV doc pm an cdv ct) ⟨us, []⟩ = pure (ps.zip us)) :
    Df P w K mg base CX k x [] sp := ⟨f, fd, ps, [], hm, F.kp, F.bindsN b, .nil, G⟩
end
end Q
namespace Q
open PySem PySem.Spec PyProof.Rows L2
def ForGo (J : It) (g : TG) (tb : TS) (D : Ends) (σ : L2.St) (H : Hp) : Prop := ∃ W : Nat → Nat → L2.St → Hp → Prop, (∃ m, W 0 m σ H) ∧ ∀ i m σ H, W i m σ H →
  (J.stop i H ∧ D.nx σ H) ∨ (J.go i H ∧ ∃ N : L2.St → Hp → Prop, (∀ σ' H', N σ' H' → ∃ m', m' < m ∧ W (i + 1) m' σ' H') ∧ ∀ x H', J.yld i H x H' → g x σ H' fun σ2 H2 => tb { D with nx := N, ct := N, bk := D.nx } σ2 H2)
theorem r_for {wi : TI} {g : TG} {tb : TS} {D : Ends} {σ : L2.St} {H : Hp} (q : wi σ H fun J H1 => ForGo J g tb D σ H1) : tFor wi g tb D σ H := q
theorem for_go {J : It} {n : Nat} {G : Hp → Prop} {Y : Nat → Hp → V → Hp → Prop} {g : TG} {tb : TS} {D : Ends} {σ : L2.St} {H : Hp} (w : Walk J n G Y) (Pv : Nat → L2.St → Hp → Prop) (h0 : Pv 0 σ H) (hG : ∀ i σ H, i ≤ n → Pv i σ H → G H)
    (hs : ∀ i x σ H H', i < n → Pv i σ H → Y i H x H' → g x σ H' fun σ2 H2 => tb { D with nx := Pv (i + 1), ct := Pv (i + 1), bk := D.nx } σ2 H2) (hd : ∀ σ H, Pv n σ H → D.nx σ H) : ForGo J g tb D σ H := for_it w Pv h0 hG hs hd
def LcGo (J : It) (g : TG) (tt : TT) (te : TE) (vs : List Nat) (σ : L2.St) (Q : VK) (H1 : Hp) : Prop := ∀ D, H1 D = none → ∃ W : Nat → Nat → Hp → Prop, (∃ m, W 0 m (upd H1 D (.lst []))) ∧ ∀ i m H, W i m H →
  (J.stop i H ∧ Q (.ref D) H) ∨ (J.go i H ∧ ∃ Nx : Hp → Prop, (∀ H', Nx H' → ∃ m', m' < m ∧ W (i + 1) m' H') ∧ ∀ x H', J.yld i H x H' → g x (wipe σ vs) H' fun σ2 H2 => wipe σ2 vs = wipe σ vs ∧ tt σ2 H2 fun b H3 =>
    if b = true then te σ2 H3 fun y H4 => ∃ acc, H4 D = some (.lst acc) ∧ acc.length < sizeLine ∧ Nx (upd H4 D (.lst (acc ++ [y]))) else Nx H3)
theorem r_lc {wi : TI} {g : TG} {tt : TT} {te : TE} {vs : List Nat} {σ : L2.St} {H : Hp} {Q : VK} (q : wi σ H fun J H1 => LcGo J g tt te vs σ Q H1) : tLc wi g tt te vs σ H Q := q
/-- a comprehension on its way: D the new list's place, acc what it holds, Gi the ghost -/
def LcP (e : En) (G : Hp) (M : List Addr) (R : Nat → List V → Hp → Hp → Prop) (Dd : Addr) (i : Nat) (H : Hp) : Prop := ∃ acc Gi, Wd e Gi H (Dd :: M) ∧ Same G Gi ∧ H Dd = some (.lst acc) ∧ acc.length ≤ i ∧ R i acc Gi H
def LcAdd (Dd : Addr) (P : Hp → Prop) : VK := fun y H4 => ∃ acc, H4 Dd = some (.lst acc) ∧ acc.length < sizeLine ∧ P (upd H4 Dd (.lst (acc ++ [y])))
def LcT (Dd : Addr) (P : Hp → Prop) (tt : TT) (te : TE) (vs : List Nat) (σ : L2.St) : L2.St → Hp → Prop := fun σ2 H2 => wipe σ2 vs = wipe σ vs ∧ tt σ2 H2 fun b H3 => if b = true then te σ2 H3 (LcAdd Dd P) else P H3
theorem r_lcT {Dd : Addr} {P : Hp → Prop} {tt : TT} {te : TE} {vs : List Nat} {σ σ2 : L2.St} {H : Hp} (h : wipe σ2 vs = wipe σ vs) (q : tt σ2 H fun b H3 => if b = true then te σ2 H3 (LcAdd Dd P) else P H3) : LcT Dd P tt te vs σ σ2 H := ⟨h, q⟩
theorem r_yes {σ : L2.St} {H : Hp} {Q : Bool → Hp → Prop} (q : Q true H) : tYes σ H Q := q
theorem r_lcAdd {e : En} {G Gy H4 : Hp} {M : List Addr} {R : Nat → List V → Hp → Hp → Prop} {Dd : Addr} {i : Nat} {acc : List V} {y : V} (w : Wd e Gy H4 (Dd :: M)) (s : Same G Gy) (h : H4 Dd = some (.lst acc)) (hl : acc.length ≤ i) (hi : i ≤ 1000000)
    (k : ∀ H5, Wd e Gy H5 (Dd :: M) → But Dd H4 H5 → R (i + 1) (acc ++ [y]) Gy H5) : LcAdd Dd (LcP e G M R Dd (i + 1)) y H4 := by
  have w5 := wd_mut (o := .lst (acc ++ [y])) w List.mem_cons_self
  refine ⟨acc, h, Nat.lt_of_le_of_lt (Nat.le_trans hl hi) (by decide), _, Gy, w5, s, upd_same, ?_, k _ w5 but_upd⟩
  rw [List.length_append]
  exact Nat.add_le_add_right hl 1
theorem lc_go {e : En} {G H1 : Hp} {M : List Addr} {J : It} {n : Nat} {Gd : Hp → Prop} {Y : Nat → Hp → V → Hp → Prop} {g : TG} {tt : TT} {te : TE} {vs : List Nat} {σ : L2.St} {Q : VK} (w : Wd e G H1 M) (hw : Walk J n Gd Y) (R : Nat → List V → Hp → Hp → Prop)
    (h0 : ∀ (Dd : Addr) (H : Hp), Wd e G H (Dd :: M) → Same H1 H → (∀ m ∈ M, Dd ≠ m) → R 0 [] G H)
    (hG : ∀ i acc Gi H, Wd e Gi H M → Same G Gi → R i acc Gi H → Gd H)
    (hs : ∀ (Dd : Addr) i acc Gi H x H', i < n → acc.length ≤ i → Wd e Gi H (Dd :: M) → Same G Gi → H Dd = some (.lst acc) → (∀ m ∈ M, Dd ≠ m) → R i acc Gi H → Y i H x H' → g x (wipe σ vs) H' (LcT Dd (LcP e G M R Dd (i + 1)) tt te vs σ))
    (hd : ∀ (p : Addr) acc Gi Gp H, acc.length ≤ n → Wd e Gp H M → Same G Gp → Same Gi Gp → Gp p = some (.lst acc) → R n acc Gi H → Q (.ref p) H) : LcGo J g tt te vs σ Q H1 := by
  intro Dd hD
  have w1 := wd_layM (o := .lst []) w hD
  have nm : ∀ m ∈ M, Dd ≠ m := fun m hm => w.nm hD hm
  refine lc_it hw (LcP e G M R Dd) ⟨[], G, w1, Same.refl _, upd_same, Nat.le_refl _, h0 Dd _ w1 (same_upd hD) nm⟩ (fun i H _ ⟨acc, Gi, w2, s2, _, _, r⟩ => hG i acc Gi H (wd_drop w2 (List.sublist_cons_self _ _)) s2 r) (fun i x H H' hi ⟨acc, Gi, w2, s2, h2, l2, r⟩ y => hs Dd i acc Gi H x H' hi l2 w2 s2 h2 nm r y) fun H ⟨acc, Gi, w2, s2, h2, l2, r⟩ => ?_
  obtain ⟨w3, s3⟩ := wd_freeze w2 h2 (w.n0 hD)
  exact hd Dd acc Gi _ H l2 w3 (s2.trans s3) s3 upd_same r
theorem r_iList {K : PySem.W.Frag} {tl : TE} {σ : L2.St} {H : Hp} {R : It → Hp → Prop} (q : tl σ H fun x H1 => ∃ a, x = .ref a ∧ (∃ xs, SqL K H1 a xs) ∧ R (Itl K a) H1) : iList K tl σ H R := q
theorem r_iTup {K : PySem.W.Frag} {tl : TE} {σ : L2.St} {H : Hp} {R : It → Hp → Prop} (q : tl σ H fun x H1 => ∃ a, x = .ref a ∧ (∃ xs, SqT K H1 a xs) ∧ R (Itt K a) H1) : iTup K tl σ H R := q
theorem r_iListR {K : PySem.W.Frag} {H : Hp} {R : Addr → Prop} {a : Addr} {xs : List V} (h : SqL K H a xs) (q : R a) : ∃ b, V.ref a = .ref b ∧ (∃ xs, SqL K H b xs) ∧ R b := ⟨a, rfl, ⟨xs, h⟩, q⟩
theorem r_iTupR {K : PySem.W.Frag} {H : Hp} {R : Addr → Prop} {a : Addr} {xs : List V} (h : SqT K H a xs) (q : R a) : ∃ b, V.ref a = .ref b ∧ (∃ xs, SqT K H b xs) ∧ R b := ⟨a, rfl, ⟨xs, h⟩, q⟩
theorem r_iStr {te : TE} {σ : L2.St} {H : Hp} {R : It → Hp → Prop} (q : te σ H fun v H1 => ∃ x, v = .str x ∧ R (Its x) H1) : iStr te σ H R := q
theorem r_exs {P : Str → Prop} {a : Str} (q : P a) : ∃ x, V.str a = .str x ∧ P x := ⟨a, rfl, q⟩
theorem r_rng1 {ta : TA} {σ : L2.St} {H : Hp} {R : It → Hp → Prop} (q : ta σ H fun vs H1 => ∃ j : Int, vs = [.int j] ∧ -(2 ^ 62) ≤ j ∧ j < 2 ^ 62 ∧ R (Itr 0 j.toNat) H1) : iRng1 ta σ H R := q
theorem r_rng1R {P : Int → Prop} {j : Int} (h1 : -(2 ^ 62) ≤ j) (h2 : j < 2 ^ 62) (q : P j) : ∃ i : Int, [V.int j] = [.int i] ∧ -(2 ^ 62) ≤ i ∧ i < 2 ^ 62 ∧ P i := ⟨j, rfl, h1, h2, q⟩
theorem r_rng2 {ta : TA} {σ : L2.St} {H : Hp} {R : It → Hp → Prop} (q : ta σ H fun vs H1 => ∃ i j : Int, vs = [.int i, .int j] ∧ (-(2 ^ 62) ≤ i ∧ i < 2 ^ 62 ∧ -(2 ^ 62) ≤ j ∧ j < 2 ^ 62) ∧ R (Itr i (j - i).toNat) H1) : iRng2 ta σ H R := q
theorem r_rng2R {P : Int → Int → Prop} {i j : Int} (h : -(2 ^ 62) ≤ i ∧ i < 2 ^ 62 ∧ -(2 ^ 62) ≤ j ∧ j < 2 ^ 62) (q : P i j) : ∃ a b : Int, [V.int i, V.int j] = [.int a, .int b] ∧ (-(2 ^ 62) ≤ a ∧ a < 2 ^ 62 ∧ -(2 ^ 62) ≤ b ∧ b < 2 ^ 62) ∧ P a b := ⟨i, j, rfl, h, q⟩
theorem r_iEnum {K : PySem.W.Frag} {ta : TA} {σ : L2.St} {H : Hp} {R : It → Hp → Prop} (q : ta σ H fun vs H1 => ∃ a xs, vs = [.ref a] ∧ SqL K H1 a xs ∧ R (Ite K a) H1) : iEnum K ta σ H R := q
theorem r_iEnumR {K : PySem.W.Frag} {H : Hp} {R : Addr → Prop} {a : Addr} {xs : List V} (h : SqL K H a xs) (q : R a) : ∃ b xs, [V.ref a] = [.ref b] ∧ SqL K H b xs ∧ R b := ⟨a, xs, rfl, h, q⟩
def rInSign : R2 := fun x y H Q => ∃ (c : Nat) (z : Str), x = .str ⟨#[c]⟩ ∧ y = .str z ∧ Q (.bl (decide (c ∈ z.cps.toList))) H
theorem q_inSign {X : Cx} : OpR X (compareOp .In) rInSign := op_in_sign
theorem r_inSign {c : Nat} {z : Str} {H : Hp} {Qv : VK} (q : Qv (.bl (decide (c ∈ z.cps.toList))) H) : rInSign (.str ⟨#[c]⟩) (.str z) H Qv := ⟨c, z, rfl, rfl, q⟩
theorem r_all {K : PySem.W.Frag} {H : Hp} {a : Addr} {bs : List Bool} {Qv : VK} (h : SqL K H a (bs.map V.bl)) (q : Qv (.bl (bs.all id)) H) : rAll K [.ref a] H Qv := ⟨a, bs, rfl, h, q⟩
/-- a name of the module -/
def Gc (mg : Str → Option Value) (x : Str) (v : V) : Prop := ∃ u, mg x = some u ∧ RelV v u
theorem pe_gc {X : Cx} {x : Str} {v : V} {pos : Pos} (h : Gc X.mg x v) (hg : Gl X x := by rfl) (hd : (x == ("__debug__" : Str)) = false := by decide) : PE X (.Name x pos) (tC v) := by
  obtain ⟨u, h1, h2⟩ := h
  exact pe_glob hg h1 h2 hd
/-- the built-ins that the texts ask for -/
structure Bi (mg : Str → Option Value) : Prop where
  int : mg "int" = none
  len : mg "len" = none
  abs : mg "abs" = none
  list : mg "list" = none
  range : mg "range" = none
  repr : mg "repr" = none
  str : mg "str" = none
  isinstance : mg "isinstance" = none
  all : mg "all" = none
  any : mg "any" = none
  bool : mg "bool" = none
  tuple : mg "tuple" = none
  sorted : mg "sorted" = none
  set : mg "set" = none
  dict : mg "dict" = none
  enumerate : mg "enumerate" = none
  zip : mg "zip" = none
  min : mg "min" = none
  max : mg "max" = none
  ValueError : mg "ValueError" = none
def isI : V → Bool
  | .int _ => true
  | _ => false
def isB : V → Bool
  | .bl _ => true
  | _ => false
def isS : V → Bool
  | .str _ => true
  | _ => false
/-- what isinstance says of a value, int, bool and str asked -/
structure Kd (K : PySem.W.Frag) (G : Hp) (x : V) (t : Value) : Prop where
  ty : TyX K G x t
  int : PySem.W.kitOne K t (.type "int") = some (isI x || isB x)
  bool : PySem.W.kitOne K t (.type "bool") = some (isB x)
  str : PySem.W.kitOne K t (.type "str") = some (isS x)
section
variable {K : PySem.W.Frag} {G G' : Hp}
theorem Kd.same {x : V} {t : Value} (h : Kd K G x t) (s : Same G G') : Kd K G' x t := ⟨same_ty s h.ty, h.int, h.bool, h.str⟩
theorem kd_int (i : Int) : Kd K G (.int i) (.type "int") := ⟨.base (.int i), kit_ty (show kitB "int" "int" = some true from by decide +kernel), kit_ty (show kitB "int" "bool" = some false from by decide +kernel), kit_ty (show kitB "int" "str" = some false from by decide +kernel)⟩
theorem kd_bl (b : Bool) : Kd K G (.bl b) (.type "bool") := ⟨.base (.bl b), kit_ty (show kitB "bool" "int" = some true from by decide +kernel), kit_ty (show kitB "bool" "bool" = some true from by decide +kernel), kit_ty (show kitB "bool" "str" = some false from by decide +kernel)⟩
theorem kd_str (z : Str) : Kd K G (.str z) (.type "str") := ⟨.base (.str z), kit_ty (show kitB "str" "int" = some false from by decide +kernel), kit_ty (show kitB "str" "bool" = some false from by decide +kernel), kit_ty (show kitB "str" "str" = some true from by decide +kernel)⟩
theorem kd_non : Kd K G .non (.type "NoneType") := ⟨.base .non, kit_ty (show kitB "NoneType" "int" = some false from by decide +kernel), kit_ty (show kitB "NoneType" "bool" = some false from by decide +kernel), kit_ty (show kitB "NoneType" "str" = some false from by decide +kernel)⟩
theorem kd_ref {a : Addr} {n : String} (h : TyX K G (.ref a) (.type n)) (h1 : kitB n "int" = some false) (h2 : kitB n "bool" = some false) (h3 : kitB n "str" = some false) : Kd K G (.ref a) (.type n) := ⟨h, kit_ty h1, kit_ty h2, kit_ty h3⟩
theorem kd_lst {a : Addr} {xs : List V} (h : G a = some (.lst xs)) : Kd K G (.ref a) (.type "list") := kd_ref (.base (.lst h)) (by decide +kernel) (by decide +kernel) (by decide +kernel)
theorem kd_tup {a : Addr} {xs : List V} (h : G a = some (.tup xs)) : Kd K G (.ref a) (.type "tuple") := kd_ref (.base (.tup h)) (by decide +kernel) (by decide +kernel) (by decide +kernel)
end
theorem r_isi_int_int {K : PySem.W.Frag} {H : Hp} {Qv : VK} {i : Int} (q : Qv (.bl true) H) : rIsi K [(.int i), .ty "int"] H Qv := ⟨(.int i), .ty "int", .type "int", .type "int", true, rfl, .ty "int", .base (.int i), kit_ty (by decide +kernel), q⟩
theorem r_isi_int_bool {K : PySem.W.Frag} {H : Hp} {Qv : VK} {i : Int} (q : Qv (.bl false) H) : rIsi K [(.int i), .ty "bool"] H Qv := ⟨(.int i), .ty "bool", .type "int", .type "bool", false, rfl, .ty "bool", .base (.int i), kit_ty (by decide +kernel), q⟩
theorem r_isi_int_str {K : PySem.W.Frag} {H : Hp} {Qv : VK} {i : Int} (q : Qv (.bl false) H) : rIsi K [(.int i), .ty "str"] H Qv := ⟨(.int i), .ty "str", .type "int", .type "str", false, rfl, .ty "str", .base (.int i), kit_ty (by decide +kernel), q⟩
theorem r_isi_int_list {K : PySem.W.Frag} {H : Hp} {Qv : VK} {i : Int} (q : Qv (.bl false) H) : rIsi K [(.int i), .ty "list"] H Qv := ⟨(.int i), .ty "list", .type "int", .type "list", false, rfl, .ty "list", .base (.int i), kit_ty (by decide +kernel), q⟩
theorem r_isi_int_tuple {K : PySem.W.Frag} {H : Hp} {Qv : VK} {i : Int} (q : Qv (.bl false) H) : rIsi K [(.int i), .ty "tuple"] H Qv := ⟨(.int i), .ty "tuple", .type "int", .type "tuple", false, rfl, .ty "tuple", .base (.int i), kit_ty (by decide +kernel), q⟩
theorem r_isi_int_dict {K : PySem.W.Frag} {H : Hp} {Qv : VK} {i : Int} (q : Qv (.bl false) H) : rIsi K [(.int i), .ty "dict"] H Qv := ⟨(.int i), .ty "dict", .type "int", .type "dict", false, rfl, .ty "dict", .base (.int i), kit_ty (by decide +kernel), q⟩
theorem r_isi_bl_int {K : PySem.W.Frag} {H : Hp} {Qv : VK} {b : Bool} (q : Qv (.bl true) H) : rIsi K [(.bl b), .ty "int"] H Qv := ⟨(.bl b), .ty "int", .type "bool", .type "int", true, rfl, .ty "int", .base (.bl b), kit_ty (by decide +kernel), q⟩
theorem r_isi_bl_bool {K : PySem.W.Frag} {H : Hp} {Qv : VK} {b : Bool} (q : Qv (.bl true) H) : rIsi K [(.bl b), .ty "bool"] H Qv := ⟨(.bl b), .ty "bool", .type "bool", .type "bool", true, rfl, .ty "bool", .base (.bl b), kit_ty (by decide +kernel), q⟩
theorem r_isi_bl_str {K : PySem.W.Frag} {H : Hp} {Qv : VK} {b : Bool} (q : Qv (.bl false) H) : rIsi K [(.bl b), .ty "str"] H Qv := ⟨(.bl b), .ty "str", .type "bool", .type "str", false, rfl, .ty "str", .base (.bl b), kit_ty (by decide +kernel), q⟩
theorem r_isi_bl_list {K : PySem.W.Frag} {H : Hp} {Qv : VK} {b : Bool} (q : Qv (.bl false) H) : rIsi K [(.bl b), .ty "list"] H Qv := ⟨(.bl b), .ty "list", .type "bool", .type "list", false, rfl, .ty "list", .base (.bl b), kit_ty (by decide +kernel), q⟩
theorem r_isi_bl_tuple {K : PySem.W.Frag} {H : Hp} {Qv : VK} {b : Bool} (q : Qv (.bl false) H) : rIsi K [(.bl b), .ty "tuple"] H Qv := ⟨(.bl b), .ty "tuple", .type "bool", .type "tuple", false, rfl, .ty "tuple", .base (.bl b), kit_ty (by decide +kernel), q⟩
theorem r_isi_bl_dict {K : PySem.W.Frag} {H : Hp} {Qv : VK} {b : Bool} (q : Qv (.bl false) H) : rIsi K [(.bl b), .ty "dict"] H Qv := ⟨(.bl b), .ty "dict", .type "bool", .type "dict", false, rfl, .ty "dict", .base (.bl b), kit_ty (by decide +kernel), q⟩
theorem r_isi_str_int {K : PySem.W.Frag} {H : Hp} {Qv : VK} {z : Str} (q : Qv (.bl false) H) : rIsi K [(.str z), .ty "int"] H Qv := ⟨(.str z), .ty "int", .type "str", .type "int", false, rfl, .ty "int", .base (.str z), kit_ty (by decide +kernel), q⟩
theorem r_isi_str_bool {K : PySem.W.Frag} {H : Hp} {Qv : VK} {z : Str} (q : Qv (.bl false) H) : rIsi K [(.str z), .ty "bool"] H Qv := ⟨(.str z), .ty "bool", .type "str", .type "bool", false, rfl, .ty "bool", .base (.str z), kit_ty (by decide +kernel), q⟩
theorem r_isi_str_str {K : PySem.W.Frag} {H : Hp} {Qv : VK} {z : Str} (q : Qv (.bl true) H) : rIsi K [(.str z), .ty "str"] H Qv := ⟨(.str z), .ty "str", .type "str", .type "str", true, rfl, .ty "str", .base (.str z), kit_ty (by decide +kernel), q⟩
theorem r_isi_str_list {K : PySem.W.Frag} {H : Hp} {Qv : VK} {z : Str} (q : Qv (.bl false) H) : rIsi K [(.str z), .ty "list"] H Qv := ⟨(.str z), .ty "list", .type "str", .type "list", false, rfl, .ty "list", .base (.str z), kit_ty (by decide +kernel), q⟩
theorem r_isi_str_tuple {K : PySem.W.Frag} {H : Hp} {Qv : VK} {z : Str} (q : Qv (.bl false) H) : rIsi K [(.str z), .ty "tuple"] H Qv := ⟨(.str z), .ty "tuple", .type "str", .type "tuple", false, rfl, .ty "tuple", .base (.str z), kit_ty (by decide +kernel), q⟩
theorem r_isi_str_dict {K : PySem.W.Frag} {H : Hp} {Qv : VK} {z : Str} (q : Qv (.bl false) H) : rIsi K [(.str z), .ty "dict"] H Qv := ⟨(.str z), .ty "dict", .type "str", .type "dict", false, rfl, .ty "dict", .base (.str z), kit_ty (by decide +kernel), q⟩
theorem r_isi_non_int {K : PySem.W.Frag} {H : Hp} {Qv : VK}  (q : Qv (.bl false) H) : rIsi K [.non, .ty "int"] H Qv := ⟨.non, .ty "int", .type "NoneType", .type "int", false, rfl, .ty "int", .base .non, kit_ty (by decide +kernel), q⟩
theorem r_isi_non_bool {K : PySem.W.Frag} {H : Hp} {Qv : VK}  (q : Qv (.bl false) H) : rIsi K [.non, .ty "bool"] H Qv := ⟨.non, .ty "bool", .type "NoneType", .type "bool", false, rfl, .ty "bool", .base .non, kit_ty (by decide +kernel), q⟩
theorem r_isi_non_str {K : PySem.W.Frag} {H : Hp} {Qv : VK}  (q : Qv (.bl false) H) : rIsi K [.non, .ty "str"] H Qv := ⟨.non, .ty "str", .type "NoneType", .type "str", false, rfl, .ty "str", .base .non, kit_ty (by decide +kernel), q⟩
theorem r_isi_non_list {K : PySem.W.Frag} {H : Hp} {Qv : VK}  (q : Qv (.bl false) H) : rIsi K [.non, .ty "list"] H Qv := ⟨.non, .ty "list", .type "NoneType", .type "list", false, rfl, .ty "list", .base .non, kit_ty (by decide +kernel), q⟩
theorem r_isi_non_tuple {K : PySem.W.Frag} {H : Hp} {Qv : VK}  (q : Qv (.bl false) H) : rIsi K [.non, .ty "tuple"] H Qv := ⟨.non, .ty "tuple", .type "NoneType", .type "tuple", false, rfl, .ty "tuple", .base .non, kit_ty (by decide +kernel), q⟩
theorem r_isi_non_dict {K : PySem.W.Frag} {H : Hp} {Qv : VK}  (q : Qv (.bl false) H) : rIsi K [.non, .ty "dict"] H Qv := ⟨.non, .ty "dict", .type "NoneType", .type "dict", false, rfl, .ty "dict", .base .non, kit_ty (by decide +kernel), q⟩
theorem kt_list_int {K : PySem.W.Frag} : PySem.W.kitOne K (.type "list") (.type "int") = some false := kit_ty (by decide +kernel)
theorem kt_list_bool {K : PySem.W.Frag} : PySem.W.kitOne K (.type "list") (.type "bool") = some false := kit_ty (by decide +kernel)
theorem kt_list_str {K : PySem.W.Frag} : PySem.W.kitOne K (.type "list") (.type "str") = some false := kit_ty (by decide +kernel)
theorem kt_list_list {K : PySem.W.Frag} : PySem.W.kitOne K (.type "list") (.type "list") = some true := kit_ty (by decide +kernel)
theorem kt_list_tuple {K : PySem.W.Frag} : PySem.W.kitOne K (.type "list") (.type "tuple") = some false := kit_ty (by decide +kernel)
theorem kt_list_dict {K : PySem.W.Frag} : PySem.W.kitOne K (.type "list") (.type "dict") = some false := kit_ty (by decide +kernel)
theorem kt_tuple_int {K : PySem.W.Frag} : PySem.W.kitOne K (.type "tuple") (.type "int") = some false := kit_ty (by decide +kernel)
theorem kt_tuple_bool {K : PySem.W.Frag} : PySem.W.kitOne K (.type "tuple") (.type "bool") = some false := kit_ty (by decide +kernel)
theorem kt_tuple_str {K : PySem.W.Frag} : PySem.W.kitOne K (.type "tuple") (.type "str") = some false := kit_ty (by decide +kernel)
theorem kt_tuple_list {K : PySem.W.Frag} : PySem.W.kitOne K (.type "tuple") (.type "list") = some false := kit_ty (by decide +kernel)
theorem kt_tuple_tuple {K : PySem.W.Frag} : PySem.W.kitOne K (.type "tuple") (.type "tuple") = some true := kit_ty (by decide +kernel)
theorem kt_tuple_dict {K : PySem.W.Frag} : PySem.W.kitOne K (.type "tuple") (.type "dict") = some false := kit_ty (by decide +kernel)
theorem kt_dict_int {K : PySem.W.Frag} : PySem.W.kitOne K (.type "dict") (.type "int") = some false := kit_ty (by decide +kernel)
theorem kt_dict_bool {K : PySem.W.Frag} : PySem.W.kitOne K (.type "dict") (.type "bool") = some false := kit_ty (by decide +kernel)
theorem kt_dict_str {K : PySem.W.Frag} : PySem.W.kitOne K (.type "dict") (.type "str") = some false := kit_ty (by decide +kernel)
theorem kt_dict_list {K : PySem.W.Frag} : PySem.W.kitOne K (.type "dict") (.type "list") = some false := kit_ty (by decide +kernel)
theorem kt_dict_tuple {K : PySem.W.Frag} : PySem.W.kitOne K (.type "dict") (.type "tuple") = some false := kit_ty (by decide +kernel)
theorem kt_dict_dict {K : PySem.W.Frag} : PySem.W.kitOne K (.type "dict") (.type "dict") = some true := kit_ty (by decide +kernel)
theorem sz_m {n : Nat} (h : n ≤ 1000000) : n ≤ sizeLine := Nat.le_trans h (by decide)
theorem ite_nt {A B : Prop} (a : A) : if (!false) = true then A else B := by
  rw [if_pos (by decide)]
  exact a
theorem ite_nf {A B : Prop} (b : B) : if (!true) = true then A else B := by
  rw [if_neg (by decide)]
  exact b
theorem ite_d {p : Prop} [Decidable p] {A B : Prop} (h1 : p → A) (h2 : ¬ p → B) : if decide p = true then A else B := ite2 (fun h => h1 (of_decide_eq_true h)) fun h => h2 fun q => h (decide_eq_true q)
theorem ite_nd {p : Prop} [Decidable p] {A B : Prop} (h1 : ¬ p → A) (h2 : p → B) : if (!decide p) = true then A else B := by
  by_cases h : p
  · rw [decide_eq_true h]; exact ite_nf (h2 h)
  · rw [decide_eq_false h]; exact ite_nt (h1 h)
theorem ite_b {b : Bool} {A B : Prop} (h1 : b = true → A) (h2 : b = false → B) : if b = true then A else B := ite2 h1 fun h => h2 (Bool.eq_false_iff.mpr h)
theorem ite_nb {b : Bool} {A B : Prop} (h1 : b = false → A) (h2 : b = true → B) : if (!b) = true then A else B := by
  cases b with
  | true => exact ite_nf (h2 rfl)
  | false => exact ite_nt (h1 rfl)
theorem atI_0 {α : Type} (c : α) (r : List α) : atI (c :: r) 0 = some c := atI_nat (j := 0) rfl
theorem take_snoc {α : Type} {l : List α} {i : Nat} {x : α} (h : l[i]? = some x) : l.take (i + 1) = l.take i ++ [x] := by
  rw [List.take_add_one, h]
  rfl
theorem take_map_snoc {α β : Type} {l : List α} {i : Nat} {x : α} (f : α → β) (h : l[i]? = some x) : (l.take (i + 1)).map f = (l.take i).map f ++ [f x] := by
  rw [take_snoc h, List.map_append]
  rfl
end Q
namespace Q
open PySem PySem.Spec PyProof.Rows L2
abbrev zLetters : Str := "abcdefghijklmnopqrstuvwxyz"
abbrev zFigures : Str := "0123456789"
def resS : List Str := ["begun", "setby", "found", "trusted", "passed", "failed", "agreed", "differed", "served", "backed", "sound", "unsound", "sure", "never", "open", "none", "record", "lot", "menu", "wanted"]
def resV : List V := resS.map V.str
def letB (c : Nat) : Bool := decide (c ∈ zLetters.cps.toList)
def figB (c : Nat) : Bool := decide (c ∈ zFigures.cps.toList)
def headB : List Nat → Bool
  | c :: _ => letB c
  | [] => false
def nmOk (z : Str) : Bool := (decide (1 ≤ z.length) && decide (z.length ≤ 8)) && (!inV (.str z) resV && (headB z.cps.toList && z.cps.toList.all fun c => letB c || figB c))
def nameV : V → Bool
  | .str z => nmOk z
  | _ => false
def momV (x : V) (l : Int) : Bool := match x with
  | .int i => decide (l ≤ i) && decide (i ≤ 1000000000000000000000000000000)
  | _ => false
structure Nm (K : PySem.W.Frag) (mg : Str → Option Value) : Prop where
  RESERVED : ∃ a, Gc mg "RESERVED" (.ref a) ∧ ∀ H, SqT K H a resV
  LETTERS : Gc mg "LETTERS" (.str zLetters)
  FIGURES : Gc mg "FIGURES" (.str zFigures)
  MOST_SIGNS : Gc mg "MOST_SIGNS" (.int 8)
  MOST_MOMENT : Gc mg "MOST_MOMENT" (.int 1000000000000000000000000000000)
def spIsInt (K : PySem.W.Frag) : Sp := fun vs H Q _ => ∃ (G : Hp) (x : V) (t : Value), vs = [x] ∧ Gh G H ∧ Kd K G x t ∧ Ret G H (fun v _ => v = .bl (isI x)) Q
def spMoment (K : PySem.W.Frag) : Sp := fun vs H Q _ => ∃ (G : Hp) (x : V) (t : Value) (l : Int), vs = [x, .int l] ∧ Gh G H ∧ Kd K G x t ∧ Ret G H (fun v _ => v = .bl (momV x l)) Q
def spIsName (K : PySem.W.Frag) : Sp := fun vs H Q _ => ∃ (G : Hp) (x : V) (t : Value), vs = [x] ∧ Gh G H ∧ Kd K G x t ∧ (∀ z, x = .str z → z.length ≤ 1000000) ∧ Ret G H (fun v _ => v = .bl (nameV x)) Q
section
variable {K : PySem.W.Frag} {e : En} {G H : Hp} {M : List Addr} {x : V} {t : Value} {Q : VK} {E : XK}
theorem u_isInt (w : Wd e G H M) (h : Kd K G x t) (k : ∀ G' H', Wd e G' H' M → Same G G' → Same H H' → Q (.bl (isI x)) H') : spIsInt K [x] H Q E :=
  ⟨G, x, t, rfl, w.gh, h, ret_use w fun v G' H' w' s1 s2 p => by subst p; exact k G' H' w' s1 s2⟩
theorem u_moment {l : Int} (w : Wd e G H M) (h : Kd K G x t) (k : ∀ G' H', Wd e G' H' M → Same G G' → Same H H' → Q (.bl (momV x l)) H') : spMoment K [x, .int l] H Q E :=
  ⟨G, x, t, l, rfl, w.gh, h, ret_use w fun v G' H' w' s1 s2 p => by subst p; exact k G' H' w' s1 s2⟩
theorem u_isName (w : Wd e G H M) (h : Kd K G x t) (hz : ∀ z, x = .str z → z.length ≤ 1000000) (k : ∀ G' H', Wd e G' H' M → Same G G' → Same H H' → Q (.bl (nameV x)) H') : spIsName K [x] H Q E :=
  ⟨G, x, t, rfl, w.gh, h, hz, ret_use w fun v G' H' w' s1 s2 p => by subst p; exact k G' H' w' s1 s2⟩
end
end Q
namespace Q
open PySem PySem.Spec PyProof.Rows L2
section
variable {X : Cx} {CX : CXT} {k : Nat} {C f : Addr} {fd : FuncData} {ps : List Str} {sp : Sp} {E : XK}
theorem run_under {pins : List (Addr × Obj)} {σ : L2.St} {H : Hp} {s : Shared} {Q : VK} {us : List Value} {vs : List V} {A' : Around} (F : FnOk X.prog X.w X.K X.mg X.base CX k f fd ps sp) (hr : Room k A')
    (e0 : Env0 X.prog X.w X.K X.mg X.base A' X.stack s H) (hb : Binds X.K fd ps []) (hx : Passes CX X E) (I : Inv X pins σ H s) (r : Vals vs us) (h : sp vs H Q E) :
    wpAny (model X.prog X.w) A' (call (.ref f) us) (EP X pins σ Q) X.xe s := by
  have hl : (us ++ []).length = ps.length := by
    rw [List.append_nil, ← r.length]
    exact F.len _ _ _ _ h
  have hbb := hb s us I.kIn hl
  rw [List.append_nil] at hbb
  refine wpAny_call (codeAny_mono (F.run A' X.stack s H ⟨us, []⟩ us vs Q E hr e0 hbb r h) fun o s' hq => ?_)
  match o, hq with
  | .error e, hq => exact hx pins σ H s e s' I hq
  | .ok (.ret u), hq => exact I.after hq
  | .ok .next, hq => exact hq.elim
  | .ok .brk, hq => exact hq.elim
  | .ok .cont, hq => exact hq.elim
end
/-- o.m(k = v, ..): m keywords -/
def tMethK (C : Addr) (m : Str) (n : Nat) (sp : Sp) (E : XK) (ta : TE) (tk : TA) (gV : List V → List V → List V) : TE := fun σ H Q => ta σ H fun x H1 => ∃ a dx fs, x = .ref a ∧ H1 a = some (.ins C dx fs) ∧ fs.lookup m = none ∧
  tk σ H1 fun zs H2 => zs.length = n ∧ sp (gV [x] zs) H2 Q E
section
variable {X : Cx} {CX : CXT} {k : Nat} {C f : Addr} {fd : FuncData} {ps ks : List Str} {sp : Sp} {E : XK} {o : Expr} {m : Str} {pos apos : Pos} {kws : List Keyword} {ta : TE} {tk : TA} {g : List Value → List Value → List Value} {gV : List V → List V → List V} {pl : Sem Bool}
theorem pe_methK (he : PE X o ta) (c : Cls X.K C) (hm : Meth X.K C m f) (F : FnOk X.prog X.w X.K X.mg X.base CX k f fd ps sp) (hr : Room k X.A) (hb : KBn X.K fd ps 1 ks g gV) (hx : Passes CX X E) (hkw : PK X kws tk)
    (hall : (backToKw pos (keywordEach kws X.env)).all (·.1.isSome) = true := by rfl) (hks : (backToKw pos (keywordEach kws X.env)).filterMap (·.1) = ks := by rfl)
    (hpl : ((backTo pos (starEach [] X.env)).any (·.1) || (backToKw pos (keywordEach kws X.env)).any (·.1.isNone)) = false := by rfl)
    (ht : eval (.Call (.Attribute o m apos) [] kws pos) X.env = (do
      let ov ← eval o X.env
      standAt apos.atName
      let (f, first) ← holding [ov] (getMethod ov m pl)
      callWith pos f first (backTo pos (starEach [] X.env)) (backToKw pos (keywordEach kws X.env))) := by rfl) :
    PE X (.Call (.Attribute o m apos) [] kws pos) (tMethK C m ks.length sp E ta tk gV) := by
  refine ⟨fun pins s σ H Q I h => ?_⟩
  refine PySem.W.methodCall_KW (pl := pl) (thn (he.run pins s σ H _ I h) fun u s1 ⟨x, H1, I1, rx, a, dx, fs, ex, ea, l, q⟩ => ?_) ht
  subst ex
  obtain rfl : u = Value.ref a := rx
  refine getmeth_ok I1 ea c hm l ?_
  refine PySem.W.callWith_KW0 (h₀ := X.base) I1.ok.mod.kin hm.kp hall (thn (hkw.run pos pins s1 σ H1 _ I1 q) fun ws s2 ⟨zs, H2, I2, rz, l2, q2⟩ => ⟨I2.kIn, ?_⟩) hpl
  rw [hks]
  have r1 : Vals [V.ref a] [Value.ref a] := .cons rfl .nil
  have r2 := hb.rel r1 rz
  have e2 : ws.length = ks.length := rz.length.symm.trans l2
  refine wpAny_call (codeAny_mono (F.run X.A X.stack s2 H2 ⟨[.ref a], ks.zip ws⟩ (g [.ref a] ws) _ Q E hr I2.env0 (hb.to _ [.ref a] ws I2.kIn rfl e2) r2 q2) fun o s' hq => ?_)
  match o, hq with
  | .error e, hq => exact hx pins σ H2 s2 e s' I2 hq
  | .ok (.ret u), hq => exact I2.after hq
  | .ok .next, hq => exact hq.elim
  | .ok .brk, hq => exact hq.elim
  | .ok .cont, hq => exact hq.elim
end
end Q
namespace Q
open PySem PySem.Spec PyProof.Rows L2
def FldK (K : PySem.W.Frag) (f : Str) (x : V) (H : Hp) (Q : VK) : Prop := ∃ a C dx fs v, x = .ref a ∧ H a = some (.ins C dx fs) ∧ Cls K C ∧ NoAttr K C f ∧ fs.lookup f = some v ∧ Q v H
def SetK (K : PySem.W.Frag) (f : Str) (y x : V) (H : Hp) (R : Hp → Prop) : Prop := ∃ a C dx fs, x = .ref a ∧ H a = some (.ins C dx fs) ∧ Cls K C ∧ NoAttr K C f ∧ fs.length < 1000 ∧ R (upd H a (.ins C dx (putF f y fs)))
section
variable {K : PySem.W.Frag} {f : Str} {ta tv : TE} {σ : L2.St} {H G : Hp} {Qv : VK} {D : Ends} {a C dx : Addr} {fs : List (Str × V)} {v y : V} {e : En} {M : List Addr}
theorem r_tFld (q : ta σ H fun x H1 => FldK K f x H1 Qv) : tFld K ta f σ H Qv := q
theorem r_fld (h : H a = some (.ins C dx fs)) (c : Cls K C) (n : NoAttr K C f) (l : fs.lookup f = some v) (q : Qv v H) : FldK K f (.ref a) H Qv := ⟨a, C, dx, fs, v, rfl, h, c, n, l, q⟩
theorem r_sFld (q : tv σ H fun y H1 => ta σ H1 fun x H2 => SetK K f y x H2 fun H3 => D.nx σ H3) : sFld K ta tv f D σ H := q
theorem r_setF {R : Hp → Prop} (w : Wd e G H M) (hm : a ∈ M) (h : H a = some (.ins C dx fs)) (c : Cls K C) (n : NoAttr K C f) (l : fs.length < 1000)
    (q : ∀ H', Wd e G H' M → H' a = some (.ins C dx (putF f y fs)) → But a H H' → R H') : SetK K f y (.ref a) H R := ⟨a, C, dx, fs, rfl, h, c, n, l, q _ (wd_mut w hm) upd_same but_upd⟩
/-- a property is read -/
def PropK (C : Addr) (sp : Sp) (dvs : List V) (E : XK) (x : V) (H : Hp) (Q : VK) : Prop := ∃ a dx fs, x = .ref a ∧ H a = some (.ins C dx fs) ∧ sp (.ref a :: dvs) H Q E
theorem r_tProp {sp : Sp} {dvs : List V} {E : XK} (q : ta σ H fun x H1 => PropK C sp dvs E x H1 Qv) : tProp C sp dvs E ta σ H Qv := q
theorem r_prop {sp : Sp} {dvs : List V} {E : XK} (h : H a = some (.ins C dx fs)) (q : sp (.ref a :: dvs) H Qv E) : PropK C sp dvs E (.ref a) H Qv := ⟨a, dx, fs, rfl, h, q⟩
/-- a method is called -/
def MethGo (C : Addr) (m : Str) (x : V) (H : Hp) (R : Addr → Prop) : Prop := ∃ a dx fs, x = .ref a ∧ H a = some (.ins C dx fs) ∧ fs.lookup m = none ∧ R a
theorem r_tMeth {m : Str} {sp : Sp} {dvs : List V} {E : XK} {t : TA} (q : ta σ H fun x H1 => MethGo C m x H1 fun _ => t σ H1 fun vs H2 => sp (x :: (vs ++ dvs)) H2 Qv E) : tMeth C m sp dvs E ta t σ H Qv := by
  have key : ∀ (x : V) (H1 : Hp), MethGo C m x H1 (fun _ => t σ H1 fun vs H2 => sp (x :: (vs ++ dvs)) H2 Qv E) = (∃ a dx fs, x = .ref a ∧ H1 a = some (.ins C dx fs) ∧ fs.lookup m = none ∧ t σ H1 fun vs H2 => sp (x :: (vs ++ dvs)) H2 Qv E) := fun _ _ => rfl
  simp only [key] at q
  exact q
theorem r_meth {m : Str} {R : Addr → Prop} (h : H a = some (.ins C dx fs)) (l : fs.lookup m = none) (q : R a) : MethGo C m (.ref a) H R := ⟨a, dx, fs, rfl, h, l, q⟩
def MethGoK (C : Addr) (m : Str) (x : V) (H : Hp) (R : Prop) : Prop := ∃ a dx fs, x = .ref a ∧ H a = some (.ins C dx fs) ∧ fs.lookup m = none ∧ R
theorem r_tMethK {m : Str} {sp : Sp} {n : Nat} {E : XK} {tk : TA} {gV : List V → List V → List V} (q : ta σ H fun x H1 => MethGoK C m x H1 (tk σ H1 fun zs H2 => zs.length = n ∧ sp (gV [x] zs) H2 Qv E)) : tMethK C m n sp E ta tk gV σ H Qv := q
theorem r_methK {m : Str} {R : Prop} (h : H a = some (.ins C dx fs)) (l : fs.lookup m = none) (q : R) : MethGoK C m (.ref a) H R := ⟨a, dx, fs, rfl, h, l, q⟩
/-- an instance is made -/
def MakeGo (C : Addr) (sp : Sp) (vs : List V) (E : XK) (H : Hp) (Q : VK) : Prop := ∀ x dx, H x = none → H dx = none → dx ≠ x → sp (.ref x :: vs) (upd (upd H dx (.own x)) x (.ins C dx [])) (fun v H2 => v = .non ∧ Q (.ref x) H2) E
theorem r_tMake {sp : Sp} {dvs : List V} {E : XK} {t : TA} (q : t σ H fun vs H1 => MakeGo C sp (vs ++ dvs) E H1 Qv) : tMake C sp dvs E t σ H Qv := q
theorem make_go {sp : Sp} {vs : List V} {E : XK} (w : Wd e G H M)
    (k : ∀ x dx G' H', H x = none → (∀ m ∈ M, x ≠ m) → Same G G' → Same H H' → Wd e G' H' (x :: M) → H' x = some (.ins C dx []) → e.H0 x = none → sp (.ref x :: vs) H' (fun v H2 => v = .non ∧ Qv (.ref x) H2) E) : MakeGo C sp vs E H Qv := by
  intro x dx hx hd ne
  have w1 := wd_lay (o := .own x) w hd
  have hx1 : upd H dx (.own x) x = none := by rw [upd_ne ne.symm]; exact hx
  exact k x dx _ _ hx (fun m hm => w.nm hx hm) (same_upd (w.g hd)) ((same_upd hd).trans (same_upd hx1)) (wd_layM w1 hx1) upd_same (w.n0 hx)
end
theorem dp_map {K : PySem.W.Frag} {H : Hp} {α : Type} (f : α → V) (g : α → PyData) (h : ∀ x, Dp K H (f x) (g x)) : ∀ l : List α, DpAll K H (l.map f) (l.map g)
  | [] => .nil
  | x :: r => .cons (h x) (dp_map f g h r)
theorem r_tBM {K : PySem.W.Frag} {T : String} {r : V → List V → Hp → VK → Prop} {to : TE} {t : TA} {σ : L2.St} {H : Hp} {Qv : VK} (q : to σ H fun x H1 => tyV K T x H1 ∧ t σ H1 fun xs H2 => r x xs H2 Qv) : tBM K T r to t σ H Qv := q
theorem r_appM {e : En} {G H : Hp} {M : List Addr} {l : Addr} {xs : List V} {y : V} {Qv : VK} (w : Wd e G H M) (hm : l ∈ M) (h : H l = some (.lst xs)) (hl : xs.length < sizeLine) (q : ∀ H', Wd e G H' M → H' l = some (.lst (xs ++ [y])) → But l H H' → Qv .non H') :
    rAppend (.ref l) [y] H Qv := ⟨l, xs, y, rfl, rfl, h, hl, q _ (wd_mut w hm) upd_same but_upd⟩
structure SyC (K : PySem.W.Frag) (C : Addr) : Prop where
  c : Cls K C
  n1 : NoAttr K C "tool"
  n2 : NoAttr K C "moment"
  n3 : NoAttr K C "is_sound"
  n4 : NoAttr K C "face"
  ca : PySem.W.findIn K (.ref C) "__class__" = some (some (.builtin "object.__class__"))
  cn : PySem.W.specialIn K (.builtin "object.__class__") "__get__" = some (some (.builtin "getset_descriptor.__get__"))
  ct : PySem.W.takesIn K (.builtin "object.__class__") = some true
  cm : PySem.W.mroIn K C (.type "object") = some true
  me : PySem.W.kitOne K (.ref C) (.ref C) = some true
  non : PySem.W.kitOne K (.type "NoneType") (.ref C) = some false
  int : PySem.W.kitOne K (.type "int") (.ref C) = some false
  bl : PySem.W.kitOne K (.type "bool") (.ref C) = some false
  str : PySem.W.kitOne K (.type "str") (.ref C) = some false
  lst : PySem.W.kitOne K (.type "list") (.ref C) = some false
  tup : PySem.W.kitOne K (.type "tuple") (.ref C) = some false
  dK : PySem.W.kitOne K (.type "dict") (.ref C) = some false
  fme : PySem.W.notFirst K C (.ref C) = true
  fnon : PySem.W.notFirst K C (.type "NoneType") = true
  fint : PySem.W.notFirst K C (.type "int") = true
  fbl : PySem.W.notFirst K C (.type "bool") = true
  fstr : PySem.W.notFirst K C (.type "str") = true
  flst : PySem.W.notFirst K C (.type "list") = true
  ftup : PySem.W.notFirst K C (.type "tuple") = true
  fdK : PySem.W.notFirst K C (.type "dict") = true
def faceD (z : Str) (i : Int) (b : Bool) : PyData := .tuple [.str z, .int i, .bool b]
/-- name and moment as they must be -/
def Right (z : Str) (i : Int) : Prop := nmOk z = true ∧ 0 ≤ i ∧ i ≤ 1000000000000000000000000000000
def SayAt (C : Addr) (G : Hp) (a : Addr) (z : Str) (i : Int) (b : Bool) : Prop := Right z i ∧ ∃ dx fc, G a = some (.ins C dx [("tool", .str z), ("moment", .int i), ("is_sound", .bl b), ("face", .ref fc)]) ∧ G fc = some (.tup [.str z, .int i, .bl b])
theorem SayAt.same {C a : Addr} {G G' : Hp} {z : Str} {i : Int} {b : Bool} (h : SayAt C G a z i b) (s : Same G G') : SayAt C G' a z i b := by
  obtain ⟨r, dx, fc, h1, h2⟩ := h
  exact ⟨r, dx, fc, s _ _ h1, s _ _ h2⟩
theorem nmOk_len {z : Str} (h : nmOk z = true) : z.length ≤ 8 := by
  unfold nmOk at h
  rw [Bool.and_eq_true, Bool.and_eq_true] at h
  exact of_decide_eq_true h.1.2
theorem Right.name {z : Str} {i : Int} (h : Right z i) : nameV (.str z) = true := h.1
theorem Right.mom {z : Str} {i : Int} (h : Right z i) : momV (.int i) 0 = true := by
  show (decide (0 ≤ i) && decide (i ≤ 1000000000000000000000000000000)) = true
  rw [decide_eq_true h.2.1, decide_eq_true h.2.2]
  rfl
theorem Right.len {z : Str} {i : Int} (h : Right z i) : z.length ≤ 8 := nmOk_len h.1
/-- what == of a saying with y answers -/
def EqTo (K : PySem.W.Frag) (C : Addr) (G : Hp) (z : Str) (i : Int) (b : Bool) (y : V) (r : Bool) : Prop := (∃ t, TyX K G y t ∧ PySem.W.kitOne K t (.ref C) = some false ∧ r = false) ∨
  ∃ (c : Addr) (z' : Str) (i' : Int) (b' : Bool), y = .ref c ∧ SayAt C G c z' i' b' ∧ r = PyData.eqv (faceD z i b) (faceD z' i' b')
def sayText (z : Str) (i : Int) (b : Bool) : Str := Str.empty ++ z ++ Str.ofString " " ++ Str.ofString (toString i) ++ Str.ofString " " ++ (if b then Str.ofString "sound" else Str.ofString "unsound")
section
variable {K : PySem.W.Frag} {C a c : Addr} {e : En} {G H : Hp} {M : List Addr} {z z' : Str} {i i' : Int} {b b' r : Bool} {y : V} {Q : VK} {E : XK}
theorem SyC.ty (S : SyC K C) (h : SayAt C G a z i b) : TyX K G (.ref a) (.ref C) := by
  obtain ⟨_, dx, fc, h1, _⟩ := h
  exact .base (.ins h1 S.c S.ca S.cn S.ct S.cm)
theorem EqTo.non (S : SyC K C) : EqTo K C G z i b .non false := .inl ⟨_, .base .non, S.non, rfl⟩
theorem EqTo.int (S : SyC K C) {j : Int} : EqTo K C G z i b (.int j) false := .inl ⟨_, .base (.int j), S.int, rfl⟩
theorem EqTo.bl (S : SyC K C) {j : Bool} : EqTo K C G z i b (.bl j) false := .inl ⟨_, .base (.bl j), S.bl, rfl⟩
theorem EqTo.str (S : SyC K C) {j : Str} : EqTo K C G z i b (.str j) false := .inl ⟨_, .base (.str j), S.str, rfl⟩
theorem EqTo.lst (S : SyC K C) {l : Addr} {xs : List V} (h : G l = some (.lst xs)) : EqTo K C G z i b (.ref l) false := .inl ⟨_, .base (.lst h), S.lst, rfl⟩
theorem EqTo.tup (S : SyC K C) {l : Addr} {xs : List V} (h : G l = some (.tup xs)) : EqTo K C G z i b (.ref l) false := .inl ⟨_, .base (.tup h), S.tup, rfl⟩
end
theorem nmOk_str {z : Str} (h : nmOk z = true) : PyData.strOk z = true := by
  unfold nmOk at h
  rw [Bool.and_eq_true, Bool.and_eq_true, Bool.and_eq_true, Bool.and_eq_true] at h
  have h1 := h.2.2.2
  unfold PyData.strOk
  rw [Array.all_eq_true_iff_forall_mem]
  intro c hc
  have h2 := List.all_eq_true.mp h1 c (Array.mem_toList_iff.mpr hc)
  have l1 : ∀ c ∈ zLetters.cps.toList, c < 0x110000 := by decide
  have l2 : ∀ c ∈ zFigures.cps.toList, c < 0x110000 := by decide
  rcases Bool.or_eq_true_iff.mp h2 with h3 | h3
  · exact decide_eq_true (l1 c (of_decide_eq_true h3))
  · exact decide_eq_true (l2 c (of_decide_eq_true h3))
theorem logZ {i : Int} (h0 : 0 ≤ i) (h1 : i ≤ 1000000000000000000000000000000) : i.natAbs.log2 < 1920 := by
  by_cases z : i.natAbs = 0
  · rw [z]; decide
  · refine (Nat.log2_lt z).mpr (Nat.lt_of_le_of_lt (m := 1000000000000000000000000000000) (by omega) ?_)
    exact Nat.lt_of_lt_of_le (m := 2 ^ 100) (by decide) (Nat.pow_le_pow_right (by decide) (by decide))
section
variable {te : TE} {ts : List TE} {acc y : Str} {i : Int} {σ : L2.St} {H : Hp} {Q : Str → Hp → Prop} {Qv : VK}
def FmtK (x : V) (H : Hp) (Q : VK) : Prop := (∃ y : Str, x = .str y ∧ y.length ≤ sizeLine ∧ Q (.str y) H) ∨ ∃ i : Int, x = .int i ∧ i.natAbs.log2 < 1920 ∧ Q (.str (toString i)) H
theorem r_tFmt (q : te σ H fun x H1 => FmtK x H1 Qv) : tFmt te σ H Qv := q
theorem r_fmtS (h : y.length ≤ sizeLine) (q : Qv (.str y) H) : FmtK (.str y) H Qv := .inl ⟨y, rfl, h, q⟩
theorem r_fmtI (h : i.natAbs.log2 < 1920) (q : Qv (.str (toString i)) H) : FmtK (.int i) H Qv := .inr ⟨i, rfl, h, q⟩
theorem r_jnil (q : Q acc H) : tJs [] acc σ H Q := q
def JK (acc : Str) (x : V) (R : Str → Prop) : Prop := ∃ y : Str, x = .str y ∧ (acc ++ y).length ≤ sizeLine ∧ R (acc ++ y)
theorem r_jcons (q : te σ H fun x H1 => JK acc x fun s => tJs ts s σ H1 Q) : tJs (te :: ts) acc σ H Q := q
theorem r_jk {R : Str → Prop} (h : (acc ++ y).length ≤ sizeLine) (q : R (acc ++ y)) : JK acc (.str y) R := ⟨y, rfl, h, q⟩
end
end Q
namespace Q
open PySem PySem.Spec PyProof.Rows L2
section
variable {P : Program} {w : World} {K : PySem.W.Frag} {mg : Str → Option Value} {base : Heap} {CX : CXT} {k : Nat}
theorem kbn_of {x qual : Str} {params : Arguments} {body : List Stmt} {scope : Scope} {kws : List (Str × V)} {f : Addr} {fd : FuncData} {ps : List Str} (F : FunD K x qual params body scope [] kws f fd) (n : Nat) (ks : List Str) (g : {α : Type} → List α → List α → List α)
    (hrel : ∀ {vs zs : List V} {us ws : List Value}, Vals vs us → Vals zs ws → Vals (g vs zs) (g us ws))
    (h : ∀ (kV doc pm : Value) (an : Option Addr) (cdv ct : Value) (us ws : List Value), us.length = n → ws.length = ks.length →
      bindArgs (PySem.W.fnOf x qual params body scope .none kV doc pm an cdv ct) ⟨us, ks.zip ws⟩ = pure (ps.zip (g us ws))) : KBn K fd ps n ks (fun us ws => g us ws) (fun vs zs => g vs zs) := by
  obtain ⟨oc, od, dV, kV, doc, pm, an, cdv, ct, osl, rfl, lk, hcd, hD, hK⟩ := F.ex
  rcases hD with ⟨_, rfl⟩ | ⟨e, _⟩
  · exact ⟨fun s us ws X l1 l2 => .of_eq (h kV doc pm an cdv ct us ws l1 l2), fun r1 r2 => hrel r1 r2⟩
  · exact absurd rfl e
variable (P w K mg base CX k)
structure MkD (x : Str) (C : Addr) (dvs : List V) (sp : Sp) : Prop where
  ex : ∃ (f : Addr) (fd : FuncData) (ps : List Str) (ds : List Value), mg x = some (.ref C) ∧ Mk K C f ∧ Binds K fd ps ds ∧ Vals dvs ds ∧ FnOk P w K mg base CX k f fd ps sp
structure MetD (C : Addr) (m : Str) (dvs : List V) (sp : Sp) : Prop where
  ex : ∃ (f : Addr) (fd : FuncData) (ps : List Str) (ds : List Value), Cls K C ∧ Meth K C m f ∧ Binds K fd ps ds ∧ Vals dvs ds ∧ FnOk P w K mg base CX k f fd ps sp
structure MetK (C : Addr) (m : Str) (ks : List Str) (gV : List V → List V → List V) (sp : Sp) : Prop where
  ex : ∃ (f : Addr) (fd : FuncData) (ps : List Str) (g : List Value → List Value → List Value), Cls K C ∧ Meth K C m f ∧ KBn K fd ps 1 ks g gV ∧ FnOk P w K mg base CX k f fd ps sp
structure PrD (C : Addr) (m : Str) (sp : Sp) : Prop where
  ex : ∃ (p g : Addr) (fd : FuncData) (ps : List Str), Cls K C ∧ PropOf K C m p g ∧ Binds K fd ps [] ∧ FnOk P w K mg base CX k g fd ps sp
/-- a special def: ==, str -/
structure SpD (C : Addr) (m : Str) (sp : Sp) : Prop where
  ex : ∃ (f : Addr) (fd : FuncData) (ps : List Str), PySem.W.findIn K (.ref C) m = some (some (.ref f)) ∧ PySem.W.isFn K (.ref f) = true ∧ Binds K fd ps [] ∧ FnOk P w K mg base CX k f fd ps sp
end
section
variable {X : Cx} {CX : CXT} {k j n : Nat} {C : Addr} {sp : Sp} {dvs : List V} {E : XK} {x m : Str} {o e : Expr} {es : List Expr} {t tk : TA} {ta : TE} {pos p apos : Pos} {pl : Sem Bool} {ks : List Str} {kws : List Keyword} {gV : List V → List V → List V}
theorem pe_makeD (D : MkD X.prog X.w X.K X.mg X.base CX k x C dvs sp) (hr : Room j X.A) (hx : Passes CX X E) (ha : PA X (e :: es) t) (hj : k + 1 ≤ j := by decide) (hg : Gl X x := by rfl)
    (hdb : (x == ("__debug__" : Str)) = false := by decide) (he : starEach (e :: es) X.env = (false, eval e X.env) :: starEach es X.env := by rfl) (hpl : (backTo pos (starEach es X.env)).any (·.1) = false := by rfl) :
    PE X (.Call (.Name x p) (e :: es) [] pos) (tMake C sp dvs E t) := by
  obtain ⟨f, fd, ps, ds, h1, h2, h3, h4, h5⟩ := D.ex
  exact pe_make h2 h5 (hr.mono hj) hg h1 h3 h4 hx ha hdb he hpl
theorem pe_methD (he : PE X o ta) (D : MetD X.prog X.w X.K X.mg X.base CX k C m dvs sp) (hr : Room j X.A) (hx : Passes CX X E) (ha : PA X (e :: es) t) (hj : k ≤ j := by decide)
    (hst : starEach (e :: es) X.env = (false, eval e X.env) :: starEach es X.env := by rfl) (hpl : (backTo pos (starEach es X.env)).any (·.1) = false := by rfl)
    (ht : eval (.Call (.Attribute o m apos) (e :: es) [] pos) X.env = (do
      let ov ← eval o X.env
      standAt apos.atName
      let (f, first) ← holding [ov] (getMethod ov m pl)
      callWith pos f first (backTo pos (starEach (e :: es) X.env)) (backToKw pos (keywordEach [] X.env))) := by rfl) :
    PE X (.Call (.Attribute o m apos) (e :: es) [] pos) (tMeth C m sp dvs E ta t) := by
  obtain ⟨f, fd, ps, ds, h1, h2, h3, h4, h5⟩ := D.ex
  exact pe_meth he h1 h2 h5 (hr.mono hj) h3 h4 hx ha hst hpl ht
theorem pe_methKD (he : PE X o ta) (D : MetK X.prog X.w X.K X.mg X.base CX k C m ks gV sp) (hr : Room j X.A) (hx : Passes CX X E) (hkw : PK X kws tk) (hj : k ≤ j := by decide)
    (hall : (backToKw pos (keywordEach kws X.env)).all (·.1.isSome) = true := by rfl) (hks : (backToKw pos (keywordEach kws X.env)).filterMap (·.1) = ks := by rfl)
    (hpl : ((backTo pos (starEach [] X.env)).any (·.1) || (backToKw pos (keywordEach kws X.env)).any (·.1.isNone)) = false := by rfl)
    (ht : eval (.Call (.Attribute o m apos) [] kws pos) X.env = (do
      let ov ← eval o X.env
      standAt apos.atName
      let (f, first) ← holding [ov] (getMethod ov m pl)
      callWith pos f first (backTo pos (starEach [] X.env)) (backToKw pos (keywordEach kws X.env))) := by rfl) :
    PE X (.Call (.Attribute o m apos) [] kws pos) (tMethK C m ks.length sp E ta tk gV) := by
  obtain ⟨f, fd, ps, g, h1, h2, h3, h5⟩ := D.ex
  exact pe_methK he h1 h2 h5 (hr.mono hj) h3 hx hkw hall hks hpl ht
theorem pe_propD (he : PE X e ta) (D : PrD X.prog X.w X.K X.mg X.base CX k C m sp) (hr : Room j X.A) (hx : Passes CX X.nox E) (hj : k + 1 ≤ j := by decide)
    (hab : attributeBase e m X.env (eval e X.env) = eval e X.env := by rfl) : PE X (.Attribute e m pos) (tProp C sp [] E ta) := by
  obtain ⟨p, g, fd, ps, h1, h2, h3, h5⟩ := D.ex
  exact pe_prop he h1 h2 h5 (hr.mono hj) h3 .nil hx hab
end
theorem u_moment0 {K : PySem.W.Frag} {e : En} {G H : Hp} {M : List Addr} {x : V} {t : Value} {Q : VK} {E : XK} {l : Int} (w : Wd e G H M) (h : Kd K G x t) (k : ∀ G' H', Wd e G' H' M → Same G G' → Same H H' → Q (.bl (momV x l)) H') :
    spMoment K ([x] ++ [.int l]) H Q E := u_moment w h k
theorem r_tyL {K : PySem.W.Frag} {H : Hp} {p : Addr} {xs : List V} {R : Prop} (h : SqL K H p xs) (q : R) : tyV K "list" (.ref p) H ∧ R := ⟨.inl ⟨rfl, xs, h⟩, q⟩
theorem EqTo.same {K : PySem.W.Frag} {C : Addr} {G G' : Hp} {z : Str} {i : Int} {b r : Bool} {y : V} (h : EqTo K C G z i b y r) (s : Same G G') : EqTo K C G' z i b y r := by
  rcases h with ⟨t, h1, h2, h3⟩ | ⟨c, z', i', b', h1, h2, h3⟩
  · exact .inl ⟨t, same_ty s h1, h2, h3⟩
  · exact .inr ⟨c, z', i', b', h1, h2.same s, h3⟩
end Q
namespace Q
open PySem PySem.Spec PyProof.Rows L2
/-- a property's getter -/
def getterOf (K : PySem.W.Frag) (p : Addr) : Addr := match PySem.W.recIn K p "property" with
  | some (.ref g :: _) => g
  | _ => 0
def propB (K : PySem.W.Frag) (C : Addr) (f : Str) : Bool := He.eqO (PySem.W.findIn K (.ref C) f) (some (some (.ref (He.ma K C f)))) && (He.eqO (PySem.W.specialIn K (.ref (He.ma K C f)) "__get__") (some (some (.builtin "property.__get__"))) &&
  (decide (PySem.W.takesIn K (.ref (He.ma K C f)) = some true) && (match PySem.W.recIn K (He.ma K C f) "property" with
    | some (.ref _ :: _) => true
    | _ => false)))
theorem propB_ok {K : PySem.W.Frag} {C : Addr} {f : Str} (h : propB K C f = true) : PropOf K C f (He.ma K C f) (getterOf K (He.ma K C f)) := by
  obtain ⟨h1, h⟩ := He.ba h
  obtain ⟨h2, h⟩ := He.ba h
  obtain ⟨h3, h4⟩ := He.ba h
  refine ⟨He.eqO_ok h1, He.eqO_ok h2, of_decide_eq_true h3, ?_⟩
  unfold getterOf
  split at h4
  · rename_i g rest e
    exact ⟨rest, by rw [e]⟩
  · cases h4
end Q
namespace Q
open PySem PySem.Spec PyProof.Rows L2
/-- at a: an exception of the class cls, its dict d -/
def ExK (cls : Value) (d : Option Addr) (a : Addr) : HO := .ext fun h => ∃ (oe : Obj) (vs : Array Value), h.get? a = some oe ∧ Zc cls d oe ∧ oe.data = .fields vs
theorem exK_nt {cls : Value} {d : Option Addr} {a : Addr} : NoT (ExK cls d a) := fun ps z => by
  have y : HO.ext _ = HO.tbl ps := z
  cases y
section
variable {X : Cx} {pins : List (Addr × Obj)} {σ : L2.St} {H : Hp} {s : Shared} {a : Addr} {oe : Obj} {cls : Value} {d : Option Addr}
theorem exK_at (I : Inv X pins σ H s) (e : H a = some (ExK cls d a)) : ∃ (oe : Obj) (vs : Array Value), s.heap.get? a = some oe ∧ Zc cls d oe ∧ oe.data = .fields vs := by
  have x : ObjOk X.prog X.w H s.heap a (.ext fun h => ∃ (oe : Obj) (vs : Array Value), h.get? a = some oe ∧ Zc cls d oe ∧ oe.data = .fields vs) := I.hok a _ e
  exact x.1
/-- a pinned exception is told from now on -/
theorem track_exc {vs : Array Value} (I : Inv X ((a, oe) :: pins) σ H s) (hz : Zc cls d oe) (hd : oe.data = .fields vs) (far : ∀ o, X.s_0.heap.get? a = some o → X.H_0 a = none → a ∉ X.ex → False) (apart : ∀ p ∈ X.pn ++ pins, p.1 ≠ a) :
    Inv X pins σ (upd H a (ExK cls d a)) s := by
  obtain ⟨here, fresh, offL, _, _⟩ := I.pin (a, oe) (List.mem_append_right _ List.mem_cons_self)
  have told : ∀ {b : Addr} {u : HO}, H b = some u → b ≠ a := fun {b u} z y => by
    rw [y, fresh] at z
    cases z
  have cells : ∀ y c, X.env.cells.lookup y = some c → c ≠ a := fun y c z y2 => by
    obtain ⟨v, o, ho, hv⟩ := I.cell y c z
    rw [y2] at ho
    obtain rfl := Option.some.inj (ho.symm.trans here)
    rw [hd] at hv
    cases hv
  have bs : Un X.fs X.ex X.H_0 (upd H a (ExK cls d a)) X.s_0.heap s.heap := by
    refine ⟨I.base.keep, I.base.slot, fun b o z n nx => ?_, I.base.there, fun b xs z => ?_, fun b o u z => ?_, fun b ps z => ?_⟩
    · by_cases y : b = a
      · rw [y] at z n nx
        exact (far o z n nx).elim
      · rw [upd_ne y]
        exact I.base.free b o z n nx
    · have t := I.base.tups b xs z
      rw [upd_ne (told t)]
      exact t
    · have t := I.base.frzs b o u z
      rw [upd_ne (told t)]
      exact t
    · obtain ⟨more, t⟩ := I.base.tbls b ps z
      refine ⟨more, ?_⟩
      rw [upd_ne (told t)]
      exact t
  refine ⟨I.ok, I.os, I.bare, bs, I.loc, I.cell, ?_, fun y c z => ?_, fun p hp => ?_, fun b u z => ?_, I.len⟩
  · rw [upd_ne offL.symm]
    exact I.free
  · rw [upd_ne (cells y c z)]
    exact I.freeC y c z
  · have hp2 : p ∈ X.pn ++ ((a, oe) :: pins) := by
      rcases List.mem_append.mp hp with q | q
      · exact List.mem_append_left _ q
      · exact List.mem_append_right _ (List.mem_cons_of_mem _ q)
    obtain ⟨q1, q2, q3⟩ := I.pin p hp2
    exact ⟨q1, by rw [upd_ne (apart p hp)]; exact q2, q3⟩
  · by_cases y : b = a
    · rw [y, upd_same] at z
      rw [y, ← Option.some.inj z]
      refine ⟨⟨oe, vs, here, hz, hd⟩, ⟨oe, here⟩, fun h1 h2 q k => ?_⟩
      obtain ⟨o2, v2, r1, r2⟩ := q
      exact ⟨o2, v2, k _ r1, r2⟩
    · rw [upd_ne y] at z
      refine (I.hok b u z).stay (fun c v _ q => q) (fun c q => ?_) fun c xs q => ?_
      · rw [upd_ne (told q)]
        exact q
      · rw [upd_ne (told q)]
        exact q
/-- back from the suite, the exception still pinned -/
theorem suite_pin {pn' : List (Addr × Obj)} (I : Inv (X.suite a ((a, oe) :: (X.pn ++ pins))) pn' σ H s) (ok : X.Ok) : Inv X ((a, oe) :: pins) σ H s := by
  refine ⟨ok, I.os, I.bare, I.base, I.loc, I.cell, I.free, I.freeC, fun p hp => I.pin p (List.mem_append_left _ ?_), I.hok, I.len⟩
  rcases List.mem_append.mp hp with q | q
  · exact List.mem_cons_of_mem _ (List.mem_append_left _ q)
  · rcases List.mem_cons.mp q with r | r
    · rw [r]
      exact List.mem_cons_self
    · exact List.mem_cons_of_mem _ (List.mem_append_right _ r)
end
/-- what a clause that takes every exception of the body wishes of it; behind the suite the exception is told -/
def wKeep (K : PySem.W.Frag) (c : Value) (i m : Nat) (ts : Addr → Value → Option Addr → TS) (D : Ends) : WX := fun cls d σ H => PySem.W.exmOne K cls c = some true ∧ ∀ a, H a = none → σ.length = m →
  ts a cls d { nx := fun τ G => D.nx (τ.set i none) (upd G a (ExK cls d a)), rt := fun v G => D.rt v (upd G a (ExK cls d a)), bk := fun τ G => D.bk (τ.set i none) (upd G a (ExK cls d a)), ct := fun τ G => D.ct (τ.set i none) (upd G a (ExK cls d a)) } (σ.set i (some (.ref a))) H
section
variable {X : Cx} {x n : Str} {c : Value} {i : Nat} {body rest : List Stmt} {first : Stmt} {np tp hp : Pos} {tb : WX → TS} {ts : Addr → Value → Option Addr → TS}
theorem ps_try_keep (hst : X.stack = X.env :: X.outer) (hfr : X.env.frame = some X.env.locals) (hN : X.N.Nodup) (hi : X.N[i]? = some n) (hln : X.env.kindOf n = some .local) (hc : Names X x c)
    (hb : ∀ (W : WX) (pn : List (Addr × Obj)) (xe : Value → Shared → Prop), Takes (X.tr pn xe) W → PassesOwn (model X.prog X.w) X.A X.env xe → PSs (X.tr pn xe) body (tb W))
    (hs : ∀ (a : Addr) (oe : Obj) (cls : Value) (d : Option Addr) (pn : List (Addr × Obj)), Zc cls d oe → (∃ vs, oe.data = .fields vs) → PSs (X.suite a ((a, oe) :: pn)) (first :: rest) (ts a cls d)) :
    PS X (.Try body [.ExceptHandler (some (.Name x np)) (some n) (first :: rest) hp] [] [] tp) (fun D σ H => tb (wKeep X.K c i X.N.length ts D) D σ H) := by
  refine ⟨fun pins s σ H D I0 h0 => ?_⟩
  have hok := I0.ok
  have frames : X.A.frames = some (X.env :: X.outer) := by
    rw [hok.frames, hst]
  let clause : List ExceptHandler := [.ExceptHandler (some (.Name x np)) (some n) (first :: rest) hp]
  let caught : Value → Shared → Prop := fun e t => wpAny (model X.prog X.w) X.A (noteFrame e X.env) (fun _ t2 => wpAny (model X.prog X.w) X.A (setFlight e none)
    (fun _ t3 => wpAny (model X.prog X.w) X.A (handleBy e X.env clause) (SP X pins D) X.xe t3) X.xe t2) X.xe t
  refine wpAny_Try_except ?_
  have catches : Takes (X.tr (X.pn ++ pins) caught) (wKeep X.K c i X.N.length ts D) := by
    rintro u t ⟨a, B, sI, pins1, σ1, H1, cls, d, rfl, J0, ground, up, sky, na, os, ag, takes, suite⟩
    have J : Inv X pins σ1 H1 sI := J0.ofTry hok
    have air : Sky B (X.env :: X.outer) a (Zc cls d) X.env.locals t.heap := by
      rw [← hst]
      exact sky
    show wpAny (model X.prog X.w) X.A (noteFrame (.ref a) X.env) _ _ t
    refine Sky.land Zc.steady frames hfr air fun h3 fl3 up3 => ?_
    have J3 : Inv X pins σ1 H1 { t with heap := h3 } := J.landed ground fl3.1 (up.trans up3) os ag
    obtain ⟨oe3, vs3, at3, z3, d3⟩ := fl3.there
    have offF : a ∉ frs (X.env :: X.outer) := fun hm => by
      obtain ⟨_, o2, e2, nf⟩ := fl3.2.2.1.mem hm
      obtain rfl := Option.some.inj (at3.symm.trans e2)
      exact nf _ d3
    have offL : a ≠ X.env.locals := fun z => by
      refine offF (List.mem_filterMap.mpr ⟨X.env, List.mem_cons_self, ?_⟩)
      rw [hfr, z]
    have offO : a ∉ X.fs := fun hm => by
      obtain ⟨e, he, q⟩ := List.mem_filterMap.mp hm
      exact offF (List.mem_filterMap.mpr ⟨e, List.mem_cons_of_mem _ he, q⟩)
    have offS : a ∉ frs X.stack := by
      rw [hst]
      exact offF
    have gone : ∀ o, sI.heap.get? a = some o → False := fun o z => by
      have y := ground a o z offS
      rw [fl3.2.1] at y
      cases y
    have far : ∀ o, X.s_0.heap.get? a = some o → X.H_0 a = none → a ∉ X.ex → False := fun o z n nx => gone o (J.base.keep a o z n offO nx)
    have apart : ∀ p ∈ X.pn ++ pins, p.1 ≠ a := fun p hp z => by
      have y := (J.pin p hp).1
      rw [z] at y
      exact gone _ y
    have S3 := J3.suite at3 d3 na offL offO
    refine wpAny_handleBy_cons (codeAny_handlers_test ?_) (by intro q; cases q)
    have ty : PySem.W.Looks (model X.prog X.w) h3 (typeOf (.ref a)) cls := fun A Q E s k q => by
      refine wpAny_typeOf_ref (k _ _ at3) ?_
      rw [z3.1]
      exact q
    have match_ := PySem.W.exm_one (M := model X.prog X.w) J3.kIn ty takes
    have named : ∀ {Q E : Value → Shared → Prop}, Q c { t with heap := h3 } → wpAny (model X.prog X.w) (X.A.mark (some (.ref a))) (eval (.Name x np) X.env) Q E { t with heap := h3 } := by
      intro Q E q
      obtain ⟨hg, hdbg, y⟩ := hc
      rcases y with hm | ⟨hm, hv, hnn⟩
      · exact ld_glob (X := X.suite a ((a, oe3) :: (X.pn ++ pins))) S3 hg hm q hdbg
      · exact ld_blt (X := X.suite a ((a, oe3) :: (X.pn ++ pins))) S3 hg hm hv q hnn hdbg
    refine named (match_.here (codeAny_handlers_suite_as ?_))
    refine HandSPX.lands_againZ fl3 fun h4 fl4 up4 => ?_
    have J4 : Inv X pins σ1 H1 { t with heap := h4 } := J.landed ground fl4.1 ((up.trans up3).trans up4) os ag
    obtain ⟨oe4, vs4, at4, z4, d4⟩ := fl4.there
    have S4 := J4.suite at4 d4 na offL offO
    refine store_ok (X := X.suite a ((a, oe4) :: (X.pn ++ pins))) (v := .ref a) S4 hN hi (.inl hln) rfl (fun s5 S5 => ?_) (.inr hln)
    have go := (hs a oe4 cls d (X.pn ++ pins) z4 ⟨_, d4⟩).run [] s5 _ H1 _ S5 (suite a na J.len)
    refine wpAny_mono go (fun f s6 done => ?_) fun _ _ z => z.elim
    have leave : ∀ {τ : L2.St} {G : Hp} {R : Shared → Prop}, Inv (X.suite a ((a, oe4) :: (X.pn ++ pins))) [] τ G s6 → (∀ s7, Inv X pins (τ.set i none) (upd G a (ExK cls d a)) s7 → R s7) →
        wpAny (model X.prog X.w) X.A (do bindName X.env n .none; unbindBehindTheSuite X.env n hp) (fun _ s7 => R s7) X.xe s6 := by
      intro τ G R S6 k
      exact gone_ok (suite_pin S6 hok) hN hi hln fun s7 J7 => k s7 (track_exc J7 z4 d4 far apart)
    match f, done with
    | .next, done =>
      obtain ⟨τ, G, S6, q⟩ := done
      exact leave S6 fun s7 J7 => ⟨_, _, J7, q⟩
    | .brk, done =>
      obtain ⟨τ, G, S6, q⟩ := done
      exact leave S6 fun s7 J7 => ⟨_, _, J7, q⟩
    | .cont, done =>
      obtain ⟨τ, G, S6, q⟩ := done
      exact leave S6 fun s7 J7 => ⟨_, _, J7, q⟩
    | .ret u, done =>
      obtain ⟨v, τ, G, S6, r, q⟩ := done
      exact leave S6 fun s7 J7 => ⟨_, _, _, J7, r, q⟩
  have go := (hb (wKeep X.K c i X.N.length ts D) (X.pn ++ pins) caught catches PassesOwn.looking).run [] s σ H D (I0.toTry _) h0
  refine wpAny_mono go (fun f s1 done => ?_) fun e s1 z => z
  match f, done with
  | .next, done =>
    obtain ⟨τ, G, J1, q⟩ := done
    exact wpAny_execs_nil ⟨τ, G, J1.ofTry hok, q⟩
  | .brk, done =>
    obtain ⟨τ, G, J1, q⟩ := done
    exact ⟨τ, G, J1.ofTry hok, q⟩
  | .cont, done =>
    obtain ⟨τ, G, J1, q⟩ := done
    exact ⟨τ, G, J1.ofTry hok, q⟩
  | .ret u, done =>
    obtain ⟨v, τ, G, J1, r, q⟩ := done
    exact ⟨v, τ, G, J1.ofTry hok, r, q⟩
end
end Q
namespace Q
open PySem PySem.Spec PyProof.Rows L2
/-- e.f of an exception | of an instance -/
def FldX (K : PySem.W.Frag) (f : Str) (x : V) (H : Hp) (Q : VK) : Prop := ∃ (a C dd : Addr) (fs : List (Str × V)) (v : V), x = .ref a ∧ H a = some (ExK (.ref C) (some dd) a) ∧ H dd = some (.xd fs) ∧ XfC K C ∧ PySem.W.findIn K (.ref C) f = some none ∧ fs.lookup f = some v ∧ Q v H
def tFldX (K : PySem.W.Frag) (f : Str) (te : TE) : TE := fun σ H Q => te σ H fun x H1 => FldX K f x H1 Q
theorem pe_xv {X : Cx} {e : Expr} {te : TE} {pos : Pos} {f : Str} (he : PE X e te) (hb : attributeBase e f X.env (eval e X.env) = eval e X.env := by rfl) : PE X (.Attribute e f pos) (tFldX X.K f te) := by
  refine ⟨fun pins s σ H Q I h => ?_⟩
  refine attr_of hb (thn (he.run pins s σ H _ I h) fun u s1 told => ?_)
  obtain ⟨x, H1, I1, rx, a, C, dd, fs, v, ex, ea, ed, T, no, l, q⟩ := told
  subst ex
  obtain rfl : u = Value.ref a := rx
  obtain ⟨oe, vs, here, z, hd⟩ := exK_at I1 ea
  obtain ⟨mA, names, rel⟩ := (show ObjOk X.prog X.w H1 s1.heap dd (.xd fs) from I1.hok dd _ ed)
  obtain ⟨od, ho, looks⟩ := lookIn_ns names
  obtain ⟨u, hu, ru⟩ := RelO.some_of (v := v) (o := mA f) (by rw [← l]; exact rel f)
  have J : PySem.W.InstAt s1.heap a oe C (some od) := by
    refine ⟨here, z.1, ?_, ?_⟩
    · unfold PySem.W.notCls
      rw [hd] <;> rfl
    · rw [z.2]
      exact ho
  refine HandSPX.exc_get I1.kIn J T.ga T.gg T.exC (PySem.W.findObj_own T.hdC no rfl ?_) (handed_of ru) ⟨v, H1, I1.tok _, ru, q⟩
  rw [looks, hu]
section
variable {K : PySem.W.Frag} {f : Str} {te : TE} {σ : L2.St} {H : Hp} {Qv : VK} {a C dd : Addr} {fs : List (Str × V)} {v : V}
theorem r_tFldX (q : te σ H fun x H1 => FldX K f x H1 Qv) : tFldX K f te σ H Qv := q
theorem r_fldX (h : H a = some (ExK (.ref C) (some dd) a)) (hd : H dd = some (.xd fs)) (T : XfC K C) (n : PySem.W.findIn K (.ref C) f = some none) (l : fs.lookup f = some v) (q : Qv v H) : FldX K f (.ref a) H Qv := ⟨a, C, dd, fs, v, rfl, h, hd, T, n, l, q⟩
end
/-- isinstance of a kept exception -/
def rIsK (K : PySem.W.Frag) : List V → Hp → VK → Prop := fun xs H Q => ∃ (a C : Addr) (d : Option Addr) (c : V) (cv : Value) (b : Bool), xs = [.ref a, c] ∧ H a = some (ExK (.ref C) d a) ∧ (∀ dd, d = some dd → ∃ fs, H dd = some (.xd fs)) ∧ (∀ u, RelV c u → u = cv) ∧ ExcC K C ∧ PySem.W.kitOne K (.ref C) cv = some b ∧ Q (.bl b) H
theorem call_isK {X : Cx} : CallR X (.builtin "isinstance") (rIsK X.K) := by
  intro pins s σ H xs us Q I r h
  obtain ⟨a, C, d, c, cv, b, rfl, ea, dd, hcv, T, e, q⟩ := h
  obtain ⟨u1, u2, rfl, r1, r2⟩ := r.two
  cases (show u1 = Value.ref a from r1)
  obtain rfl := hcv _ r2
  obtain ⟨oe, vs, here, z, hd⟩ := exK_at I ea
  have nc : PySem.W.notCls oe = true := by
    unfold PySem.W.notCls
    rw [hd] <;> rfl
  have J : ∃ od, PySem.W.InstAt s.heap a oe C od := by
    cases d with
    | none => exact ⟨none, here, z.1, nc, by rw [z.2]; trivial⟩
    | some d0 =>
      obtain ⟨fs, ed⟩ := dd d0 rfl
      obtain ⟨mA, names, _⟩ := (show ObjOk X.prog X.w H s.heap d0 (.xd fs) from I.hok d0 _ ed)
      obtain ⟨od, ho, _⟩ := lookIn_ns names
      exact ⟨some od, here, z.1, nc, by rw [z.2]; exact ho⟩
  obtain ⟨od, J⟩ := J
  have hcl : (PySem.W.clsIn X.K C).isSome = true := by
    obtain ⟨cd, hc, _⟩ := PySem.W.any_some T.hd
    rw [hc]
    rfl
  exact PySem.W.kia_one (PySem.W.kitx_exc hcl T.hg T.hk T.hs T.ha T.hn T.ht T.hm) I.kIn J e (fun z => nomatch z) fun tk => ⟨.bl b, H, I.kept (t' := tk) fun _ _ z => z, rfl, q⟩
def rIsU (K : PySem.W.Frag) : List V → Hp → VK → Prop := fun xs H Q => rIsi K xs H Q ∨ rIsK K xs H Q
theorem q_isi {X : Cx} : CallR X (.builtin "isinstance") (rIsU X.K) := cr_or call_isi call_isK
section
variable {K : PySem.W.Frag} {H : Hp} {a C D dd : Addr} {fs : List (Str × V)} {b : Bool} {Qv : VK}
theorem r_isuK (h : H a = some (ExK (.ref C) (some dd) a)) (hd : H dd = some (.xd fs)) (T : ExcC K C) (e : PySem.W.kitOne K (.ref C) (.ref D) = some b) (q : Qv (.bl b) H) : rIsU K [.ref a, .ref D] H Qv :=
  .inr ⟨a, C, some dd, .ref D, .ref D, b, rfl, h, fun d0 z => ⟨fs, by rw [← Option.some.inj z]; exact hd⟩, fun _ z => z, T, e, q⟩
theorem r_isuT {n : String} (h : H a = some (ExK (.ref C) (some dd) a)) (hd : H dd = some (.xd fs)) (T : ExcC K C) (e : PySem.W.kitOne K (.ref C) (.type n) = some b) (q : Qv (.bl b) H) : rIsU K [.ref a, .ty n] H Qv :=
  .inr ⟨a, C, some dd, .ty n, .type n, b, rfl, h, fun d0 z => ⟨fs, by rw [← Option.some.inj z]; exact hd⟩, fun _ z => z, T, e, q⟩
end
structure ErD (P : Program) (w : World) (K : PySem.W.Frag) (mg : Str → Option Value) (base : Heap) (x : Str) (C : Addr) (sp : Sp) : Prop where
  ex : ∃ (fI : Addr) (fd : FuncData) (ps : List Str), OexC K C ∧ PySem.W.findIn K (.ref C) "__init__" = some (some (.ref fI)) ∧ PySem.W.typeIn K (.ref fI) = some (.type "function") ∧ mg x = some (.ref C) ∧ Binds K fd ps [] ∧ FnOk P w K mg base CX0 1 fI fd ps sp
def tRaise (C : Addr) (sp : Sp) (ta : TA) (W : WX) : TS := fun _ σ H => tMkO C sp [] ta σ H fun cls d H' => W cls d σ H'
section
variable {X : Cx} {W : WX} {j : Nat} {C : Addr} {sp : Sp} {x : Str} {e : Expr} {es : List Expr} {ta : TA} {p pos pos2 : Pos}
theorem ps_raiseD (hc : X.calm = true) (tk : Takes X W) (D : ErD X.prog X.w X.K X.mg X.base x C sp) (hr : Room j X.A) (ha : PA X (e :: es) ta) (hj : 2 ≤ j := by decide) (hg : Gl X x := by rfl)
    (hdb : (x == ("__debug__" : Str)) = false := by decide) (he : starEach (e :: es) X.env = (false, eval e X.env) :: starEach es X.env := by rfl) (hpl : (backTo pos (starEach es X.env)).any (·.1) = false := by rfl) :
    PS X (.Raise (some (.Call (.Name x p) (e :: es) [] pos)) none pos2) (tRaise C sp ta W) := by
  obtain ⟨fI, fd, ps, h1, h2, h3, h4, h5, h6⟩ := D.ex
  exact ps_raise hc tk (pmk_oex (dvs := []) (ds := []) h1 h2 h3 h6 (hr.mono hj) h5 .nil pass0 hg h4 ha hdb he hpl)
end
def MkOGo (C : Addr) (sp : Sp) (vs : List V) (H : Hp) (Q : XK) : Prop := vs.length ≤ 1000 ∧ ∀ a, H a = none → sp (.ref a :: (vs ++ [])) (upd H a (exo a C none))
  (fun v H2 => v = .non ∧ ∃ (d : Addr) (fs : List (Str × V)), H2 a = some (exo a C (some d)) ∧ H2 d = some (exd d fs) ∧ H d = none ∧ Q (.ref C) (some d) (upd (L2.del H2 a) d (.xd fs))) (fun _ _ _ => False)
theorem r_tRaise {C : Addr} {sp : Sp} {ta : TA} {W : WX} {D : Ends} {σ : L2.St} {H : Hp} (q : ta σ H fun vs H1 => MkOGo C sp vs H1 fun cls d H' => W cls d σ H') : tRaise C sp ta W D σ H := q
def spErr1 (C : Addr) (f : Str) : Sp := fun vs H Q _ => ∃ (a : Addr) (v : V), vs = [.ref a, v] ∧ H a = some (exo a C none) ∧ ∀ dx, H dx = none → dx ≠ a → Q .non (upd (upd H dx (exd dx [(f, v)])) a (exo a C (some dx)))
section
variable {e : En} {G H : Hp} {M : List Addr} {C : Addr} {f g : Str} {v u : V} {Q : XK}
theorem u_raise1 (w : Wd e G H M) (k : ∀ d G' H', Wd e G' H' M → Same G G' → Same H H' → G' d = some (.xd [(f, v)]) → Q (.ref C) (some d) H') : MkOGo C (spErr1 C f) [v] H Q := by
  refine ⟨Nat.le_of_ble_eq_true rfl, fun a ha => ⟨a, v, rfl, upd_same, fun dx hd ne => ⟨rfl, dx, [(f, v)], upd_same, ?_, ?_, ?_⟩⟩⟩
  · rw [upd_ne ne, upd_same]
  · rw [upd_ne ne] at hd
    exact hd
  · rw [upd_ne ne] at hd
    have z : upd (L2.del (upd (upd (upd H a (exo a C none)) dx (exd dx [(f, v)])) a (exo a C (some dx))) a) dx (.xd [(f, v)]) = upd H dx (.xd [(f, v)]) := by
      funext b
      by_cases h1 : b = dx
      · rw [h1, upd_same, upd_same]
      · rw [upd_ne h1, upd_ne h1]
        by_cases h2 : b = a
        · rw [h2, del_same, ha]
        · rw [del_ne h2, upd_ne h2, upd_ne h1, upd_ne h2]
    rw [z]
    exact k dx _ _ (wd_lay w hd) (same_upd (w.g hd)) (same_upd hd) upd_same
end
section
variable {P : Program} {w : World} {K : PySem.W.Frag} {mg : Str → Option Value} {base : Heap} {x qual : Str} {st : Stmt} {f : Addr} {fd : FuncData} {N ps : List Str} {k : Nat} {sp : Sp} {dvs : List V}
theorem fnP_okX (F : FnP K x qual st dvs f fd) (S : FnScope N ps (defScope st)) (len : ∀ vs H Q E, sp vs H Q E → vs.length = ps.length)
    (body : ∀ (cdv : Value) (A : Around) (outer : List Env) (s : Shared) (H : Hp) (vs : List V) (Q : VK) (E : XK), Room k (A.deeper (envOfC qual (defScope st) s.heap.objs.size f cdv)) → sp vs H Q E →
      ∃ t, PSs (cxOf (L2.CX P w) P w K mg base N qual (defScope st) f cdv A outer s H E) (defBody st) t ∧ t { nx := fun _ H' => Q .non H', rt := Q } (start N vs) H) :
    FnOk P w K mg base (L2.CX P w) (k + 1) f fd ps sp := FunD.ok F S len body
end
abbrev takesD {P : Program} {w : World} {K : PySem.W.Frag} {mg : Str → Option Value} {base : Heap} {N : List Str} {qual : Str} {sc : Scope} {f : Addr} {cdv : Value} {A : Around} {outer : List Env} {s : Shared} {H : Hp} {E : XK} :
    Takes (cxOf (L2.CX P w) P w K mg base N qual sc f cdv A outer s H E) (fun cls d _ H' => E cls d H') := takes_of rfl rfl rfl rfl
theorem passD {P : Program} {w : World} {K : PySem.W.Frag} {mg : Str → Option Value} {base : Heap} {N : List Str} {qual : Str} {sc : Scope} {f : Addr} {cdv : Value} {A : Around} {outer : List Env} {s : Shared} {H : Hp} {E : XK} :
    Passes (L2.CX P w) (cxOf (L2.CX P w) P w K mg base N qual sc f cdv A outer s H E) E := passes_call (W := fun cls d _ H' => E cls d H') (takes_of rfl rfl rfl rfl) fun _ _ _ _ h => h
theorem ok_err1 {P : Program} {w : World} {K : PySem.W.Frag} {mg : Str → Option Value} {base : Heap} {C : Addr} {qual fld : Str} {st : Stmt} {f : Addr} {fd : FuncData} (F : FnP K "__init__" qual st [] f fd) (S : FnScope [("self" : Str), fld] [("self" : Str), fld] (defScope st)) (T : OexC K C)
    (no : PySem.W.findIn K (.ref C) fld = some none)
    (body : ∀ X : Cx, X.N = [("self" : Str), fld] → X.env.scope = defScope st → PSs X (defBody st) (tOst X.K fld (tVar 0) (tVar 1))) : FnOk P w K mg base CX0 1 f fd [("self" : Str), fld] (spErr1 C fld) := by
  refine fnP_ok F S (fun vs H Q E h => ?_) (fun cdv A outer s H vs Q E hr h => ?_)
  · obtain ⟨a, v, rfl, _⟩ := h
    rfl
  · obtain ⟨a, v, rfl, ha, k⟩ := h
    refine ⟨_, body _ rfl rfl, ?_⟩
    exact ⟨v, rfl, .ref a, rfl, a, C, rfl, T, no, .inl ⟨ha, fun dx hd ne => k dx hd ne⟩⟩
end Q
namespace Q
open PySem PySem.Spec PyProof.Rows L2
/-- the first wrong argument: the error's class, its field, the value -/
def sayFault (Cn Cm Cs : Addr) (x y z : V) : Option (Addr × Str × V) := if nameV x = true then (if momV y 0 = true then (if isB z = true then none else some (Cs, "value", z)) else some (Cm, "moment", y)) else some (Cn, "name", x)
def spSayX (K : PySem.W.Frag) (C Cn Cm Cs : Addr) : Sp := fun vs H Q E => ∃ (G : Hp) (a dx : Addr) (x y z : V) (tx ty tz : Value), vs = [.ref a, x, y, z] ∧ Gh G H ∧ G a = none ∧ H a = some (.ins C dx []) ∧ Kd K G x tx ∧ Kd K G y ty ∧ Kd K G z tz ∧
  (∀ s, x = .str s → s.length ≤ 1000000) ∧
  (∀ cls f v, sayFault Cn Cm Cs x y z = some (cls, f, v) → ∀ (G' H' : Hp) (d : Addr), But a H H' → (∃ o, H' a = some o ∧ plainB o = true) → Gh G' H' → Same G G' → (∀ b, H b ≠ none → G' b = G b) → G' d = some (.xd [(f, v)]) → E (.ref cls) (some d) H') ∧
  (∀ s i b, x = .str s → y = .int i → z = .bl b → Right s i → ∀ (G' H' : Hp) (fc : Addr), But a H H' → Gh G' H' → Same G G' → (∀ b, H b ≠ none → G' b = G b) → G' fc = some (.tup [.str s, .int i, .bl b]) →
    H' a = some (.ins C dx [("tool", .str s), ("moment", .int i), ("is_sound", .bl b), ("face", .ref fc)]) → Q .non H')
theorem wd_made {e : En} {G1 H1 G2 H2 : Hp} {M : List Addr} {x : Addr} {o : HO} (w1 : Wd e G1 H1 (x :: M)) (b2 : But x H1 H2) (h2 : H2 x = some o) (no : plainB o = true) (s2 : Gh G2 H2) (s3 : Same G1 G2) (fr : ∀ a, H1 a ≠ none → G2 a = G1 a) : Wd e G2 H2 (x :: M) := by
  have w3 := wd_but w1 List.mem_cons_self b2 h2 no
  refine ⟨s2.1, fun a ha => ?_, w1.nd, w3.dom, fun a o h => s3 _ _ (w1.gr _ _ h), fun a ha => by rw [fr a (w1.dom a ha)]; exact w1.fr a ha, w3.kp, s2.2, w3.mt, w3.tb⟩
  obtain ⟨g1, ⟨o, g2⟩, g3⟩ := w1.mu a ha
  obtain ⟨_, g4, _⟩ := w3.mu a ha
  exact ⟨by rw [fr a (some_ne g2)]; exact g1, g4, g3⟩
theorem u_sayX {K : PySem.W.Frag} {C Cn Cm Cs : Addr} {e : En} {G H : Hp} {M : List Addr} {x y z : V} {tx ty tz : Value} {Qv : VK} {E : XK} (w : Wd e G H M) (kx : Kd K G x tx) (ky : Kd K G y ty) (kz : Kd K G z tz) (hs : ∀ s, x = .str s → s.length ≤ 1000000)
    (bad : ∀ cls f v, sayFault Cn Cm Cs x y z = some (cls, f, v) → ∀ d G' H', Wd e G' H' M → Same G G' → Same H H' → G' d = some (.xd [(f, v)]) → E (.ref cls) (some d) H')
    (good : ∀ s i b, x = .str s → y = .int i → z = .bl b → Right s i → ∀ a G' H', Wd e G' H' M → Same G G' → Same H H' → SayAt C G' a s i b → Qv (.ref a) H') : MakeGo C (spSayX K C Cn Cm Cs) [x, y, z] E H Qv := by
  refine make_go w fun a dx G1 H1 hx nm s1 t1 w1 h1 n0 => ?_
  have keeps : ∀ {H2 : Hp}, But a H1 H2 → Same H H2 := fun {H2} b2 c o h => by
    refine b2 c o (fun q => ?_) (t1 _ _ h)
    subst q
    rw [hx] at h
    cases h
  refine ⟨G1, a, dx, x, y, z, tx, ty, tz, rfl, w1.gh, (w1.mu a List.mem_cons_self).1, h1, kx.same s1, ky.same s1, kz.same s1, hs, fun cls f v hf G2 H2 d b2 hh s2 s3 fr hd => ?_, fun s i b e1 e2 e3 r G2 H2 fc b2 s2 s3 fr hf h2 => ⟨rfl, ?_⟩⟩
  · obtain ⟨o, h2, no⟩ := hh
    have w2 := wd_made w1 b2 h2 no s2 s3 fr
    exact bad cls f v hf d G2 H2 (wd_drop w2 (List.sublist_cons_self _ _)) (s1.trans s3) (keeps b2) hd
  · have w2 := wd_made w1 b2 h2 rfl s2 s3 fr
    obtain ⟨w4, s4⟩ := wd_freeze w2 h2 n0
    exact good s i b e1 e2 e3 r a _ H2 w4 (s1.trans (s3.trans s4)) (keeps b2) ⟨r, dx, fc, upd_same, s4 _ _ hf⟩
theorem fault_n {Cn Cm Cs : Addr} {x y z : V} (h : nameV x = false) : sayFault Cn Cm Cs x y z = some (Cn, ("name" : Str), x) := by
  unfold sayFault
  rw [h] <;> rfl
theorem fault_m {Cn Cm Cs : Addr} {x y z : V} (h : nameV x = true) (h2 : momV y 0 = false) : sayFault Cn Cm Cs x y z = some (Cm, ("moment" : Str), y) := by
  unfold sayFault
  rw [h, h2] <;> rfl
theorem fault_s {Cn Cm Cs : Addr} {x y z : V} (h : nameV x = true) (h2 : momV y 0 = true) (h3 : isB z = false) : sayFault Cn Cm Cs x y z = some (Cs, ("value" : Str), z) := by
  unfold sayFault
  rw [h, h2, h3] <;> rfl
theorem name_str {x : V} (h : nameV x = true) : ∃ s, x = .str s ∧ nmOk s = true := by
  cases x with
  | str s => exact ⟨s, rfl, h⟩
  | _ => cases h
theorem mom_int {x : V} (h : momV x 0 = true) : ∃ i, x = .int i ∧ 0 ≤ i ∧ i ≤ 1000000000000000000000000000000 := by
  cases x with
  | int i =>
    have e : (decide (0 ≤ i) && decide (i ≤ 1000000000000000000000000000000)) = true := h
    rw [Bool.and_eq_true] at e
    exact ⟨i, rfl, of_decide_eq_true e.1, of_decide_eq_true e.2⟩
  | _ => cases h
theorem bl_of {x : V} (h : isB x = true) : ∃ b, x = .bl b := by
  cases x with
  | bl b => exact ⟨b, rfl⟩
  | _ => cases h
end Q
namespace Q
open PySem PySem.Spec PyProof.Rows L2
theorem app_list (a b : Str) : (a ++ b).cps.toList = a.cps.toList ++ b.cps.toList := by
  show (a.cps ++ b.cps).toList = _
  simp
theorem len_list (a : Str) : a.length = a.cps.toList.length := by simp [Str.length]
/-- a letter, then letters and figures, m at most -/
def NmPre (z : Str) (m : Nat) : Prop := ∃ c r, z.cps.toList = c :: r ∧ letB c = true ∧ (∀ d ∈ r, (letB d || figB d) = true) ∧ z.length ≤ m
theorem NmPre.one {c : Nat} (h : c ∈ zLetters.cps.toList) : NmPre ⟨#[c]⟩ 1 := ⟨c, [], rfl, decide_eq_true h, fun _ h => (by cases h), Nat.le_refl _⟩
theorem NmPre.more {z : Str} {m k : Nat} (h : NmPre z m) (hk : m ≤ k) : NmPre z k := by
  obtain ⟨a, r, e1, e2, e3, e4⟩ := h
  exact ⟨a, r, e1, e2, e3, Nat.le_trans e4 hk⟩
theorem NmPre.ok {z : Str} (h : NmPre z 8) (n : inV (.str z) resV = false) : nmOk z = true := by
  obtain ⟨a, r, e1, e2, e3, e4⟩ := h
  have l1 : 1 ≤ z.length := by
    rw [len_list, e1]
    simp
  unfold nmOk
  rw [n, decide_eq_true l1, decide_eq_true e4, e1]
  have all : (a :: r).all (fun c => letB c || figB c) = true := by
    rw [List.all_cons, e2, Bool.true_or, Bool.true_and]
    exact List.all_eq_true.mpr e3
  rw [all]
  show (true && true && (!false && (letB a && true))) = true
  rw [e2]
  rfl
theorem cut1 {z : Str} {c : Nat} {r : List Nat} (h : z.cps.toList = c :: r) : (cutS z (some 1) none).cps.toList = r := by
  have l : z.length = r.length + 1 := by
    rw [len_list, h]
    simp
  unfold cutS
  rw [h]
  have s1 : HT.sIx z.length 0 (some 1) = 1 := by
    have := HT.sIx_nat z.length 0 1
    rw [show (some (1 : Int)) = some ((1 : Nat) : Int) from rfl, this]
    omega
  rw [s1, HT.sIx_none, l]
  simp
theorem x_free {z : Str} {r : List Nat} (h : z.cps.toList = 120 :: r) : inV (.str z) resV = false := by
  unfold inV
  rw [List.any_eq_false]
  intro y hy
  obtain ⟨s, hs, rfl⟩ := List.mem_map.mp hy
  have no : ∀ s ∈ resS, s.cps.toList.head? ≠ some 120 := by decide
  show ¬ (s == z) = true
  intro e
  have e2 : s = z := eq_of_beq e
  have n := no s hs
  rw [e2, h] at n
  exact n rfl
theorem NmPre.x {z : Str} (h : NmPre z 8) : nmOk (Str.ofString "x" ++ cutS z (some 1) none) = true := by
  obtain ⟨a, r, e1, e2, e3, e4⟩ := h
  have hx : (Str.ofString "x" ++ cutS z (some 1) none).cps.toList = 120 :: r := by
    rw [app_list, cut1 e1]
    rfl
  have lz : z.length = r.length + 1 := by
    rw [len_list, e1]
    simp
  refine NmPre.ok ⟨120, r, hx, by decide, e3, ?_⟩ (x_free hx)
  rw [len_list, hx]
  simp
  omega
def MomOk (i : Int) : Prop := 0 ≤ i ∧ i ≤ 1000000000000000000000000000000
def spMom1 : Sp := fun vs H Q _ => ∃ (G : Hp) (p c : Addr) (n : Nat), vs = [.ref p] ∧ Gh G H ∧ G p = none ∧ Cells c G ∧ PenAt p c n H ∧ n ≤ 1048000 ∧ RetP p c (n + 3) G H (fun v _ => ∃ i, v = .int i ∧ MomOk i) Q
theorem u_mom1 {e : En} {G H : Hp} {M : List Addr} {p c : Addr} {n : Nat} {Q : VK} {E : XK} (w : Wd e G H M) (hm : p ∈ M) (hc : Cells c G) (P : PenAt p c n H) (hn : n ≤ 1048000)
    (k : ∀ (i : Int) (G' H' : Hp), Wd e G' H' M → Same G G' → But p H H' → PenAt p c (n + 3) H' → MomOk i → Q (.int i) H') : spMom1 [.ref p] H Q E :=
  ⟨G, p, c, n, rfl, w.gh, (w.mu p hm).1, hc, P, hn, retP_use w hm fun v G' H' w' s b P' ⟨z, e1, e2⟩ => by subst e1; exact k z G' H' w' s b P' e2⟩
theorem r_slS {z : Str} {lo hi : Option Int} {H : Hp} {Qv : VK} (h : z.length ≤ sizeLine) (q : Qv (.str (cutS z lo hi)) H) : rSlS (.str z) lo hi H Qv := ⟨z, rfl, h, q⟩
end Q
namespace Q
open PySem PySem.Spec PyProof.Rows L2
theorem wd_lam {e : En} {G H H1 : Hp} {M : List Addr} (w : Wd e G H M) (x : LamX.ExtN H H1) (t : LamX.Tabs e.T H1) (cov : ∀ a, e.H0 a ≠ none → (∃ q, (a, q) ∈ e.T) ∨ (a ∉ e.P0 ∧ ∀ o, e.H0 a = some o → NoT o)) (inP : ∀ p ∈ e.T, p.1 ∈ e.P0) : Wd e G H1 M where
  le := fun a o z => x a o (w.le a o z) (w.nt a o z)
  mu := fun a ha => by
    obtain ⟨h1, ⟨o, h2⟩, h3⟩ := w.mu a ha
    exact ⟨h1, ⟨o, x a o h2 (pl_nt (w.mt a ha o h2))⟩, h3⟩
  nd := w.nd
  dom := fun a z => by
    rcases cov a z with ⟨q, hq⟩ | ⟨off, no⟩
    · obtain ⟨ps, y, _⟩ := t _ hq
      rw [show H1 a = some (.tbl ps) from y]
      simp
    · cases y : e.H0 a with
      | none => exact absurd y z
      | some o =>
        rw [x a o (w.kp a o off y) (no o y)]
        simp
  gr := w.gr
  fr := w.fr
  kp := fun a o off z => by
    rcases cov a (some_ne z) with ⟨q, hq⟩ | ⟨_, no⟩
    · exact absurd (inP _ hq) off
    · exact x a o (w.kp a o off z) (no o z)
  nt := w.nt
  mt := fun a ha u z => by
    obtain ⟨_, ⟨o, h2⟩, _⟩ := w.mu a ha
    rw [x a o h2 (pl_nt (w.mt a ha o h2))] at z
    rw [← Option.some.inj z]
    exact w.mt a ha o h2
  tb := t
def HearX (kd : List (Addr × Str × Str)) (Q : VK) : XK := fun cls d H1 => ∃ (e : En) (G : Hp) (M : List Addr) (C : Addr) (sg f : Str) (v : V) (dd : Addr), Wd e G H1 M ∧ cls = .ref C ∧ d = some dd ∧ G dd = some (.xd [(f, v)]) ∧ (C, sg, f) ∈ kd ∧
  ∀ l G' H', Wd e G' H' M → Same G G' → Same H1 H' → G' l = some (.tup [.str sg, v]) → Q (.ref l) H'
/-- what is known of an error's class that is heard -/
structure HdC (K : PySem.W.Frag) (C : Addr) (f : Str) : Prop where
  x : XfC K C
  e : ExcC K C
  n : PySem.W.findIn K (.ref C) f = some none
  v : PySem.W.kitOne K (.ref C) (.type "ValueError") = some true
section
variable {X : Cx} {Ng : List Str} {x a n cl : Str} {sg : Scope} {g f c' Ct : Addr} {cdg : Value} {s : Shared} {H : Hp} {i : Nat} {first : Stmt} {rest : List Stmt} {q : Str} {tl : XK → Hp → VK → Prop} {ts : Addr → Value → Option Addr → TS} {p1 p2 p3 np hp tp : Pos}
abbrev hearCx (X : Cx) (Ng : List Str) (x : Str) (sg : Scope) (g : Addr) (cdg : Value) (s : Shared) (H : Hp) : Cx := (cxOf C8.CX0 X.prog X.w X.K X.mg X.base Ng x sg g cdg X.A X.stack s H C8.E0).nox
end
theorem same_new {A B C D : Hp} {q : Addr} (s : Same A B) (hq : B q = none) (t : Same B C) (b : But q C D) : Same A D := fun a o z => by
  have y := s a o z
  refine b a o (fun e => ?_) (t a o y)
  rw [e, hq] at y
  cases y
end Q
namespace Q
open PySem PySem.Spec PyProof.Rows L2
def StatGo (C : Addr) (x : V) (R : Prop) : Prop := x = .ref C ∧ R
def tStat (C : Addr) (sp : Sp) (E : XK) (ta : TE) (t : TA) : TE := fun σ H Q => ta σ H fun x H1 => StatGo C x (t σ H1 fun vs H2 => sp vs H2 Q E)
def tStatK (C : Addr) (n : Nat) (sp : Sp) (E : XK) (ta : TE) (t : TA) (gV : List V → List V → List V) : TE := fun σ H Q => ta σ H fun x H1 => StatGo C x (t σ H1 fun zs H2 => zs.length = n ∧ sp (gV [] zs) H2 Q E)
section
variable {C : Addr} {sp : Sp} {E : XK} {ta : TE} {t : TA} {σ : L2.St} {H : Hp} {Qv : VK} {n : Nat} {gV : List V → List V → List V}
theorem r_tStat (q : ta σ H fun x H1 => StatGo C x (t σ H1 fun vs H2 => sp vs H2 Qv E)) : tStat C sp E ta t σ H Qv := q
theorem r_tStatK (q : ta σ H fun x H1 => StatGo C x (t σ H1 fun zs H2 => zs.length = n ∧ sp (gV [] zs) H2 Qv E)) : tStatK C n sp E ta t gV σ H Qv := q
theorem r_stat {R : Prop} (q : R) : StatGo C (.ref C) R := ⟨rfl, q⟩
end
end Q
namespace Q
open PySem PySem.Spec PyProof.Rows L2
mutual
inductive Dq (K : PySem.W.Frag) (H : Hp) : V → PyData → Prop
  | non : Dq K H .non .none
  | bl (b : Bool) : Dq K H (.bl b) (.bool b)
  | int (i : Int) : Dq K H (.int i) (.int i)
  | str (x : Str) : Dq K H (.str x) (.str x)
  | lst {a : Addr} {xs : List V} {ds : List PyData} (h : SqL K H a xs) (r : DqAll K H xs ds) : Dq K H (.ref a) (.list ds)
  | tup {a : Addr} {xs : List V} {ds : List PyData} (h : SqT K H a xs) (r : DqAll K H xs ds) : Dq K H (.ref a) (.tuple ds)
  | dic {a : Addr} {kvs : List (Key × V)} {ds : List (PyData × PyData)} (h : Rd H a (.dK kvs)) (k : DqAll K H (kvs.map fun p => kV p.1) (ds.map (·.1))) (r : DqAll K H (kvs.map (·.2)) (ds.map (·.2))) : Dq K H (.ref a) (.dict ds)
inductive DqAll (K : PySem.W.Frag) (H : Hp) : List V → List PyData → Prop
  | nil : DqAll K H [] []
  | cons {v : V} {vs : List V} {d : PyData} {ds : List PyData} (h : Dq K H v d) (r : DqAll K H vs ds) : DqAll K H (v :: vs) (d :: ds)
end
theorem sz_fst : ∀ ds : List (PyData × PyData), sizeOf (ds.map (·.1)) ≤ sizeOf ds
  | [] => by simp
  | (a, b) :: r => by
    have := sz_fst r
    simp at this ⊢
    omega
theorem sz_snd : ∀ ds : List (PyData × PyData), sizeOf (ds.map (·.2)) ≤ sizeOf ds
  | [] => by simp
  | (a, b) :: r => by
    have := sz_snd r
    simp at this ⊢
    omega
theorem rd_same {H H' : Hp} {a : Addr} {u : HO} (s : Same H H') (h : Rd H a u) : Rd H' a u := h.elim (fun e => .inl (s _ _ e)) fun ⟨o, e⟩ => .inr ⟨o, s _ _ e⟩
theorem same_dqAll {K : PySem.W.Frag} {H H' : Hp} (s : Same H H') : ∀ (n : Nat), (∀ d x, sizeOf d ≤ n → Dq K H x d → Dq K H' x d) ∧ (∀ ds vs, sizeOf ds ≤ n → DqAll K H vs ds → DqAll K H' vs ds) := by
  intro n
  induction n with
  | zero => exact ⟨fun d x hn h => (by cases d <;> simp at hn), fun ds vs hn h => (by cases ds <;> simp at hn)⟩
  | succ n ih =>
    have h1 : ∀ d x, sizeOf d ≤ n + 1 → Dq K H x d → Dq K H' x d := by
      intro d x hn h
      cases h with
      | non => exact .non
      | bl b => exact .bl b
      | int i => exact .int i
      | str x => exact .str x
      | lst hs ha => exact .lst (s.seq hs) (ih.2 _ _ (by simp at hn; omega) ha)
      | tup hs ha => exact .tup (same_sqT s hs) (ih.2 _ _ (by simp at hn; omega) ha)
      | dic h k r =>
        rename_i ds
        have h1 := sz_fst ds
        have h2 := sz_snd ds
        exact .dic (rd_same s h) (ih.2 _ _ (by simp at hn; omega) k) (ih.2 _ _ (by simp at hn; omega) r)
    refine ⟨h1, fun ds vs hn h => ?_⟩
    cases h with
    | nil => exact .nil
    | cons a b => exact .cons (h1 _ _ (by simp at hn; omega) a) (ih.2 _ _ (by simp at hn; omega) b)
theorem same_dq {K : PySem.W.Frag} {H H' : Hp} (s : Same H H') {x : V} {d : PyData} (h : Dq K H x d) : Dq K H' x d := (same_dqAll s (sizeOf d)).1 d x (Nat.le_refl _) h
/-- the interpreter's table of modules is a dict of K -/
def SmK (K : PySem.W.Frag) : Prop := ∃ o, K.lookup sysModules = some o ∧ o.cls = .type "dict"
section
variable {X : Cx} {pins : List (Addr × Obj)} {σ : L2.St} {H : Hp} {s : Shared}
theorem not_sm {a : Addr} {o : Obj} (SM : SmK X.K) (I : Inv X pins σ H s) (h : s.heap.get? a = some o) (hc : o.cls ≠ .type "dict") : sysModules ≠ a := fun z => by
  obtain ⟨u, lk, cu⟩ := SM
  have y := I.kIn _ _ lk
  rw [z, h] at y
  rw [Option.some.inj y] at hc
  exact hc cu
theorem dq_reads (SM : SmK X.K) (I : Inv X pins σ H s) : ∀ (n : Nat), (∀ (d : PyData) (v : V) (u : Value), sizeOf d ≤ n → Dq X.K H v d → RelV v u → ∃ as, Reads s.heap u d as ∧ sysModules ∉ as) ∧
    (∀ (ds : List PyData) (vs : List V) (us : List Value), sizeOf ds ≤ n → DqAll X.K H vs ds → Vals vs us → ∃ as, ReadsAll s.heap us ds as ∧ sysModules ∉ as) := by
  intro n
  induction n with
  | zero => exact ⟨fun d v u hn => (by cases d <;> simp at hn), fun ds v u hn => (by cases ds <;> simp at hn)⟩
  | succ n ih =>
    have h1 : ∀ (d : PyData) (v : V) (u : Value), sizeOf d ≤ n + 1 → Dq X.K H v d → RelV v u → ∃ as, Reads s.heap u d as ∧ sysModules ∉ as := by
      intro d v u hn h r
      cases h with
      | non => cases r; exact ⟨_, .none, by simp⟩
      | bl b => cases r; exact ⟨_, .bool b, by simp⟩
      | int i => obtain ⟨t, rfl⟩ := r; exact ⟨_, .int i t, by simp⟩
      | str x => obtain ⟨t, rfl⟩ := r; exact ⟨_, .str x t, by simp⟩
      | lst hs ha =>
        cases r
        obtain ⟨its, rv, ⟨o, n, ho, hc, _, hd⟩, _⟩ := I.list hs
        obtain ⟨as, hr, no⟩ := ih.2 _ _ its (by simp at hn; omega) ha rv
        refine ⟨_, .list ho hc hd hr, fun z => ?_⟩
        rcases List.mem_cons.mp z with z | z
        · exact not_sm SM I ho (by rw [hc]; intro y; injection y with y; exact absurd y (by decide)) z
        · exact no z
      | tup hs ha =>
        cases r
        obtain ⟨its, rv, ⟨o, ho, hc, n, hd⟩, _⟩ := I.tuple hs
        obtain ⟨as, hr, no⟩ := ih.2 _ _ its (by simp at hn; omega) ha rv
        exact ⟨_, .tuple ho hc hd hr, no⟩
      | dic h k r2 =>
        rename_i a kvs ds
        have q1 := sz_fst ds
        have q2 := sz_snd ds
        cases r
        obtain ⟨_, ns, vs, kv, o, es, ep, ho, hx, hd, _, pr, _⟩ := dk_rd I.hok h
        have both : ∀ {es : List DictEntry} {vs : List (Key × Value)} {kvs : List (Key × V)}, Pairs (mixKind X.prog X.w) es vs → KV kvs vs → Vals (kvs.map fun p => kV p.1) (es.map (·.key)) ∧ Vals (kvs.map (·.2)) (es.map (·.val)) := by
          intro es vs kvs p
          induction p generalizing kvs with
          | nil => intro z; cases z; exact ⟨.nil, .nil⟩
          | cons i1 i2 _ ih =>
            intro z
            cases z with
            | cons z1 z2 =>
              obtain ⟨g1, g2⟩ := ih z2
              refine ⟨.cons ?_ g1, .cons ?_ g2⟩
              · dsimp only
                rw [z1.1]
                exact keyIs_rel i1
              · dsimp only
                rw [i2]
                exact z1.2
        obtain ⟨b1, b2⟩ := both pr kv
        obtain ⟨as, r1, n1⟩ := ih.2 _ _ _ (by simp at hn; omega) k b1
        obtain ⟨bs, r3, n2⟩ := ih.2 _ _ _ (by simp at hn; omega) r2 b2
        refine ⟨_, .dict ho hx.1 hd r1 r3, fun z => ?_⟩
        rcases List.mem_append.mp z with z | z
        · rcases List.mem_cons.mp z with z | z
          · rw [← z] at ns
            simp at ns
          · exact n1 z
        · exact n2 z
    refine ⟨h1, fun ds vs us hn h r => ?_⟩
    cases h with
    | nil => cases r; exact ⟨_, .nil, by simp⟩
    | cons a b =>
      cases r with
      | cons r1 r2 =>
        obtain ⟨as, q1, n1⟩ := h1 _ _ _ (by simp at hn; omega) a r1
        obtain ⟨bs, q2, n2⟩ := ih.2 _ _ _ (by simp at hn; omega) b r2
        exact ⟨_, .cons q1 q2, fun z => (List.mem_append.mp z).elim n1 n2⟩
def rReprQ (K : PySem.W.Frag) : List V → Hp → VK → Prop := fun xs H Q => ∃ (x : V) (d : PyData), xs = [x] ∧ Dq K H x d ∧ d.showable = true ∧ d.depth ≤ 60 ∧ d.shown.length ≤ sizeLine ∧ Q (.str d.shown) H
theorem call_reprQ (SM : SmK X.K) (g : G0 X.A) (hu : X.A.units + 64 < cLine) : CallR X (.builtin "repr") (rReprQ X.K) := by
  intro pins s σ H xs us Q I r h
  obtain ⟨x, d, rfl, hd, hs, hdp, hz, q⟩ := h
  obtain ⟨u, rfl, ru⟩ := r.one
  obtain ⟨as, hr, no⟩ := (dq_reads SM I (sizeOf d)).1 d x u (Nat.le_refl _) hd ru
  have more : ∀ {a : Addr}, u = .ref a → wpAny (model X.prog X.w) X.A (call (.builtin "repr") [u]) (EP X pins σ Q) X.xe s := fun {a} e => by
    subst e
    exact repr_of_reads' hr hs (fun _ => no) g (by omega) (fun _ _ e => e) (fun h' u tk hk => ⟨.str _, H, I.kept (t' := tk) hk, ⟨_, rfl⟩, q⟩) hz
  cases hd with
  | non => cases ru; exact PySem.P.repr_of_none ⟨.str "None", H, I.tok _, ⟨_, rfl⟩, by simpa only [PyData.shown] using q⟩
  | bl b => cases ru; exact PySem.P.repr_of_bool ⟨.str (if b then "True" else "False"), H, I.tok _, ⟨_, rfl⟩, by simpa only [PyData.shown] using q⟩
  | int i => obtain ⟨t, rfl⟩ := ru; exact PySem.P.repr_of_int (by simpa [PyData.showable] using hs) ⟨.str (toString i), H, I.tok _, ⟨_, rfl⟩, by simpa only [PyData.shown] using q⟩
  | str z => obtain ⟨t, rfl⟩ := ru; exact PySem.P.repr_of_str ⟨.str (reprText z), H, I.tok _, ⟨_, rfl⟩, by simpa only [PyData.shown] using q⟩ (by simpa only [PyData.shown] using hz)
  | lst h1 h2 => exact more ru
  | tup h1 h2 => exact more ru
  | dic h1 => exact more ru
end
end Q
namespace Q
open PySem PySem.Spec PyProof.Rows L2
section
variable {P : Program} {w : World} {K : PySem.W.Frag} {mg mb : Str → Option Value} {CX : CXT} {k : Nat} {fa a : Addr} {fd : FuncData} {x : Str} {sp : Sp} {s₁ : Shared} {vs : List Value} {ns : List Int} {cs : List (Addr × Addr)}
abbrev emptyT : Obj := { cls := .none, data := .fields #[] }
def isTab (cs : List (Addr × Addr)) (b : Addr) : Prop := ∃ p ∈ cs, p.2 = b
theorem from_heapT (Hh : Hp) (KX : K.In s₁.heap) (hns : s₁.heap.Ns mainGlobals mg) (hb : s₁.heap.Ns builtinsNs mb)
    (hbb : ∀ y : Str, y ≠ "__name__" → mb y = bootBuiltins y) (hlim : s₁.heap.NoLimit) (hg : s₁.gens = #[])
    (bmain : ∃ (bm : Addr) (ob : Obj), mg "__builtins__" = some (.ref bm) ∧ bm ≠ builtinsNs ∧ s₁.heap.get? bm = some ob ∧ ob.cls = .type "module" ∧ ob.dict = some builtinsNs ∧ ob.data = .plain)
    (hobj : s₁.heap.get? a = some { cls := .type "list", data := .seq vs.toArray }) (hr : Room k callerA)
    (hd : ∀ p ∈ cs, PySem.W.codeHdIn K p.1 p.2 = true) (off : ∀ p ∈ cs, K.lookup p.2 = none) (empty : ∀ p ∈ cs, s₁.heap.get? p.2 = some emptyT)
    (F : ∀ b0 : Heap, K.In b0 → b0.Ns mainGlobals mg → (∀ p ∈ cs, LamX.TabB b0 mg p.1 p.2) → FnA P w K mg b0 CX k fa fd [x] sp)
    (hbind : ∀ (s : Shared) (u : Value), BindsTo s fd ⟨[u], []⟩ [(x, u)]) (told : HOk P w Hh s₁.heap)
    (only : ∀ b, Hh b = none ∨ isTab cs b ∨ ∃ o xs, Hh b = some (.frz o (.lst xs))) (tabs : ∀ p ∈ cs, Hh p.2 = some (.tbl #[]))
    (hsp : sp [.ref a] Hh (fun v _ => v = .bl true) fun _ _ _ => False) (hCX : ∀ e s', CX [] Hh s₁ (fun _ _ _ => False) e s' → False)
    (alone : ∀ b, Hh b ≠ none → b = a ∨ isTab cs b) (apart : Hh a ≠ none → K.lookup a = none) :
    codeAny (model P w) callerA (.call (.ref fa) ⟨[.ref a], []⟩) (fun r t => r = .ok (.ret (.bool true)) ∧ OldK s₁.heap t.heap ∧ t.os = s₁.os ∧ AllBare t.gens) s₁ := by
  let base := hidT s₁.heap Hh
  have seen : ∀ {b : Addr} {o : Obj}, s₁.heap.get? b = some o → Hh b = none → base.get? b = some o := fun z n => hidT_get z n
  have other : ∀ {b : Addr} {o : Obj}, s₁.heap.get? b = some o → (∀ us n, o.data ≠ .seq us n) → o.data ≠ .fields #[] → Hh b = none := by
    intro b o z n1 n2
    by_cases q : Hh b = none
    · exact q
    · rcases alone b q with e | ⟨p, hp, e⟩
      · rw [e, hobj] at z
        obtain rfl := Option.some.inj z
        exact absurd rfl (n1 _ _)
      · rw [← e, empty p hp] at z
        obtain rfl := Option.some.inj z
        exact absurd rfl n2
  have dicts : ∀ {b : Addr} {o : Obj} {es : Array DictEntry} {ep : Nat}, s₁.heap.get? b = some o → o.data = .dict es ep → Hh b = none := fun {b o es ep} z d =>
    other z (fun us n y => by rw [d] at y; cases y) fun y => by rw [d] at y; cases y
  have names : ∀ {b : Addr} {m : Str → Option Value}, s₁.heap.Ns b m → base.Ns b m := by
    rintro b m ⟨o, es, ep, z, d, r⟩
    exact ⟨o, es, ep, seen z (dicts z d), d, r⟩
  have inB : K.In base := by
    intro b o z
    refine seen (KX b o z) ?_
    by_cases q : Hh b = none
    · exact q
    · rcases alone b q with e | ⟨p, hp, e⟩
      · rw [e] at z q
        rw [apart q] at z
        cases z
      · rw [← e, off p hp] at z
        cases z
  obtain ⟨mc, l1, l2⟩ := hlim
  have md : Mod K mg base := ⟨inB, names hns, ⟨mb, names hb, hbb⟩, ⟨mc, names l1, l2⟩⟩
  have TB : ∀ p ∈ cs, LamX.TabB base mg p.1 p.2 := by
    intro p hp
    have notG : mainGlobals ≠ p.2 := fun e => by
      obtain ⟨o, es, ep, z, d, _⟩ := hns
      rw [e, empty p hp] at z
      obtain rfl := Option.some.inj z
      cases d
    obtain ⟨bm, ob, b1, b2, b3, b4, b5, b6⟩ := bmain
    have bg : bm ≠ mainGlobals := fun e => by
      obtain ⟨o, es, ep, z, d, _⟩ := hns
      rw [e, z] at b3
      obtain rfl := Option.some.inj b3
      rw [d] at b6
      cases b6
    have bp : bm ≠ p.2 := fun e => by
      rw [e, empty p hp] at b3
      obtain rfl := Option.some.inj b3
      cases b6
    have bo : base.get? bm = some ob := seen b3 (other b3 (fun us n y => by rw [b6] at y; cases y) fun y => by rw [b6] at y; cases y)
    exact ⟨PySem.W.codeHd_of_K inB (hd p hp), ⟨bm, ob, b1, b2, bg, bp, bo, b4, b5, b6⟩, notG⟩
  have env : Env0 P w K mg base callerA [] s₁ Hh := by
    refine ⟨rfl, md, fun b o z => of_hidT z, Nat.le_of_eq (hidT_size _ _), trivial, fun b z => ?_, told, .of_eq hg⟩
    exact absurd (show b ∈ ([] : List Addr) from z) (by simp)
  have go := (F base inB (names hns) TB).run callerA [] s₁ Hh ⟨[.ref a], []⟩ [.ref a] [.ref a] _ _ g0_caller hr env (hbind s₁ (.ref a)) (.cons rfl .nil) hsp
  refine codeAny_mono go fun r t h => ?_
  match r, h with
  | .error e, h => exact (hCX e t h).elim
  | .ok .next, h => exact h.elim
  | .ok .brk, h => exact h.elim
  | .ok .cont, h => exact h.elim
  | .ok (.ret u), h =>
    obtain ⟨v, H', os, bare, un, told', ru, q⟩ := h
    have q' : v = .bl true := q
    subst q'
    obtain rfl : u = Value.bool true := ru
    have grown : ∀ p ∈ cs, ∃ more : Array Value, t.heap.get? p.2 = some { cls := .none, data := .fields more } := by
      intro p hp
      obtain ⟨more, y⟩ := un.tbls p.2 #[] (tabs p hp)
      exact ⟨_, told' p.2 _ y⟩
    have stays : ∀ b o, ¬ isTab cs b → s₁.heap.get? b = some o → t.heap.get? b = some o := by
      intro b o nt z
      by_cases n : Hh b = none
      · exact un.keep b o z n (by intro y; exact absurd (show b ∈ ([] : List Addr) from y) (by simp)) (by simp)
      · rcases only b with y | y | ⟨ob, xs, y⟩
        · exact absurd y n
        · exact absurd y nt
        · obtain ⟨e1, _⟩ := told b _ y
          obtain ⟨e2, _⟩ := told' b _ (un.frzs b ob _ y)
          rw [z] at e1
          obtain rfl := Option.some.inj e1
          exact e2
    refine ⟨rfl, ⟨fun b o z => ?_, fun b o z => ?_⟩, os, bare⟩
    · by_cases tb : isTab cs b
      · obtain ⟨p, hp, e⟩ := tb
        subst e
        obtain ⟨more, hm⟩ := grown p hp
        rw [empty p hp] at z
        obtain rfl := Option.some.inj z
        have code := (PySem.W.codeHd_of_K KX (hd p hp)).tab (empty p hp)
        exact .inr (.inl ⟨code.isCodeTable, rfl, #[], more, rfl, by rw [Array.empty_append]; exact hm⟩)
      · exact .inl (stays b o tb z)
    · by_cases tb : isTab cs b
      · obtain ⟨p, hp, e⟩ := tb
        subst e
        obtain ⟨more, hm⟩ := grown p hp
        exact ⟨_, hm⟩
      · exact ⟨o, stays b o tb z⟩
/-- nothing but the script and the tables is told -/
def OnlyT (cs : List (Addr × Addr)) (H : Hp) : Prop := ∀ b, H b = none ∨ isTab cs b ∨ ∃ o xs, H b = some (.frz o (.lst xs))
theorem end_AT (KX : K.In s₁.heap) (hns : s₁.heap.Ns mainGlobals mg) (hb : s₁.heap.Ns builtinsNs mb)
    (hbb : ∀ y : Str, y ≠ "__name__" → mb y = bootBuiltins y) (hlim : s₁.heap.NoLimit) (hg : s₁.gens = #[])
    (bmain : ∃ (bm : Addr) (ob : Obj), mg "__builtins__" = some (.ref bm) ∧ bm ≠ builtinsNs ∧ s₁.heap.get? bm = some ob ∧ ob.cls = .type "module" ∧ ob.dict = some builtinsNs ∧ ob.data = .plain)
    (hobj : s₁.heap.get? a = some { cls := .type "list", data := .seq vs.toArray }) (hi : IntsAre vs ns) (hl : ns.length ≤ sizeLine) (hr : Room k callerA)
    (hd : ∀ p ∈ cs, PySem.W.codeHdIn K p.1 p.2 = true) (off : ∀ p ∈ cs, K.lookup p.2 = none) (empty : ∀ p ∈ cs, s₁.heap.get? p.2 = some emptyT)
    (F : ∀ b0 : Heap, K.In b0 → b0.Ns mainGlobals mg → (∀ p ∈ cs, LamX.TabB b0 mg p.1 p.2) → FnA P w K mg b0 CX k fa fd [x] sp)
    (hbind : ∀ (s : Shared) (u : Value), BindsTo s fd ⟨[u], []⟩ [(x, u)])
    (hsp : ∀ Hh : Hp, OnlyT cs Hh → (∀ p ∈ cs, Hh p.2 = some (.tbl #[])) → SqL K Hh a (ns.map V.int) → sp [.ref a] Hh (fun v _ => v = .bl true) fun _ _ _ => False)
    (hCX : ∀ Hh e s', CX [] Hh s₁ (fun _ _ _ => False) e s' → False) :
    codeAny (model P w) callerA (.call (.ref fa) ⟨[.ref a], []⟩) (fun r t => r = .ok (.ret (.bool true)) ∧ OldK s₁.heap t.heap ∧ t.os = s₁.os ∧ AllBare t.gens) s₁ := by
  have rv := vals_ints hi
  have nv := hi.length
  have dec : ∀ b, Decidable (isTab cs b) := fun b => Classical.propDecidable _
  have notA : ¬ isTab cs a := fun ⟨p, hp, e⟩ => by
    have z := empty p hp
    rw [e, hobj] at z
    have y : Data.seq vs.toArray _ = Data.fields #[] := congrArg Obj.data (Option.some.inj z)
    cases y
  let H0 : Hp := fun b => @ite _ (isTab cs b) (dec b) (some (.tbl #[])) none
  have on : ∀ b, isTab cs b → H0 b = some (.tbl #[]) := fun b h => if_pos h
  have no : ∀ b, ¬ isTab cs b → H0 b = none := fun b h => if_neg h
  have tabOk : ∀ (Hh : Hp) b, isTab cs b → ObjOk P w Hh s₁.heap b (.tbl #[]) := fun Hh b ⟨p, hp, e⟩ => by
    rw [← e]
    exact empty p hp
  by_cases q : ∃ o, K.lookup a = some o
  · obtain ⟨o, lk⟩ := q
    have z := KX a o lk
    rw [hobj] at z
    obtain rfl := Option.some.inj z
    have only : OnlyT cs H0 := fun b => by
      by_cases n : isTab cs b
      · exact .inr (.inl n)
      · exact .inl (no b n)
    refine from_heapT H0 KX hns hb hbb hlim hg bmain hobj hr hd off empty F hbind (fun b u y => ?_) only (fun p hp => on _ ⟨p, hp, rfl⟩) (hsp _ only (fun p hp => on _ ⟨p, hp, rfl⟩) (.inr ⟨_, vs.toArray, _, lk, rfl, rfl, rfl, ?_, ?_⟩)) (hCX _) (fun b y => ?_) fun y => absurd (no a notA) y
    · by_cases n : isTab cs b
      · rw [on b n] at y
        rw [← Option.some.inj y]
        exact tabOk _ b n
      · rw [no b n] at y
        cases y
    · rw [List.size_toArray, nv]; exact hl
    · simpa using rv
    · by_cases n : isTab cs b
      · exact .inr n
      · exact absurd (no b n) y
  · have lk : K.lookup a = none := by
      cases z : K.lookup a with
      | none => rfl
      | some o => exact absurd ⟨o, z⟩ q
    let Hh : Hp := upd H0 a (.frz { cls := .type "list", data := .seq vs.toArray } (.lst (ns.map V.int)))
    have at_a : Hh a = some (.frz { cls := .type "list", data := .seq vs.toArray } (.lst (ns.map V.int))) := upd_same
    have atT : ∀ p ∈ cs, Hh p.2 = some (.tbl #[]) := fun p hp => by
      show upd H0 a _ p.2 = _
      rw [upd_ne (fun e => notA ⟨p, hp, e⟩)]
      exact on _ ⟨p, hp, rfl⟩
    have atO : ∀ b, b ≠ a → Hh b = H0 b := fun b n => upd_ne n
    have only : OnlyT cs Hh := fun b => by
      by_cases n : b = a
      · exact .inr (.inr ⟨_, _, by rw [n]; exact at_a⟩)
      · by_cases m : isTab cs b
        · exact .inr (.inl m)
        · exact .inl (by rw [atO b n]; exact no b m)
    refine from_heapT Hh KX hns hb hbb hlim hg bmain hobj hr hd off empty F hbind (fun b u y => ?_) only atT (hsp _ only atT (.inl (.inr ⟨_, at_a⟩))) (hCX _) (fun b y => ?_) fun _ => lk
    · by_cases n : b = a
      · rw [n, at_a] at y
        obtain rfl := Option.some.inj y
        rw [n]
        exact ⟨hobj, by rw [List.length_map]; exact hl, vs, _, rv, hobj⟩
      · rw [atO b n] at y
        by_cases m : isTab cs b
        · rw [on b m] at y
          rw [← Option.some.inj y]
          exact tabOk _ b m
        · rw [no b m] at y
          cases y
    · by_cases n : b = a
      · exact .inl n
      · rw [atO b n] at y
        by_cases m : isTab cs b
        · exact .inr m
        · exact absurd (no b m) y
end
theorem walk_ofAT {l : PySem.W.OpenLaw} {n k : Nat} {q : Program} {loose : List Str} {XP : (Str → Option Value) → Heap → Prop} {YP : World → Heap → Prop} {d : DefRec} {CX : CXT} {x : Str}
    (hn : l.most = some n) (hn2 : n ≤ sizeLine) (hdf : d.params.defaults = []) (hr : Room k callerA)
    (F : ∀ (w : World) (mg : Str → Option Value) (fa : Addr) (h : Heap), YP w h → h.Ns mainGlobals mg → mg d.name = some (.ref fa) →
      ∃ (K : PySem.W.Frag) (fd : FuncData) (cs : List (Addr × Addr)) (sp : Sp), K.In h ∧ (∀ p ∈ cs, PySem.W.codeHdIn K p.1 p.2 = true) ∧ (∀ p ∈ cs, K.lookup p.2 = none) ∧ (∀ p ∈ cs, h.get? p.2 = some emptyT) ∧ (∀ (s : Shared) (u : Value), BindsTo s fd ⟨[u], []⟩ [(x, u)]) ∧
        (∀ (Hh : Hp) (a : Addr) (ns : List Int), ns.length ≤ n → OnlyT cs Hh → (∀ p ∈ cs, Hh p.2 = some (.tbl #[])) → SqL K Hh a (ns.map V.int) → sp [.ref a] Hh (fun v _ => v = .bl true) fun _ _ _ => False) ∧
        ∀ b0 : Heap, K.In b0 → b0.Ns mainGlobals mg → (∀ p ∈ cs, LamX.TabB b0 mg p.1 p.2) → FnA l.prog w K mg b0 CX k fa fd [x] sp)
    (hCX : ∀ (Hh : Hp) (s : Shared) (e : Value) (s' : Shared), CX [] Hh s (fun _ _ _ => False) e s' → False) :
    PySem.W.WalkO q loose XP YP l.row.toRowW d [] (fun f vs => PySem.call f vs) := by
  refine Att.attach_call hn hdf fun w s₀ s₁ mg mb fa o pm cd doc a vs ns G Y ho hd hcd hmg hobj hints hlen hg => ?_
  obtain ⟨K, fd, cs, sp, KX, h1, h2, h3, hb, hsp, hF⟩ := F w mg fa _ Y G.T.g hmg
  refine end_AT KX G.T.g G.T.b G.T.builtins G.T.nolimit hg G.T.bmain hobj hints (Nat.le_trans hlen hn2) hr h1 h2 h3 hF hb ?_ fun Hh e s' => hCX Hh s₁ e s'
  exact fun Hh hO hT hS => hsp Hh a ns hlen hO hT hS
def codeA (K : PySem.W.Frag) (f : Addr) : Addr := match K.lookup f with
  | some ⟨_, _, .func fd, _⟩ => (match fd.code with
    | .ref c => c
    | _ => 0)
  | _ => 0
/-- the code object of the def at f, its table -/
def cTA (K : PySem.W.Frag) (f : Addr) : Addr × Addr := (codeA K f, He.tabOf K (codeA K f))
def tabsQ (g : Addr → Option Obj) (tf : List (PySem.W.Frag → Addr)) (K : PySem.W.Frag) : Bool := tf.all fun p => PySem.W.codeHdIn K (cTA K (p K)).1 (cTA K (p K)).2 && (match g (cTA K (p K)).2 with
  | some o => He.emptyTab o
  | none => false)
def smB (K : PySem.W.Frag) : Bool := match K.lookup sysModules with
  | some o => decide (o.cls = .type "dict")
  | none => false
theorem smB_ok {K : PySem.W.Frag} (h : smB K = true) : SmK K := by
  unfold smB at h
  split at h
  · rename_i o e
    exact ⟨o, e, of_decide_eq_true h⟩
  · cases h
abbrev AlR : Type := He.AlD × Bool
structure SaysR (fa : List He.Fa) (fn : List He5.DefA) (tf : List (PySem.W.Frag → Addr)) (ex : PySem.W.Frag → Bool) (h : Heap) (K : PySem.W.Frag) : Prop where
  t : He5.SaysA fa fn K
  more : ex K = true
  hd : ∀ p ∈ tf, PySem.W.codeHdIn K (cTA K (p K)).1 (cTA K (p K)).2 = true
  out : ∀ p ∈ tf, K.lookup (cTA K (p K)).2 = none
  empty : ∀ p ∈ tf, h.get? (cTA K (p K)).2 = some emptyT
theorem fnP_okAT {P : Program} {w : World} {K : PySem.W.Frag} {mg : Str → Option Value} {base : Heap} {x qual : Str} {st : Stmt} {f : Addr} {fd : FuncData} {N ps : List Str} {k : Nat} {sp : Sp} {dvs : List V} (F : FnP K x qual st dvs f fd) (S : FnScope N ps (defScope st)) (len : ∀ vs H Q E, sp vs H Q E → vs.length = ps.length)
    (body : ∀ (A : Around) (outer : List Env) (s : Shared) (H : Hp) (vs : List V) (Q : VK) (E : XK), G0 (A.deeper (envOfC qual (defScope st) s.heap.objs.size f (.ref (codeA K f)))) → Room k (A.deeper (envOfC qual (defScope st) s.heap.objs.size f (.ref (codeA K f)))) → sp vs H Q E →
      ∃ t, PSs (cxOf CX0 P w K mg base N qual (defScope st) f (.ref (codeA K f)) A outer s H E).nox (defBody st) t ∧ t { nx := fun _ H' => Q .non H', rt := Q } (start N vs) H) :
    FnA P w K mg base CX0 (k + 1) f fd ps sp := by
  obtain ⟨oc, od, dV, kV, doc, pm, an, cdv, ct, osl, rfl, lk, hcd, _, _⟩ := F.ex
  obtain ⟨c, rfl⟩ := He.codeIn_ref hcd
  have ec : codeA K f = c := by
    unfold codeA
    rw [lk] <;> rfl
  refine ⟨len, fun A outer s H args us vs Q E g hr e0 hb r h => ?_⟩
  refine LamX.run_ofS lk hcd S hr e0 hb r (len _ _ _ _ h) fun hr2 => ?_
  rw [ec] at body
  obtain ⟨t, h1, q⟩ := body A outer s H vs Q E (g0_deeper g) hr2 h
  exact ⟨t, h1.nox, q⟩
end Q
namespace Q
open PySem PySem.Spec PyProof.Rows L2
theorem passX0 {X : Cx} {P : Program} {w : World} : Passes (L2.CX P w) X E0 := fun _ _ _ _ _ _ _ h => by
  obtain ⟨_, _, _, _, _, _, _, _, _, _, _, _, z⟩ := h
  exact z.elim
/-- an error of the class cls with f = v leaves a def that changes nothing -/
def RetX (G H : Hp) (cls : Addr) (f : Str) (v : V) (E : XK) : Prop := ∀ d H' G', Same H H' → Gh G' H' → Same G G' → (∀ a, H a ≠ none → G' a = G a) → G' d = some (.xd [(f, v)]) → E (.ref cls) (some d) H'
theorem retX_of {G H G' H' : Hp} {M : List Addr} {cls d : Addr} {f : Str} {v : V} {E : XK} (k : RetX G H cls f v E) (w : Wd ⟨H, G, [], []⟩ G' H' M) (hd : G' d = some (.xd [(f, v)])) : E (.ref cls) (some d) H' :=
  k d H' G' (fun a o h => w.kp a o (by simp) h) w.gh w.gr w.fr hd
theorem retX_use {e : En} {G H : Hp} {M : List Addr} {cls : Addr} {f : Str} {v : V} {E : XK} (w : Wd e G H M) (k : ∀ d G' H', Wd e G' H' M → Same G G' → Same H H' → G' d = some (.xd [(f, v)]) → E (.ref cls) (some d) H') : RetX G H cls f v E :=
  fun d H' G' s1 s2 s3 fr hd => ret_use (P := fun _ G' => G' d = some (.xd [(f, v)])) (Q := fun _ H' => E (.ref cls) (some d) H') w (fun _ G' H' w' a b p => k d G' H' w' a b p) .non H' G' s1 s2 s3 fr hd
/-- a right saying is made by the def that may refuse -/
theorem fault_none {Cn Cm Cs : Addr} {s : Str} {i : Int} {b : Bool} (r : Right s i) : sayFault Cn Cm Cs (.str s) (.int i) (.bl b) = none := by
  unfold sayFault
  rw [r.name, r.mom]
  rfl
theorem u_sayR {K : PySem.W.Frag} {C Cn Cm Cs : Addr} {e : En} {G H : Hp} {M : List Addr} {s : Str} {i : Int} {b : Bool} {Qv : VK} {E : XK} (w : Wd e G H M) (r : Right s i)
    (k : ∀ a G' H', Wd e G' H' M → Same G G' → Same H H' → SayAt C G' a s i b → Qv (.ref a) H') : MakeGo C (spSayX K C Cn Cm Cs) [.str s, .int i, .bl b] E H Qv :=
  u_sayX w (kd_str s) (kd_int i) (kd_bl b) (fun z e => by cases e; have := r.len; omega) (fun cls f v h => by rw [fault_none r] at h; cases h) fun s' i' b' e1 e2 e3 _ a G' H' w' s1 s2 h => by
    cases e1; cases e2; cases e3; exact k a G' H' w' s1 s2 h
/-- an instance is made by keywords -/
def MakeGoK (C : Addr) (sp : Sp) (gV : List V → List V → List V) (vs zs : List V) (E : XK) (H : Hp) (Q : VK) : Prop := ∀ x dx, H x = none → H dx = none → dx ≠ x → sp (gV (.ref x :: vs) zs) (upd (upd H dx (.own x)) x (.ins C dx [])) (fun v H2 => v = .non ∧ Q (.ref x) H2) E
theorem r_tMakeK {C : Addr} {n m : Nat} {sp : Sp} {gV : List V → List V → List V} {E : XK} {t tk : TA} {σ : L2.St} {H : Hp} {Q : VK} (q : t σ H fun vs H1 => tk σ H1 fun zs H2 => vs.length = n ∧ zs.length = m ∧ MakeGoK C sp gV vs zs E H2 Q) : tMakeK C n m sp gV E t tk σ H Q := q
/-- an odd value, told: its data, its kinds -/
structure Odd (K : PySem.W.Frag) (G : Hp) (v : V) (d : PyData) : Prop where
  dq : Dq K G v d
  kd : ∃ t, Kd K G v t
  sh : d.showable = true
  dp : d.depth ≤ 10
  sz : d.shown.length ≤ 1000
  st : ∀ s, v = .str s → s.length ≤ 1000
theorem Odd.same {K : PySem.W.Frag} {G G' : Hp} {v : V} {d : PyData} (h : Odd K G v d) (s : Same G G') : Odd K G' v d := ⟨same_dq s h.dq, h.kd.elim fun t k => ⟨t, k.same s⟩, h.sh, h.dp, h.sz, h.st⟩
end Q
namespace Q
open PySem PySem.Spec PyProof.Rows L2
section
variable {H : Hp} {Qv : VK} {σ : L2.St}
theorem r_dnewK (q : Lay 0 (.dK []) Qv H) : tDNewK σ H Qv := q.2
theorem r_rep {l : Addr} {k : Int} {xs : List V} (h : H l = some (.lst xs)) (h1 : -(2 ^ 63) ≤ k) (h2 : k < 2 ^ 63) (hz : xs.length * k.toNat ≤ sizeLine) (q : Lay 0 (.lst (List.replicate k.toNat xs).flatten) Qv H) : rRep (.ref l) (.int k) H Qv :=
  ⟨l, k, xs, rfl, rfl, h, h1, h2, hz, q.2⟩
theorem r_neg {a : Int} (q : Qv (.int (-a)) H) : rU (fun i => .int (-i)) (.int a) H Qv := ⟨a, rfl, q⟩
end
section
variable {K : PySem.W.Frag} {G : Hp}
theorem odd_str {z : Str} (h1 : (PyData.str z).shown.length ≤ 1000) (h2 : z.length ≤ 1000) : Odd K G (.str z) (.str z) := ⟨.str z, ⟨_, kd_str z⟩, rfl, by simp [PyData.depth], h1, fun s e => by cases e; exact h2⟩
theorem odd_int {i : Int} (h1 : (PyData.int i).shown.length ≤ 1000) (h2 : (PyData.int i).showable = true) : Odd K G (.int i) (.int i) := ⟨.int i, ⟨_, kd_int i⟩, h2, by simp [PyData.depth], h1, fun s e => by cases e⟩
theorem odd_bl {b : Bool} : Odd K G (.bl b) (.bool b) := ⟨.bl b, ⟨_, kd_bl b⟩, by cases b <;> rfl, by simp [PyData.depth], by cases b <;> decide +kernel, fun s e => by cases e⟩
end
end Q
namespace Q
open PySem PySem.Spec PyProof.Rows L2
theorem shownAll_map : ∀ ds : List PyData, PyData.shownAll ds = ds.map PyData.shown
  | [] => by simp [PyData.shownAll]
  | d :: r => by simp [PyData.shownAll, shownAll_map r]
theorem sh_list (ds : List PyData) {m : Nat} (h : (ds.map fun d => d.shown.length).sum ≤ m) : (PyData.list ds).shown.length ≤ m + 2 * ds.length + 3 := by
  have z := listText_len_le (PyData.shownAll ds)
  rw [shownAll_map, List.map_map, List.length_map] at z
  have e : (PyData.list ds).shown = listText (ds.map PyData.shown) := by rw [← shownAll_map]; simp [PyData.shown]
  rw [e]
  exact Nat.le_trans z (by have h' : (List.map ((fun x : Str => x.length) ∘ PyData.shown) ds).sum ≤ m := h; omega)
theorem sh_tup (ds : List PyData) {m : Nat} (h : (ds.map fun d => d.shown.length).sum ≤ m) : (PyData.tuple ds).shown.length ≤ m + 2 * ds.length + 3 := by
  have z := tupleText_len_le (PyData.shownAll ds)
  rw [shownAll_map, List.map_map, List.length_map] at z
  have e : (PyData.tuple ds).shown = tupleText (ds.map PyData.shown) := by rw [← shownAll_map]; simp [PyData.shown]
  rw [e]
  exact Nat.le_trans z (by have h' : (List.map ((fun x : Str => x.length) ∘ PyData.shown) ds).sum ≤ m := h; omega)
theorem sh_str {z : Str} {i : Int} (r : Right z i) : (PyData.str z).shown.length ≤ 82 := by
  have h := nmOk_str r.1
  unfold PyData.strOk at h
  rw [Array.all_eq_true_iff_forall_mem] at h
  have b := StrLaws.reprText_len z fun c hc => by
    have y := of_decide_eq_true (h c (Array.mem_toList_iff.mp hc))
    exact Nat.lt_trans y (by decide)
  have e : (PyData.str z).shown = reprText z := by simp [PyData.shown]
  have l := r.len
  rw [e]
  omega
end Q
namespace Q
open PySem PySem.Spec PyProof.Rows L2
inductive Dues (G : Hp) : List V → List (Str × V) → Prop
  | nil : Dues G [] []
  | cons {l : Addr} {s : Str} {u : V} {xs : List V} {ks : List (Str × V)} (h : G l = some (.tup [.str s, u])) (r : Dues G xs ks) : Dues G (.ref l :: xs) ((s, u) :: ks)
theorem Dues.same {G G' : Hp} {xs : List V} {ks : List (Str × V)} (h : Dues G xs ks) (s : Same G G') : Dues G' xs ks := by
  induction h with
  | nil => exact .nil
  | cons h _ ih => exact .cons (s _ _ h) ih
theorem Dues.snoc {G : Hp} {xs : List V} {ks : List (Str × V)} {l : Addr} {s : Str} {u : V} (r : Dues G xs ks) (h : G l = some (.tup [.str s, u])) : Dues G (xs ++ [.ref l]) (ks ++ [(s, u)]) := by
  induction r with
  | nil => exact .cons h .nil
  | cons h2 _ ih => exact .cons h2 ih
theorem Dues.len {G : Hp} {xs : List V} {ks : List (Str × V)} (r : Dues G xs ks) : xs.length = ks.length := by
  induction r with
  | nil => rfl
  | cons _ _ ih => simp [ih]
theorem Dues.get {G : Hp} {xs : List V} {ks : List (Str × V)} (r : Dues G xs ks) : ∀ {j : Nat} {x : V}, xs[j]? = some x → ∃ l s u, x = .ref l ∧ ks[j]? = some (s, u) ∧ G l = some (.tup [.str s, u]) := by
  induction r with
  | nil => intro j x h; simp at h
  | cons h2 _ ih =>
    intro j x h
    cases j with
    | zero => exact ⟨_, _, _, (Option.some.inj h).symm, rfl, h2⟩
    | succ j => exact ih (by simpa using h)
/-- what a law expects to be shown: None, or the first of the due -/
structure DueD (K : PySem.W.Frag) (G : Hp) (o : Option (Str × V)) (D : PyData) : Prop where
  non : o = none → D = .none
  som : ∀ s u, o = some (s, u) → ∃ d, Dq K G u d ∧ D = .tuple [.str s, d]
  sh : D.showable = true
  dp : D.depth ≤ 60
  sz : D.shown.length ≤ sizeLine
theorem DueD.same {K : PySem.W.Frag} {G G' : Hp} {o : Option (Str × V)} {D : PyData} (h : DueD K G o D) (s : Same G G') : DueD K G' o D :=
  ⟨h.non, fun a u e => (h.som a u e).elim fun d x => ⟨d, same_dq s x.1, x.2⟩, h.sh, h.dp, h.sz⟩
theorem PenAt.ext {p c : Addr} {n : Nat} {H H1 : Hp} (P : PenAt p c n H) (x : LamX.ExtN H H1) : PenAt p c n H1 := by
  obtain ⟨a, g, h1, h2, h3⟩ := P
  exact ⟨a, g, x _ _ h1 (fun ps z => by cases z), h2, h3⟩
theorem gh_of {c t : Addr} {H : Hp} (only : OnlyT [(c, t)] H) : Gh (L2.del H t) H := by
  have off : ∀ a o, L2.del H t a = some o → a ≠ t := fun a o z y => by
    rw [y, del_same] at z
    cases z
  refine ⟨fun a o z => ?_, fun a o z => ?_⟩
  · rw [del_ne (off a o z)] at z
    exact z
  · have n := off a o z
    rw [del_ne n] at z
    rcases only a with y | ⟨p, hp, y⟩ | ⟨u, xs, y⟩
    · rw [y] at z; cases z
    · rw [List.mem_singleton.mp hp] at y
      exact absurd y.symm n
    · rw [y] at z
      cases z
      intro ps q
      cases q
theorem sqL_of {K : PySem.W.Frag} {H : Hp} {a t : Addr} {xs : List V} (h : SqL K H a xs) (ht : H t = some (.tbl #[])) : SqL K (L2.del H t) a xs := by
  have n : (∃ o, H a = some o ∧ ∀ ps, o ≠ .tbl ps) → L2.del H t a = H a := fun ⟨o, z, no⟩ => by
    refine del_ne (fun y => ?_)
    rw [y, ht] at z
    exact no _ (Option.some.inj z).symm
  rcases h with (h | ⟨o, h⟩) | h
  · exact .inl (.inl ((n ⟨_, h, fun ps z => by cases z⟩).trans h))
  · exact .inl (.inr ⟨o, (n ⟨_, h, fun ps z => by cases z⟩).trans h⟩)
  · exact .inr h
theorem r_reprQ {K : PySem.W.Frag} {H : Hp} {x : V} {d : PyData} {Qv : VK} (h : Dq K H x d) (h1 : d.showable = true) (h2 : d.depth ≤ 60) (h3 : d.shown.length ≤ sizeLine) (q : Qv (.str d.shown) H) : rReprQ K [x] H Qv := ⟨x, d, rfl, h, h1, h2, h3, q⟩
end Q
namespace Q
open PySem PySem.Spec PyProof.Rows L2
def oexObj (K : PySem.W.Frag) (D : Addr) : Bool := match K.lookup D with
  | some ⟨.type "type", _, .cls r, slots⟩ => (match r.mro, slots.toList with
    | .ref E :: tail, [_, _, _, _, some (.builtin id), _] => decide (E = D) && (decide (id = "ValueError.__new__") && (!r.hasDel && (r.hasDict && PySem.HandSPX.refsVE tail)))
    | _, _ => false)
  | _ => false
def oexB (K : PySem.W.Frag) (D : Addr) : Bool := oexObj K D && (He.eqO (PySem.W.findIn K (.ref D) "__setattr__") (some (some (.builtin "object.__setattr__"))) &&
  (decide (PySem.W.subIn K (.ref D) (.type "BaseException") = some true) && (decide (PySem.W.typeIn K (.ref D) = some (.type "type")) && PySem.W.keepIn K (.ref D))))
theorem oexB_ok {K : PySem.W.Frag} {D : Addr} (h : oexB K D = true) : OexC K D := by
  obtain ⟨h0, h⟩ := He.ba h
  obtain ⟨h1, h⟩ := He.ba h
  obtain ⟨h2, h⟩ := He.ba h
  obtain ⟨h3, h4⟩ := He.ba h
  refine ⟨?_, He.eqO_ok h1, of_decide_eq_true h2, of_decide_eq_true h3, h4⟩
  clear h h1 h2 h3 h4
  unfold oexObj at h0
  split at h0
  · rename_i od r slots lk
    split at h0
    · rename_i E tail s0 s1 s2 s3 id s5 em es
      obtain ⟨g1, g⟩ := He.ba h0
      obtain ⟨g2, g⟩ := He.ba g
      obtain ⟨g3, g⟩ := He.ba g
      obtain ⟨g4, g5⟩ := He.ba g
      have q1 := of_decide_eq_true g1
      have q2 := of_decide_eq_true g2
      subst q1 q2
      cases r
      simp only [Bool.not_eq_true'] at g3
      dsimp only at em g3 g4
      subst em g3 g4
      have sl : slots = #[s0, s1, s2, s3, some (.builtin "ValueError.__new__"), s5] := Array.toList_inj.mp es
      subst sl
      exact ⟨_, _, _, _, _, _, _, _, _, _, _, _, _, _, _, lk, g5⟩
    · cases h0
  · cases h0
def hdB (K : PySem.W.Frag) (D : Addr) (f : Str) : Bool := xfB K D && (He.eqO (PySem.W.findIn K (.ref D) "__class__") (some (some (.builtin "object.__class__"))) && (He.eqO (PySem.W.findIn K (.ref D) f) (some none) &&
  decide ((PySem.W.specialIn K (.builtin "object.__class__") "__get__" = some (some (.builtin "getset_descriptor.__get__")) ∧ PySem.W.takesIn K (.builtin "object.__class__") = some true) ∧ PySem.W.mroIn K D (.type "object") = some true ∧ PySem.W.kitOne K (.ref D) (.type "ValueError") = some true)))
theorem hdB_ok {K : PySem.W.Frag} {D : Addr} {f : Str} (h : hdB K D f = true) : HdC K D f := by
  obtain ⟨h0, h⟩ := He.ba h
  obtain ⟨h1, h⟩ := He.ba h
  obtain ⟨h2, h3⟩ := He.ba h
  obtain ⟨⟨a, b⟩, c, d⟩ := of_decide_eq_true h3
  have x := xfB_ok h0
  exact ⟨x, ⟨x.ga, x.gg, x.exC, x.hdC, He.eqO_ok h1, a, b, c⟩, He.eqO_ok h2, d⟩
theorem isFn_ty {K : PySem.W.Frag} {v : Value} (h : PySem.W.isFn K v = true) : PySem.W.typeIn K v = some (.type "function") := by
  unfold PySem.W.isFn at h
  exact beq_iff_eq.mp h
end Q
namespace Q
open PySem PySem.Spec PyProof.Rows L2
end Q
namespace Q
open PySem PySem.Spec PyProof.Rows L2
end Q
namespace Q
open PySem PySem.Spec PyProof.Rows L2
end Q
namespace Q
open PySem PySem.Spec PyProof.Rows L2
def twoT (p : Str × Str) : PyData := .tuple [.str p.1, .str p.2]
inductive PairsAt (H : Hp) : List V → List (Str × Str) → Prop
  | nil : PairsAt H [] []
  | cons {b : Addr} {p : Str × Str} {vs : List V} {ds : List (Str × Str)} (h : H b = some (.tup [.str p.1, .str p.2])) (r : PairsAt H vs ds) : PairsAt H (.ref b :: vs) (p :: ds)
theorem PairsAt.same {H H' : Hp} {vs : List V} {ds : List (Str × Str)} (r : PairsAt H vs ds) (s : Same H H') : PairsAt H' vs ds := by
  induction r with
  | nil => exact .nil
  | cons h _ ih => exact .cons (s _ _ h) ih
theorem PairsAt.snoc {H : Hp} {vs : List V} {ds : List (Str × Str)} {b : Addr} {p : Str × Str} (r : PairsAt H vs ds) (h : H b = some (.tup [.str p.1, .str p.2])) : PairsAt H (vs ++ [.ref b]) (ds ++ [p]) := by
  induction r with
  | nil => exact .cons h .nil
  | cons h2 _ ih => exact .cons h2 ih
theorem PairsAt.at_ {H : Hp} {vs : List V} {ds : List (Str × Str)} (r : PairsAt H vs ds) : ∃ ts : List (Addr × Str × Str), vs = ts.map (fun t => V.ref t.1) ∧ ds = ts.map (·.2) ∧ ∀ t ∈ ts, H t.1 = some (.tup [.str t.2.1, .str t.2.2]) := by
  induction r with
  | nil => exact ⟨[], rfl, rfl, fun t h => by cases h⟩
  | cons h _ ih =>
    rename_i b p vs ds _
    obtain ⟨ts, e1, e2, h2⟩ := ih
    refine ⟨(b, p) :: ts, by rw [e1]; rfl, by rw [e2]; rfl, fun t ht => ?_⟩
    rcases List.mem_cons.mp ht with e | ht
    · rw [e]; exact h
    · exact h2 t ht
theorem sorted_one {α : Type} {le : α → α → Prop} (anti : ∀ a b, le a b → le b a → a = b) : ∀ {xs ys : List α}, xs.Perm ys → xs.Pairwise le → ys.Pairwise le → xs = ys
  | [], ys, h, _, _ => (List.nil_perm.mp h).symm
  | x :: xs, [], h, _, _ => (List.perm_nil.mp h)
  | x :: xs, y :: ys, h, h1, h2 => by
    obtain ⟨a1, a2⟩ := List.pairwise_cons.mp h1
    obtain ⟨b1, b2⟩ := List.pairwise_cons.mp h2
    have e : x = y := by
      rcases List.mem_cons.mp (h.mem_iff.mp List.mem_cons_self) with e | hx
      · exact e
      · rcases List.mem_cons.mp (h.mem_iff.mpr List.mem_cons_self) with e | hy
        · exact e.symm
        · exact anti _ _ (a1 _ hy) (b1 _ hx)
    subst e
    rw [sorted_one anti (List.Perm.cons_inv h) a2 b2]
theorem PairsAt.dq {K : PySem.W.Frag} {H : Hp} {vs : List V} {ds : List (Str × Str)} (r : PairsAt H vs ds) : DqAll K H vs (ds.map twoT) := by
  induction r with
  | nil => exact .nil
  | cons h _ ih => exact .cons (.tup (SqT.of h) (.cons (.str _) (.cons (.str _) .nil))) ih
def NmKvs (kvs : List (Key × V)) : Prop := ∀ kv ∈ kvs, ∃ s t, kv = (.inr s, .str t) ∧ nmOk s = true ∧ nmOk t = true
theorem NmKvs.put {kvs : List (Key × V)} {s t : Str} (h : NmKvs kvs) (hs : nmOk s = true) (ht : nmOk t = true) : NmKvs (putK kvs (.inr s) (.str t)) := by
  intro kv hkv
  unfold putK at hkv
  split at hkv
  · obtain ⟨kw, h1, h2⟩ := List.mem_map.mp hkv
    obtain ⟨a, b, rfl, ha, hb⟩ := h kw h1
    by_cases e : (Sum.inr a : Key) = .inr s
    · rw [if_pos e] at h2
      exact ⟨a, t, h2.symm, ha, ht⟩
    · rw [if_neg e] at h2
      exact ⟨a, b, h2.symm, ha, hb⟩
  · rcases List.mem_append.mp hkv with h1 | h1
    · exact h kv h1
    · exact ⟨s, t, List.mem_singleton.mp h1, hs, ht⟩
theorem NmKvs.val {kvs : List (Key × V)} (h : NmKvs kvs) (k : Key) : valV kvs k = none ∨ ∃ t, valV kvs k = some (.str t) ∧ nmOk t = true := by
  unfold valV
  cases e : kvs.find? fun kv => decide (kv.1 = k) with
  | none => exact .inl rfl
  | some kv =>
    obtain ⟨a, b, rfl, _, hb⟩ := h kv (List.mem_of_find?_eq_some e)
    exact .inr ⟨b, rfl, hb⟩
theorem NmKvs.get {kvs : List (Key × V)} (h : NmKvs kvs) {i : Nat} {k : Key} {v : V} (e : kvs[i]? = some (k, v)) : ∃ s t, k = .inr s ∧ nmOk s = true ∧ valV kvs k = some (.str t) ∧ nmOk t = true := by
  have m := List.mem_of_getElem? e
  obtain ⟨s, t, e1, hs, _⟩ := h _ m
  cases e1
  rcases h.val (.inr s) with z | ⟨y, z, hy⟩
  · have a := valV_any (.inr s : Key) kvs
    rw [z] at a
    have b : (kvs.any fun kv => decide (kv.1 = (.inr s : Key))) = true := List.any_eq_true.mpr ⟨_, m, by simp⟩
    rw [b] at a
    cases a
  · exact ⟨s, y, rfl, hs, z, hy⟩
section
variable {H : Hp} {Qv : VK} {σ : L2.St}
def rStrS : List V → Hp → VK → Prop := fun xs H Q => ∃ a, xs = [.str a] ∧ Q (.str a) H
theorem q_strS {X : Cx} : CallR X (.type "str") rStrS := SkE.call_str_str
theorem r_strS {a : Str} (q : Qv (.str a) H) : rStrS [.str a] H Qv := ⟨a, rfl, q⟩
/-- a dict that will be changed -/
def tDNewM : TE := tDNewK
theorem pe_dnewM {X : Cx} {pos : Pos} : PE X (.Dict [] [] pos) tDNewM := pe_dnewK
theorem r_dnewM (q : LayM 0 (.dK []) Qv H) : tDNewM σ H Qv := q.2
theorem r_sDPut {td ty tv : TE} {D : Ends} (q : tv σ H fun v H1 => td σ H1 fun x H2 => ty σ H2 fun y H3 => ∃ a H4, x = .ref a ∧ DPut H3 a y v H4 ∧ D.nx σ H4) : sDPut td ty tv D σ H := q
theorem r_tDGet {td ty : TE} (q : td σ H fun x H1 => ty σ H1 fun y H2 => ∃ a v, x = .ref a ∧ DGet H2 a y (some v) ∧ Qv v H2) : tDGet td ty σ H Qv := q
theorem r_iKeys {td : TE} {R : It → Hp → Prop} (q : td σ H fun x H1 => ∃ d o, x = .ref d ∧ ((∃ kvs, H1 d = some (.frz o (.dK kvs)) ∧ R (Itk d o kvs) H1) ∨ ∃ kvs, H1 d = some (.frz o (.dT kvs)) ∧ R (Itkt d o kvs) H1)) : iKeys td σ H R := q
theorem r_iKeysR {R : Addr → Obj → List (Key × V) → Prop} {S : Addr → Obj → List (List Key × V) → Prop} {d : Addr} {o : Obj} {kvs : List (Key × V)} (h : H d = some (.frz o (.dK kvs))) (q : R d o kvs) :
    ∃ d' o', V.ref d = .ref d' ∧ ((∃ kvs, H d' = some (.frz o' (.dK kvs)) ∧ R d' o' kvs) ∨ ∃ kvs, H d' = some (.frz o' (.dT kvs)) ∧ S d' o' kvs) := ⟨d, o, rfl, .inl ⟨kvs, h, q⟩⟩
theorem r_tDGet2 {td ty tx : TE} (q : td σ H fun x H1 => ∃ a, x = .ref a ∧ IsD H1 a ∧ ty σ H1 fun y H2 => tx σ H2 fun z H3 => ∃ o, DGet H3 a y o ∧ Qv (o.getD z) H3) : tDGet2 td ty tx σ H Qv := q
end
/-- a, b = x, y -/
def ParK (i j : Nat) (vs : List V) (σ : L2.St) (N : L2.St → Hp → Prop) (H : Hp) : Prop := ∃ v w, vs = [v, w] ∧ N ((σ.set i (some v)).set j (some w)) H
theorem r_par {i j : Nat} {ta : TA} {D : Ends} {σ : L2.St} {H : Hp} (q : ta σ H fun vs H1 => ParK i j vs σ D.nx H1) : tPar i j ta D σ H := q
theorem r_parK {i j : Nat} {v w : V} {σ : L2.St} {N : L2.St → Hp → Prop} {H : Hp} (q : N ((σ.set i (some v)).set j (some w)) H) : ParK i j [v, w] σ N H := ⟨v, w, rfl, q⟩
theorem r_dputS {e : En} {G H : Hp} {M : List Addr} {d : Addr} {kvs : List (Key × V)} {s : Str} {v : V} {N : Hp → Prop} (w : Wd e G H M) (hm : d ∈ M) (h : H d = some (.dK kvs)) (hl : kvs.length < sizeLine)
    (q : ∀ H', Wd e G H' M → H' d = some (.dK (putK kvs (.inr s) v)) → But d H H' → N H') : ∃ a H4, V.ref d = .ref a ∧ DPut H a (.str s) v H4 ∧ N H4 :=
  ⟨d, _, rfl, DPut.k (k := .inr s) h hl, q _ (wd_mut w hm) upd_same but_upd⟩
theorem DGet.frz {H : Hp} {a : Addr} {od : Obj} {kvs : List (Key × V)} {k : Key} {o : Option V} (e : H a = some (.frz od (.dK kvs))) (h : valV kvs k = o) : DGet H a (kV k) o := .inl ⟨kvs, k, .inr ⟨od, e⟩, rfl, h.symm⟩
end Q
namespace Q
open PySem PySem.Spec PyProof.Rows L2
/-- what == asks of the class of a saying -/
def eqS (K : PySem.W.Frag) (C : Addr) : Bool := decide ((PySem.W.specialIn K (.builtin "object.__class__") "__get__" = some (some (.builtin "getset_descriptor.__get__")) ∧ PySem.W.takesIn K (.builtin "object.__class__") = some true ∧ PySem.W.mroIn K C (.type "object") = some true) ∧
  (PySem.W.kitOne K (.ref C) (.ref C) = some true ∧ ∀ n ∈ ["NoneType", "int", "bool", "str", "list", "tuple", "dict"], PySem.W.kitOne K (.type n) (.ref C) = some false) ∧
  (PySem.W.notFirst K C (.ref C) = true ∧ ∀ n ∈ ["NoneType", "int", "bool", "str", "list", "tuple", "dict"], PySem.W.notFirst K C (.type n) = true))
/-- a law begins: the script told, its own table to grow -/
theorem law_start {K : PySem.W.Frag} {H : Hp} {c pT a : Addr} {xs : List V} (q : Str) (only : OnlyT [(c, pT)] H) (ht : H pT = some (.tbl #[])) (ha : SqL K H a xs) : ∃ (en : En) (G0 : Hp), Wd en G0 H [] ∧ SqL K G0 a xs ∧ en.T = [(pT, q)] ∧
    (∀ a, en.H0 a ≠ none → (∃ q, (a, q) ∈ en.T) ∨ (a ∉ en.P0 ∧ ∀ o, en.H0 a = some o → NoT o)) ∧ ∀ p ∈ en.T, p.1 ∈ en.P0 := by
  have sG := gh_of only
  refine ⟨⟨H, L2.del H pT, [pT], [(pT, q)]⟩, L2.del H pT, wd_startT sG (fun a h => by simp at h) List.nodup_nil (fun a h => by simp at h) (fun p hp => by rw [List.mem_singleton.mp hp]; exact LamX.TabS.nil ht), sqL_of ha ht, rfl, fun a hn => ?_, fun p hp => ?_⟩
  · by_cases e : a = pT
    · exact .inl ⟨_, by rw [e]; exact List.mem_singleton.mpr rfl⟩
    · refine .inr ⟨by simpa using e, fun o ho => sG.2 a o ?_⟩
      rw [del_ne e]
      exact ho
  · rw [List.mem_singleton.mp hp]
    exact List.mem_singleton.mpr rfl
end Q
namespace Q
open PySem PySem.Spec PyProof.Rows L2
section
variable {P : Program} {w : World} {A : Around} {E : Value → Shared → Prop} {s : Shared}
/-- an object is made by its class's own maker, then filled -/
theorem made_by {T ni ii : String} {as : List Value} {Q Q1 : Value → Shared → Prop} (ft : TypeCalled T ni ii) (ck : checkTypeCall T ⟨as, []⟩ = pure ()) (mk : codeAny (model P w) A.in1 (.call (.builtin ni) ⟨.type T :: as, []⟩) (wants Q1 E) s)
    (nx : ∀ o t, Q1 o t → t.TypeIs o T ∧ codeAny (model P w) A.in1 (.call (.builtin ii) ⟨o :: as, []⟩) (wants (fun r u => r = .none ∧ Q o u) E) t) : wpAny (model P w) A (call (.type T) as) Q E s := by
  obtain ⟨c0, t0, mr⟩ := ft.mro
  have x1 := ft.notType; have x2 := ft.canCreate
  have x3 := ft.made; have x4 := ft.sub
  refine wpAny_call (codeAny_of_tree (?_ : wpAny _ _ (callAny (.type T) ⟨as, []⟩) _ _ _))
  refine wpAny_pure (And.intro (Code.quiet_builtin _ (by decide +kernel)) (codeAny_builtin PySem.F.entry_type_call ?_))
  rw [Around.under_plain (A := A) (weight_type_call_type T as []) rfl]
  repeat (any_goals (first | assumption | wp_step))
  refine codeAny_mono mk fun r t h => ?_
  match r, h with
  | .error e, h => exact h
  | .ok (.ret o), h =>
    obtain ⟨k1, k2⟩ := nx o t h
    have x5 := ft.init.lookup; have x6 := ft.init.bind o
    repeat (any_goals (first | assumption | wp_step))
    refine codeAny_mono k2 fun r2 u h2 => ?_
    match r2, h2 with
    | .error e, h2 => exact h2
    | .ok (.ret v), h2 =>
      obtain ⟨rfl, q⟩ := h2
      repeat (any_goals (first | assumption | wp_step))
    | .ok .next, h2 => exact h2.elim
    | .ok .brk, h2 => exact h2.elim
    | .ok .cont, h2 => exact h2.elim
  | .ok .next, h => exact h.elim
  | .ok .brk, h => exact h.elim
  | .ok .cont, h => exact h.elim
abbrev newS (w : World) : Obj := { cls := .type "set", dict := none, data := .set #[] 0 (.fresh 0 0 (!w.params.followText "set-order")) }
/-- what is left behind the making -/
def MadeS (w : World) (s : Shared) (ns : List Int) (t : Shared) : Prop := ∃ (g : Heap) (k c : Nat), t = { s with heap := g, toks := k } ∧ SetR w g s.heap.objs.size (fun j => decide (j ∈ ns)) c ∧ c ≤ ns.length ∧ ∀ b o, s.heap.get? b = some o → g.get? b = some o
theorem set_fill {l : Addr} {its : Array Value} {ns : List Int} {R : Result → Shared → Prop} (nh : A.handled = none) (hl : s.heap.IsList l its) (hi : IntsAre its.toList ns) (hb : ns.length + 1 < scanBound) (hR : ∀ t, MadeS w s ns t → R (.ok (.ret .none)) t) :
    wpAny (model P w) A.in1 (Builtin.«set.__init__» ⟨[.ref s.heap.objs.size, .ref l], []⟩) (fun fin t => match fin with | .done f => R (.ok f) t | .again c' => c'.quiet = true ∧ codeAny (model P w) A c' R t) (fun e t => R (.error e) t) { s with heap := s.heap.push (newS w) } := by
  have sz : its.size = ns.length := by
    have q := IntsAre.length hi
    rwa [Array.length_toList] at q
  have z0 : (s.heap.push (newS w)).get? s.heap.objs.size = some (newS w) := Heap.get?_push_size _ rfl
  have tS : Shared.TypeIs { s with heap := s.heap.push (newS w) } (.ref s.heap.objs.size) "set" := ⟨newS w, z0, rfl⟩
  have ll : l < s.heap.objs.size := by obtain ⟨_, e, _⟩ := id hl; exact Heap.lt_size e
  have l1 : (s.heap.push (newS w)).IsList l its := hl.push _
  obtain ⟨ol, e1, e2, nl, e3⟩ := id l1
  have y1 := PySem.F.sub_list_set; have y2 := PySem.F.sub_list_frozenset
  have y3 : (Value.type "list" == Value.type "dict") = false := by decide
  have tL : Shared.TypeIs { s with heap := s.heap.push (newS w) } (.ref l) "list" := ⟨ol, e1, e2⟩
  unfold Builtin.«set.__init__» noKeywords Builtin.Frozenset.updateFrom
  generalize hp : pyIter = PI
  wp_walk
  subst hp
  refine wpAny_pyIter_list l1 (wpAny_bind (wpAny_runValue ?_))
  have n3 : A.in1.in1.handled = none := by simp [nh]
  have zs : (s.heap.push (newS w)).objs.size = s.heap.objs.size + 1 := Heap.size_push ..
  have lI : l ≠ (s.heap.push (newS w)).objs.size := by
    rw [zs]
    exact Nat.ne_of_lt (Nat.lt_succ_of_lt ll)
  have sf : s.heap.objs.size ∉ [(s.heap.push (newS w)).objs.size, l] := by
    rw [zs]
    intro m
    rcases List.mem_cons.mp m with m | m
    · exact Nat.ne_of_lt (Nat.lt_succ_self _) m
    · exact Nat.ne_of_gt ll (List.mem_singleton.mp m)
  have z1 : ((s.heap.push (newS w)).push { cls := .type "list_iterator", data := .fields #[.ref l, .int 0 0] }).get? s.heap.objs.size = some (newS w) := Heap.get?_push_of_some _ z0
  have val : ∀ (i : Nat) (v : Value), its[i]? = some v → ∃ k t, ns[i]? = some k ∧ v = .int k t := fun i v hv => by
    have hin : i < ns.length := by
      have := (Array.getElem?_eq_some_iff.mp hv).1
      omega
    obtain ⟨t, e⟩ := PyProof.Rows.IntsAre.int_at hi i v (by rw [Array.getElem?_toList, hv])
    rw [List.getD_eq_getElem?_getD, List.getElem?_eq_getElem hin] at e
    exact ⟨ns[i], t, List.getElem?_eq_getElem hin, e⟩
  refine set_update_ints ((Walks.list n3 _ l lI its).toS) s.heap.objs.size sf ns sz hb val its.size 0 _ ?bk (Nat.zero_le _) ?bs ?b0 ?bR
  case bk => omega
  case bs => exact ⟨⟨_, Heap.get?_push_size _ rfl, rfl, rfl⟩, l1.push _⟩
  case b0 => exact ⟨0, Nat.le_refl 0, setR_new_at z1⟩
  rintro ⟨g, gn, dr, tk, os⟩ c mv hc hS
  obtain rfl : gn = s.gens := mv.gens
  obtain rfl : dr = s.drawn := mv.drawn
  obtain rfl : os = s.os := mv.os
  refine wpAny_pure (wpAny_pure (hR _ ⟨g, tk, c, rfl, hS, by omega, fun b o e => ?_⟩))
  have b0 := Heap.lt_size e
  refine mv.heap b o (fun m => ?_) (Heap.get?_push_of_some _ (Heap.get?_push_of_some _ e))
  rcases List.mem_cons.mp m with m | m
  · exact Nat.ne_of_lt b0 m
  · exact Nat.ne_of_lt (Nat.lt_succ_of_lt b0) ((List.mem_singleton.mp m).trans zs)
theorem set_lst {l : Addr} {its : Array Value} {ns : List Int} {Q : Value → Shared → Prop} (nh : A.handled = none) (hl : s.heap.IsList l its) (hi : IntsAre its.toList ns) (hb : ns.length + 1 < scanBound)
    (hQ : ∀ t, MadeS w s ns t → Q (.ref s.heap.objs.size) t) : wpAny (model P w) A (call (.type "set") [.ref l]) Q E s := by
  refine made_by PySem.F.called_set (PySem.F.typeCall_set_1 (.ref l)) (Q1 := fun o t => o = .ref s.heap.objs.size ∧ t = { s with heap := s.heap.push (newS w) }) (code_set_led1 (.ref l) ⟨rfl, rfl⟩) ?_
  rintro _ _ ⟨rfl, rfl⟩
  have tS : Shared.TypeIs { s with heap := s.heap.push (newS w) } (.ref s.heap.objs.size) "set" := ⟨newS w, Heap.get?_push_size _ rfl, rfl⟩
  exact ⟨tS, codeAny_call_builtin PySem.F.called_set.init.plain PySem.F.entry_set_init (check_set_init_1 tS (set_fill (A := A.in1) nh hl hi hb fun t m => ⟨rfl, hQ t m⟩))⟩
end
/-- set(l), l a list of ints -/
def rSetL (K : PySem.W.Frag) (w : World) : List V → Hp → VK → Prop := fun xs H Q => ∃ (l : Addr) (ns : List Int), xs = [.ref l] ∧ SqL K H l (ns.map V.int) ∧ ns.length ≤ 1000 ∧ ∀ n a, n ≤ ns.length → H a = none → Q (.ref a) (upd H a (SetO w a (fun j => decide (j ∈ ns)) n))
theorem cr_setL {X : Cx} (hc : X.calm = true) : CallR X (.type "set") (rSetL X.K X.w) := by
  intro pins s σ H xs us Q I r h
  obtain ⟨l, ns, rfl, hs, hn, q⟩ := h
  obtain ⟨its, rv, hli, _⟩ := I.list hs
  rw [Vals.ref1 r]
  have hi := ints_of_vals rv
  refine set_lst (I.ok.hd hc) hli.isList (by simpa using hi) (Nat.lt_of_le_of_lt (Nat.add_le_add_right hn 1) (by decide)) fun t m => ?_
  obtain ⟨g, k, c, rfl, hS, hcn, keep⟩ := m
  exact ⟨.ref _, _, I.laid (t' := k) keep (Nat.le_refl _) (setO_new hS), rfl, q c _ hcn (I.hok.fresh (Nat.le_refl _))⟩
end Q
namespace Q
open PySem PySem.Spec PyProof.Rows L2
def FrzGo (v : V) (H : Hp) (Q : VK) : Prop := ∃ d u, v = .ref d ∧ H d = some u ∧ Mut (some u) ∧ ∀ od, Q v (upd H d (.frz od u))
def tFrzV (t : TE) : TE := fun σ H Q => t σ H fun v H1 => FrzGo v H1 Q
theorem pe_frzV {X : Cx} {e : Expr} {t : TE} (h : PE X e t) : PE X e (tFrzV t) := by
  refine ⟨fun pins s σ H Q I hw => thn (h.run pins s σ H _ I hw) fun u s1 told => ?_⟩
  obtain ⟨x, H1, I1, rx, d, o, ex, hd, mu, q⟩ := told
  obtain ⟨od, I2⟩ := I1.lock hd mu
  exact ⟨x, _, I2, rx, q od⟩
theorem r_tFrzV {t : TE} {σ : L2.St} {H : Hp} {Q : VK} (q : t σ H fun v H1 => FrzGo v H1 Q) : tFrzV t σ H Q := q
theorem r_frzD {e : En} {G H : Hp} {M : List Addr} {d : Addr} {kvs : List (Key × V)} {Q : VK} (w : Wd e G H (d :: M)) (h0 : e.H0 d = none) (h : H d = some (.dK kvs))
    (k : ∀ od G' H', Wd e G' H' M → Same G G' → But d H H' → G' d = some (.frz od (.dK kvs)) → Q (.ref d) H') : FrzGo (.ref d) H Q := by
  refine ⟨d, _, rfl, h, trivial, fun od => ?_⟩
  have w1 := wd_mut (o := .frz od (.dK kvs)) w List.mem_cons_self
  obtain ⟨w2, s2⟩ := wd_freeze w1 upd_same h0
  exact k od _ _ w2 s2 but_upd upd_same
def SqA (K : PySem.W.Frag) (H : Hp) (a : Addr) (xs : List V) : Prop := SqL K H a xs ∨ SqT K H a xs
theorem SqA.same {K : PySem.W.Frag} {H H' : Hp} {a : Addr} {xs : List V} (h : SqA K H a xs) (s : Same H H') : SqA K H' a xs := h.elim (fun h => .inl (same_sqL s h)) fun h => .inr (same_sqT s h)
def SeqGo (K : PySem.W.Frag) (a : Addr) (R : It → Hp → Prop) (H : Hp) : Prop := ((∃ xs, SqL K H a xs) ∧ R (Itl K a) H) ∨ ((∃ xs, SqT K H a xs) ∧ R (Itt K a) H)
def iSeq (K : PySem.W.Frag) (tl : TE) : TI := fun σ H R => tl σ H fun x H1 => ∃ a, x = .ref a ∧ SeqGo K a R H1
theorem pi_seq {X : Cx} {tg l : Expr} {tl : TE} (hl : PE X l tl) : PI X tg l (iSeq X.K tl) := by
  refine ⟨fun pins s σ H R I h => thn (hl.run pins s σ H _ I h) fun v s1 told => ?_⟩
  obtain ⟨x, H1, I1, r1, a, rfl, q⟩ := told
  cases r1
  have fin : ∀ b ∈ [s1.heap.objs.size], FpOk X pins H1 b := fun b hb => by
    rw [List.mem_singleton.mp hb]
    exact I1.fpOk (Nat.le_refl _) (I1.hok.fresh (Nat.le_refl _))
  rcases q with ⟨⟨xs, hq⟩, q⟩ | ⟨⟨xs, hq⟩, q⟩
  · obtain ⟨its, rv, p, hz⟩ := I1.list hq
    exact wpAny_pyIter_list p.isList ⟨s1.heap.objs.size, [s1.heap.objs.size], _, _, H1, rfl, I1.kept (t' := s1.toks) fun _ _ z => Heap.get?_push_of_some _ z, turn_list a _, ⟨_, Heap.get?_push_size _ rfl, rfl, rfl⟩, fin, q⟩
  · obtain ⟨its, rv, p, hz⟩ := I1.tuple hq
    exact wpAny_pyIter_tuple (items := its.toArray) p ⟨s1.heap.objs.size, [s1.heap.objs.size], _, _, H1, rfl, I1.kept (t' := s1.toks) fun _ _ z => Heap.get?_push_of_some _ z, turn_tuple a _, ⟨_, Heap.get?_push_size _ rfl, rfl, rfl⟩, fin, q⟩
theorem r_iSeq {K : PySem.W.Frag} {tl : TE} {σ : L2.St} {H : Hp} {R : It → Hp → Prop} (q : tl σ H fun x H1 => ∃ a, x = .ref a ∧ SeqGo K a R H1) : iSeq K tl σ H R := q
theorem SqA.of {K : PySem.W.Frag} {e : En} {G H : Hp} {M : List Addr} {a : Addr} {xs : List V} (h : SqA K G a xs) (w : Wd e G H M) : SqA K H a xs := h.same w.le
/-- one walk over both -/
theorem seq_go {K : PySem.W.Frag} {e : En} {G H : Hp} {M : List Addr} {R : It → Hp → Prop} {a : Addr} {xs : List V} (w : Wd e G H M) (h : SqA K G a xs)
    (q : ∀ (J : It) (Gd : Hp → Prop), Walk J xs.length Gd (YAt xs) → (∀ (e' : En) (G' H' : Hp) (M' : List Addr), Wd e' G' H' M' → Same G G' → Gd H') → R J H) : ∃ b, V.ref a = .ref b ∧ SeqGo K b R H := by
  rcases h with h | h
  · exact ⟨a, rfl, .inl ⟨⟨xs, wd_sqL w h⟩, q _ _ walk_list fun e' G' H' M' w' s' => wd_sqL w' (same_sqL s' h)⟩⟩
  · exact ⟨a, rfl, .inr ⟨⟨xs, wd_sqT w h⟩, q _ _ walk_tup fun e' G' H' M' w' s' => wd_sqT w' (same_sqT s' h)⟩⟩
section
variable {P : Program} {w : World} {A : Around} {E : Value → Shared → Prop} {s : Shared} {T : String} {r d : Addr} {n : Nat} {Pv : Nat → Value → Prop} {OK : Heap → Prop}
theorem tup_of_src {Q : Value → Shared → Prop} (src : PySem.W.KdlSrc P w T r d n Pv OK) (nh : A.handled = none) (ok : OK s.heap) (hn : n ≤ sizeLine)
    (hQ : ∀ (g : Heap) (tk : Nat) (acc : Array Value), (∀ b o, s.heap.get? b = some o → g.get? b = some o) → ItemsOf Pv acc n → Q (.ref g.objs.size) { s with heap := g.push { cls := .type "tuple", data := .seq acc }, toks := tk }) :
    wpAny (model P w) A (call (.type "tuple") [.ref r]) Q E s := by
  refine made_by PySem.F.called_tuple (PySem.F.typeCall_tuple_1 _) (Q1 := fun o t => t.TypeIs o "tuple" ∧ Q o t) ?_ fun o t q => ⟨q.1, ?_⟩
  · refine codeAny_of_tree (?_ : wpAny _ A.in1.in1 (do checkBuiltinCall "tuple.__new__" ⟨[.type "tuple", .ref r], []⟩; again _) _ _ s)
    refine wpAny_bind (wpAny_of_eq (PySem.F.newCall_tuple_1 _) (wpAny_pure (And.intro (plainId_quiet PySem.F.plain_tuple_new _) (codeAny_builtin PySem.F.entry_tuple_new ?_))))
    rw [Around.under_plainId PySem.F.plain_tuple_new _]
    have x1 := sub_tuple_self; have x2 := init_tuple_lookup; have x3 := madeHere_tuple
    have x4 := src.type s ok; have x6 := src.notTuple
    have x5 : A.in1.in1.handled = none := by simp [nh]
    wp_walk using wpAny_typeOf x4, PySem.W.kdu_collect (A := A.in1.in1) src x5 ok hn
    intro g tk acc keep items
    refine (?_ : wpAny _ _ (Builtin.Tuple.tupleExact acc.toList.toArray >>= fun v => ret v) _ _ _)
    unfold Builtin.Tuple.tupleExact
    rw [Array.toArray_toList]
    refine wpAny_bind (wpAny_newObj_type (wpAny_pure ⟨⟨_, Heap.get?_push_size _ rfl, rfl⟩, hQ g tk acc keep items⟩) ?_)
    show acc.size ≤ sizeLine
    rw [items.1]
    exact hn
  · exact codeAny_call_builtin PySem.F.called_tuple.init.plain PySem.F.entry_object_init (PySem.F.called_tuple.init.check _ _ _ _ _ _ _ _ q.1 (PySem.F.args_object_init_2 o _) (object_init_meets PySem.F.called_tuple.init.lookup PySem.F.called_tuple.made (by decide) P w A.in1 _ t ⟨q.1, rfl, q.2⟩))
end
theorem keys_vals {X : Cx} {kvs : List (Key × V)} {vs : List (Key × Value)} {acc : Array Value} (rk : KV kvs vs) (items : ItemsOf (fun i v => ∃ k x, vs[i]? = some (k, x) ∧ (mixKind X.prog X.w).is k v = true) acc vs.length) : Vals (kvs.map fun kv => kV kv.1) acc.toList := by
  have hl : kvs.length = vs.length := Paired.length rk
  refine vals_of_at (by
    rw [List.length_map, hl, ← items.1]
    rfl) fun j x u h1 h2 => ?_
  obtain ⟨k, y, hk, hi⟩ := items.2 j u (by rw [← Array.getElem?_toList, h2])
  have e1 : (kvs.map (·.1))[j]? = some k := by
    rw [KV.keys rk, List.getElem?_map, hk]
    rfl
  have e2 : (kvs.map fun kv => kV kv.1) = (kvs.map (·.1)).map kV := by rw [List.map_map]; rfl
  rw [e2, List.getElem?_map, e1] at h1
  cases h1
  exact keyIs_rel hi
def rKeysT : List V → Hp → VK → Prop := fun xs H Q => ∃ p kvs, xs = [.ref p] ∧ Rd H p (.dK kvs) ∧ ∀ q, H q = none → Q (.ref q) (upd H q (.tup (kvs.map fun kv => kV kv.1)))
theorem cr_keysT {X : Cx} (hc : X.calm = true) : CallR X (.type "tuple") rKeysT := by
  intro pins s σ H xs us Q I r h
  obtain ⟨p, kvs, rfl, hp, q⟩ := h
  rw [Vals.ref1 r]
  obtain ⟨z, lo, vs, rk, hd⟩ := dk_rd I.hok hp
  obtain ⟨ep, hat⟩ := hd.dictAt
  have hl : kvs.length = vs.length := Paired.length rk
  refine tup_of_src (PySem.W.kdl_dict (knd := mixKind X.prog X.w) (kvs := vs) (ep := ep) lo) (I.ok.hd hc) hat (by omega) fun g tk acc keep items => ?_
  have I1 : Inv X pins σ H { s with heap := g, toks := tk } := I.kept keep
  refine ⟨.ref g.objs.size, _, I1.laid (t' := tk) (h' := g.push { cls := .type "tuple", data := .seq acc }) (o := .tup (kvs.map fun kv => kV kv.1)) (fun _ _ z => Heap.get?_push_of_some _ z) (Nat.le_refl _) ?_, rfl, q _ (I1.hok.fresh (Nat.le_refl _))⟩
  refine ⟨by rw [List.length_map]; exact z, acc.toList, keys_vals rk items, ?_⟩
  rw [Array.toArray_toList]
  exact IsTup.new _ _
section
variable {H : Hp} {Qv : VK} {σ : L2.St}
theorem r_keysT {p : Addr} {kvs : List (Key × V)} (h : Rd H p (.dK kvs)) (q : Lay 0 (.tup (kvs.map fun kv => kV kv.1)) Qv H) : rKeysT [.ref p] H Qv := ⟨p, kvs, rfl, h, q.2⟩
theorem r_setOfL {K : PySem.W.Frag} {w : World} {l : Addr} {ns : List Int} (h : SqL K H l (ns.map V.int)) (hn : ns.length ≤ 1000) (q : ∀ n, n ≤ ns.length → ∀ a, H a = none → Qv (.ref a) (upd H a (SetO w a (fun j => decide (j ∈ ns)) n))) : rSetL K w [.ref l] H Qv :=
  ⟨l, ns, rfl, h, hn, fun n a h1 h2 => q n h1 a h2⟩
end
theorem setO_nt {w : World} {a : Addr} {S : Int → Bool} {n : Nat} : NoT (SetO w a S n) := fun ps z => by
  have y : HO.ext _ = HO.tbl ps := z
  cases y
def leS (a b : Str) : Prop := ltCps b.cps.toList a.cps.toList = false
theorem leS_k {a b : Str} : leS a b ↔ strKind.kle a.cps.toList b.cps.toList := by
  unfold leS KeyOrd.kle
  rw [ltCps_eq]
theorem leS_anti {a b : Str} (h1 : leS a b) (h2 : leS b a) : a = b := by
  have e := KeyOrd.kle_antisymm (leS_k.mp h1) (leS_k.mp h2)
  obtain ⟨⟨x⟩⟩ := a
  obtain ⟨⟨y⟩⟩ := b
  have e : x = y := e
  rw [e]
theorem leS_trans {a b c : Str} (h1 : leS a b) (h2 : leS b c) : leS a c := leS_k.mpr (KeyOrd.kle_trans (leS_k.mp h1) (leS_k.mp h2))
theorem rising_pw : ∀ (l : List Str) (p : Str), risingS p l = true → (p :: l).Pairwise leS
  | [], p, _ => List.pairwise_singleton _ _
  | x :: r, p, h => by
    have h : (!ltCps x.cps.toList p.cps.toList && risingS x r) = true := h
    rw [Bool.and_eq_true, Bool.not_eq_true'] at h
    have ih := rising_pw r x h.2
    refine List.pairwise_cons.mpr ⟨fun y hy => ?_, ih⟩
    rcases List.mem_cons.mp hy with e | hy
    · rw [e]; exact h.1
    · exact leS_trans h.1 ((List.pairwise_cons.mp ih).1 y hy)
theorem sortedS_pw {l : List Str} (h : sortedS l = true) : l.Pairwise leS := by
  cases l with
  | nil => exact .nil
  | cons x r => exact rising_pw r x h
theorem leS_one {xs ys : List Str} (h : xs.Perm ys) (h1 : xs.Pairwise leS) (h2 : ys.Pairwise leS) : xs = ys := sorted_one (fun _ _ => leS_anti) h h1 h2
def rSortT (K : PySem.W.Frag) : List V → Hp → VK → Prop := fun vs H Q => ∃ (a : Addr) (xs : List Str), vs = [.ref a] ∧ SqL K H a (xs.map V.str) ∧ ∀ (ys : List Str) (p : Addr), ys.Perm xs → ys.Pairwise leS → H p = none → Q (.ref p) (upd H p (.lst (ys.map V.str)))
theorem cr_sortT {X : Cx} : CallR X (.builtin "sorted") (rSortT X.K) := by
  intro pins s σ H vs us Q I r h
  obtain ⟨a, xs, rfl, hs, q⟩ := h
  obtain ⟨its, rv, hl, hz⟩ := I.list hs
  rw [Vals.ref1 r]
  refine sorted_strsAny hl.isList rv.strs (by rw [← rv.length]; exact hz) fun out ys h1 h2 h3 => ?_
  obtain ⟨ep, at_⟩ := PyProof.Rows.sortedAll_at s.heap its out
  have hn : (ys.map V.str).length ≤ sizeLine := by
    rw [List.length_map] at hz ⊢
    rw [h2.length_eq]
    exact hz
  exact ⟨.ref _, _, I.laid (t' := s.toks) (o := .lst (ys.map V.str)) (fun _ _ => PyProof.Rows.sortedAll_old) (Nat.le_succ _) ⟨hn, out.toList, ep, vals_of_strs h1, at_⟩, rfl, q ys _ h2 (sortedS_pw h3) (I.hok.fresh (Nat.le_succ _))⟩
theorem r_sortT {K : PySem.W.Frag} {H : Hp} {a : Addr} {xs : List Str} {Qv : VK} (h : SqL K H a (xs.map V.str)) (q : ∀ ys : List Str, ys.Perm xs → ys.Pairwise leS → Lay 0 (.lst (ys.map V.str)) Qv H) : rSortT K [.ref a] H Qv :=
  ⟨a, xs, rfl, h, fun ys p h1 h2 h3 => (q ys h1 h2).2 p h3⟩
theorem r_sortSet {w : World} {H : Hp} {a : Addr} {S : Int → Bool} {n : Nat} {Qv : VK} (h : H a = some (SetO w a S n)) (hn : n < 64) (q : ∀ ns : List Int, ns.Pairwise (· < ·) → (∀ k : Int, k ∈ ns ↔ S k = true) → ns.length = n → Lay 0 (.lst (ns.map V.int)) Qv H) : rSortedSet w [.ref a] H Qv :=
  ⟨a, S, n, rfl, h, hn, fun ns p h1 h2 h3 h4 => (q ns h1 h2 h3).2 p h4⟩
/-- sorted lists of the same ints are equal -/
theorem ltI_one {xs ys : List Int} (h1 : xs.Pairwise (· < ·)) (h2 : ys.Pairwise (· < ·)) (h : ∀ k, k ∈ xs ↔ k ∈ ys) : xs = ys := by
  have nd : ∀ {l : List Int}, l.Pairwise (· < ·) → l.Nodup := fun p => p.imp fun h => by omega
  refine sorted_one (le := fun a b : Int => a ≤ b) (fun a b => Int.le_antisymm) ?_ (h1.imp fun h => Int.le_of_lt h) (h2.imp fun h => Int.le_of_lt h)
  exact (List.perm_ext_iff_of_nodup (nd h1) (nd h2)).mpr h
end Q
namespace Q
open PySem PySem.Spec PyProof.Rows L2
def DcAdd (Dd : Addr) (P : Hp → Prop) (y z : V) (H5 : Hp) : Prop := ∃ kvs k, y = kV k ∧ H5 Dd = some (.dK kvs) ∧ kvs.length < sizeLine ∧ P (upd H5 Dd (.dK (putK kvs k z)))
def DcT (Dd : Addr) (P : Hp → Prop) (tt : TT) (tk tv : TE) (vs : List Nat) (σ : L2.St) : L2.St → Hp → Prop := fun σ2 H2 => wipe σ2 vs = wipe σ vs ∧ tt σ2 H2 fun b H3 => if b = true then tk σ2 H3 fun y H4 => tv σ2 H4 fun z H5 => DcAdd Dd P y z H5 else P H3
def DcGo (J : It) (g : TG) (tt : TT) (tk tv : TE) (vs : List Nat) (σ : L2.St) (Q : VK) (H1 : Hp) : Prop := ∀ D, H1 D = none → ∃ W : Nat → Nat → Hp → Prop, (∃ m, W 0 m (upd H1 D (.dK []))) ∧ ∀ i m H, W i m H →
  (J.stop i H ∧ Q (.ref D) H) ∨ (J.go i H ∧ ∃ Nx : Hp → Prop, (∀ H', Nx H' → ∃ m', m' < m ∧ W (i + 1) m' H') ∧ ∀ x H', J.yld i H x H' → g x (wipe σ vs) H' (DcT D Nx tt tk tv vs σ))
theorem r_dc {wi : TI} {g : TG} {tt : TT} {tk tv : TE} {vs : List Nat} {σ : L2.St} {H : Hp} {Q : VK} (q : wi σ H fun J H1 => DcGo J g tt tk tv vs σ Q H1) : tDc wi g tt tk tv vs σ H Q := q
theorem r_dcT {Dd : Addr} {P : Hp → Prop} {tt : TT} {tk tv : TE} {vs : List Nat} {σ σ2 : L2.St} {H : Hp} (h : wipe σ2 vs = wipe σ vs) (q : tt σ2 H fun b H3 => if b = true then tk σ2 H3 fun y H4 => tv σ2 H4 fun z H5 => DcAdd Dd P y z H5 else P H3) : DcT Dd P tt tk tv vs σ σ2 H := ⟨h, q⟩
def DcP (e : En) (G : Hp) (M : List Addr) (R : Nat → List (Key × V) → Hp → Hp → Prop) (Dd : Addr) (i : Nat) (H : Hp) : Prop := ∃ kvs Gi, Wd e Gi H (Dd :: M) ∧ Same G Gi ∧ H Dd = some (.dK kvs) ∧ kvs.length ≤ i ∧ R i kvs Gi H
theorem r_dcAdd {e : En} {G Gy H4 : Hp} {M : List Addr} {R : Nat → List (Key × V) → Hp → Hp → Prop} {Dd : Addr} {i : Nat} {kvs : List (Key × V)} {t : Str} {z : V} (w : Wd e Gy H4 (Dd :: M)) (s : Same G Gy) (h : H4 Dd = some (.dK kvs)) (hl : kvs.length ≤ i) (hi : i ≤ 1000000)
    (k : ∀ H5, Wd e Gy H5 (Dd :: M) → But Dd H4 H5 → R (i + 1) (putK kvs (.inr t) z) Gy H5) : DcAdd Dd (DcP e G M R Dd (i + 1)) (.str t) z H4 := by
  have w5 := wd_mut (o := .dK (putK kvs (.inr t) z)) w List.mem_cons_self
  exact ⟨kvs, .inr t, rfl, h, Nat.lt_of_le_of_lt (Nat.le_trans hl hi) (by decide), _, Gy, w5, s, upd_same, Nat.le_trans (length_putK _ _ _) (Nat.add_le_add_right hl 1), k _ w5 but_upd⟩
theorem dc_go {e : En} {G H1 : Hp} {M : List Addr} {J : It} {n : Nat} {Gd : Hp → Prop} {Y : Nat → Hp → V → Hp → Prop} {g : TG} {tt : TT} {tk tv : TE} {vs : List Nat} {σ : L2.St} {Q : VK} (w : Wd e G H1 M) (hw : Walk J n Gd Y) (R : Nat → List (Key × V) → Hp → Hp → Prop)
    (h0 : ∀ (Dd : Addr) (H : Hp), Wd e G H (Dd :: M) → Same H1 H → (∀ m ∈ M, Dd ≠ m) → R 0 [] G H)
    (hG : ∀ i kvs Gi H, Wd e Gi H M → Same G Gi → R i kvs Gi H → Gd H)
    (hs : ∀ (Dd : Addr) i kvs Gi H x H', i < n → kvs.length ≤ i → Wd e Gi H (Dd :: M) → Same G Gi → H Dd = some (.dK kvs) → (∀ m ∈ M, Dd ≠ m) → R i kvs Gi H → Y i H x H' → g x (wipe σ vs) H' (DcT Dd (DcP e G M R Dd (i + 1)) tt tk tv vs σ))
    (hd : ∀ (p : Addr) kvs Gi H, kvs.length ≤ n → Wd e Gi H (p :: M) → Same G Gi → H p = some (.dK kvs) → e.H0 p = none → (∀ m ∈ M, p ≠ m) → R n kvs Gi H → Q (.ref p) H) : DcGo J g tt tk tv vs σ Q H1 := by
  intro Dd hD
  have w1 := wd_layM (o := .dK []) w hD
  have nm : ∀ m ∈ M, Dd ≠ m := fun m hm => w.nm hD hm
  refine ⟨fun i m H => m = n - i ∧ i ≤ n ∧ DcP e G M R Dd i H, ⟨n, by simp, Nat.zero_le _, [], G, w1, Same.refl _, upd_same, Nat.le_refl _, h0 Dd _ w1 (same_upd hD) nm⟩, ?_⟩
  rintro i m H ⟨rfl, hi, kvs, Gi, w2, s2, h2, l2, r⟩
  have gd := hG i kvs Gi H (wd_drop w2 (List.sublist_cons_self _ _)) s2 r
  by_cases lt : i < n
  · exact .inr ⟨hw.goes i H lt gd, DcP e G M R Dd (i + 1), fun H' p' => ⟨n - (i + 1), by omega, rfl, lt, p'⟩, fun x H' y => hs Dd i kvs Gi H x H' lt l2 w2 s2 h2 nm r (hw.yields i H x H' lt gd y)⟩
  · obtain rfl : i = n := by omega
    exact .inl ⟨hw.stops H gd, hd Dd kvs Gi H l2 w2 s2 h2 (w.n0 hD) nm r⟩
def HearT (Q : VK) (v : V) (H1 : Hp) : Prop := ∃ (e : En) (G : Hp) (M : List Addr), Wd e G H1 M ∧ ∀ l G' H', Wd e G' H' M → Same G G' → Same H1 H' → G' l = some (.tup [.str "told", v]) → Q (.ref l) H'
def TTold (kd : List (Addr × Str × Str)) : (XK → Hp → VK → Prop) → Hp → VK → Prop := fun tl H Q => ∀ (E : XK) (Q' : VK), (∀ cls d H1, HearX kd Q cls d H1 → E cls d H1) → (∀ v H1, HearT Q v H1 → Q' v H1) → tl E H Q'
section
variable {X : Cx} {Ng : List Str} {x a n cl : Str} {sg : Scope} {g f c' Ct : Addr} {cdg : Value} {s : Shared} {H : Hp} {i : Nat} {first : Stmt} {rest : List Stmt} {q : Str} {tl : XK → Hp → VK → Prop} {ts : Addr → Value → Option Addr → TS} {p1 p2 p3 p4 np hp tp : Pos} {e1 : Expr} {v1 : V} {kk : Nat}
def tAskR (K : PySem.W.Frag) (Ct : Addr) (i m : Nat) (f c' : Addr) (q : Str) (v1 : V) (tl : XK → Hp → VK → Prop) (ts : Addr → Value → Option Addr → TS) : TS := fun D σ H =>
  ∃ Ech : XK, (∀ cls d σ' H', Ech cls d H' → wKeep K (.ref Ct) i m ts D cls d σ' H') ∧ σ[0]? = some (some (.ref f)) ∧ H c' = some (LamX.CodeO c' q) ∧ tl Ech H fun v H1 => Lay 2 (.tup [v1, v]) D.rt H1
theorem ps_askR (act : ∀ (W : WX) (pn : List (Addr × Obj)) (xe : Value → Shared → Prop) (E : XK) (p1 p2 : Pos), Takes ((cxOf C8.CX0 X.prog X.w X.K X.mg X.base Ng x sg g cdg X.A X.stack s H C8.E0).tr pn xe) W → (∀ cls d σ' H', E cls d H' → W cls d σ' H') →
      PE ((cxOf C8.CX0 X.prog X.w X.K X.mg X.base Ng x sg g cdg X.A X.stack s H C8.E0).tr pn xe) (.Call (.Name a p1) [] [] p2) (fun σZ HZ Q => σZ[0]? = some (some (.ref f)) ∧ HZ c' = some (LamX.CodeO c' q) ∧ tl E HZ Q))
    (he : ∀ X' : Cx, PE X' e1 (tC v1)) (hN : Ng.Nodup) (hi : Ng[i]? = some n) (hln : sg.names.lookup n = some .local) (hge : sg.names.lookup cl = some .globalImplicit) (hde : (cl == ("__debug__" : Str)) = false) (hm : X.mg cl = some (.ref Ct))
    (hs : ∀ (a : Addr) (oe : Obj) (cls : Value) (d : Option Addr) (pn : List (Addr × Obj)), Zc cls d oe → (∃ vs, oe.data = .fields vs) → PSs ((hearCx X Ng x sg g cdg s H).suite a ((a, oe) :: pn)) (first :: rest) (ts a cls d))
    (hst : ∀ (pn : List (Addr × Obj)) (xe : Value → Shared → Prop), starEach [e1, .Call (.Name a p1) [] [] p2] ((cxOf C8.CX0 X.prog X.w X.K X.mg X.base Ng x sg g cdg X.A X.stack s H C8.E0).tr pn xe).env = (false, eval e1 ((cxOf C8.CX0 X.prog X.w X.K X.mg X.base Ng x sg g cdg X.A X.stack s H C8.E0).tr pn xe).env) :: starEach [.Call (.Name a p1) [] [] p2] ((cxOf C8.CX0 X.prog X.w X.K X.mg X.base Ng x sg g cdg X.A X.stack s H C8.E0).tr pn xe).env := by intro _ _; rfl) :
    PS (hearCx X Ng x sg g cdg s H) (.Try [.Return (some (.Tuple [e1, .Call (.Name a p1) [] [] p2] kk p3)) p4] [.ExceptHandler (some (.Name cl np)) (some n) (first :: rest) hp] [] [] tp) (tAskR X.K Ct i Ng.length f c' q v1 tl ts) := by
  refine ps_try_keep (X := hearCx X Ng x sg g cdg s H) (c := .ref Ct) (ts := ts) (tb := fun W D σ H => ∃ Ech : XK, (∀ cls d σ' H', Ech cls d H' → W cls d σ' H') ∧ σ[0]? = some (some (.ref f)) ∧ H c' = some (LamX.CodeO c' q) ∧ tl Ech H fun v H1 => Lay 2 (.tup [v1, v]) D.rt H1)
    rfl rfl hN hi hln ⟨hge, hde, .inl hm⟩ (fun W pn xe tk _ => ?_) hs
  refine pss_one ⟨fun pins s' σ H' D I h' => ?_⟩
  obtain ⟨Ech, hW, h1, h2, h3⟩ := h'
  exact (ps_ret (pe_tup (pa_cons (he _) (pa_cons (act W pn xe Ech p1 p2 tk hW) pa_nil) (hst pn xe)))).run pins s' σ H' D I ⟨h1, h2, h3⟩
end
theorem r_lamT {T : List (Addr × Str)} {kd : List (Addr × Str × Str)} {t : XK → TE} {σ : L2.St} {e : En} {G H : Hp} {M : List Addr} {Q : VK} (w : Wd e G H M) (eT : e.T = T) (cov : ∀ a, e.H0 a ≠ none → (∃ q, (a, q) ∈ e.T) ∨ (a ∉ e.P0 ∧ ∀ o, e.H0 a = some o → NoT o)) (inP : ∀ p ∈ e.T, p.1 ∈ e.P0)
    (k : ∀ (H1 : Hp) (E : XK) (Q' : VK), Wd e G H1 M → LamX.ExtN H H1 → (∀ cls d H2, HearX kd Q cls d H2 → E cls d H2) → (∀ v H2, HearT Q v H2 → Q' v H2) → t E σ H1 Q') : LamX.tLam T (TTold kd) t σ H Q := by
  subst eT
  exact ⟨w.tb, fun H1 x tb E Q' hE hQ => k H1 E Q' (wd_lam w x tb cov inP) x hE hQ⟩
inductive BegAt (K : PySem.W.Frag) (G : Hp) : List (Key × V) → List (Str × List V) → Prop
  | nil : BegAt K G [] []
  | cons {s : Str} {a : Addr} {xs : List V} {kvs : List (Key × V)} {rows : List (Str × List V)} (h : SqA K G a xs) (r : BegAt K G kvs rows) : BegAt K G ((.inr s, .ref a) :: kvs) ((s, xs) :: rows)
def rowOf (rows : List (Str × List V)) (s : Str) : Option (List V) := (rows.find? fun r => decide (r.1 = s)).map (·.2)
section
variable {K : PySem.W.Frag} {G G' : Hp} {kvs : List (Key × V)} {rows : List (Str × List V)}
theorem BegAt.same (h : BegAt K G kvs rows) (s : Same G G') : BegAt K G' kvs rows := by
  induction h with
  | nil => exact .nil
  | cons h _ ih => exact .cons (h.same s) ih
theorem BegAt.len (h : BegAt K G kvs rows) : kvs.length = rows.length := by
  induction h with
  | nil => rfl
  | cons _ _ ih => simp [ih]
theorem BegAt.keys (h : BegAt K G kvs rows) : kvs.map (fun kv => kV kv.1) = (rows.map (·.1)).map V.str := by
  induction h with
  | nil => rfl
  | cons _ _ ih => rw [List.map_cons, List.map_cons, List.map_cons, ih]; rfl
theorem BegAt.keysR (h : BegAt K G kvs rows) : kvs.map (·.1) = (rows.map (·.1)).map Sum.inr := by
  induction h with
  | nil => rfl
  | cons _ _ ih => simp [ih]
theorem BegAt.get (h : BegAt K G kvs rows) : ∀ {i : Nat} {k : Key} {v : V}, kvs[i]? = some (k, v) → ∃ s xs, k = .inr s ∧ rows[i]? = some (s, xs) := by
  induction h with
  | nil => intro i k v e; simp at e
  | cons _ _ ih =>
    intro i k v e
    cases i with
    | zero => cases e; exact ⟨_, _, rfl, rfl⟩
    | succ i => exact ih (by simpa using e)
theorem BegAt.val (h : BegAt K G kvs rows) (s : Str) : (rowOf rows s = none ∧ valV kvs (.inr s) = none) ∨ ∃ a xs, rowOf rows s = some xs ∧ valV kvs (.inr s) = some (.ref a) ∧ SqA K G a xs := by
  induction h with
  | nil => exact .inl ⟨rfl, rfl⟩
  | cons h _ ih =>
    rename_i t a xs kvs rows _
    by_cases e : t = s
    · refine .inr ⟨a, xs, ?_, ?_, h⟩
      · simp [rowOf, e]
      · exact valV_pos (p := ((Sum.inr t : Key), V.ref a)) (by rw [e])
    · have e2 : ¬ (Sum.inr t : Key) = .inr s := fun z => e (Sum.inr.inj z)
      have e3 : rowOf ((t, xs) :: rows) s = rowOf rows s := by simp [rowOf, e]
      rw [e3, valV_neg (p := ((Sum.inr t : Key), V.ref a)) e2]
      exact ih
theorem rowOf_mem {s : Str} {xs : List V} (h : rowOf rows s = some xs) : (s, xs) ∈ rows := by
  unfold rowOf at h
  cases e : rows.find? fun r => decide (r.1 = s) with
  | none => rw [e] at h; cases h
  | some r =>
    rw [e] at h
    have h1 := List.mem_of_find?_eq_some e
    have h2 := List.find?_some e
    have h3 : r.1 = s := of_decide_eq_true h2
    cases h
    rw [← h3]
    exact h1
theorem rowOf_key {s : Str} (h : s ∈ rows.map (·.1)) : ∃ xs, rowOf rows s = some xs := by
  unfold rowOf
  cases e : rows.find? fun r => decide (r.1 = s) with
  | some r => exact ⟨_, rfl⟩
  | none =>
    obtain ⟨r, hr, rfl⟩ := List.mem_map.mp h
    have := List.find?_eq_none.mp e r hr
    simp at this
end
end Q
namespace Q
open PySem PySem.Spec PyProof.Rows L2
def faultL (Cn Cm : Addr) (rows : List (Str × List V)) : List Str → Option (Addr × Str × V)
  | [] => none
  | t :: ts => if nmOk t = true then (match ((rowOf rows t).getD []).find? (fun v => !momV v 1) with
    | some v => some (Cm, "moment", v)
    | none => faultL Cn Cm rows ts) else some (Cn, "name", .str t)
section
variable {Cn Cm : Addr} {rows : List (Str × List V)} {t : Str} {ts : List Str} {xs : List V}
theorem faultL_n (h : nmOk t = false) : faultL Cn Cm rows (t :: ts) = some (Cn, ("name" : Str), .str t) := by
  unfold faultL
  rw [h]
  rfl
theorem faultL_m {v : V} (h : nmOk t = true) (hx : rowOf rows t = some xs) (hf : xs.find? (fun v => !momV v 1) = some v) : faultL Cn Cm rows (t :: ts) = some (Cm, ("moment" : Str), v) := by
  unfold faultL
  rw [if_pos h, hx]
  show (match xs.find? (fun v => !momV v 1) with
    | some v => some (Cm, ("moment" : Str), v)
    | none => faultL Cn Cm rows ts) = _
  rw [hf]
theorem faultL_go (h : nmOk t = true) (hx : rowOf rows t = some xs) (hf : ∀ v ∈ xs, momV v 1 = true) : faultL Cn Cm rows (t :: ts) = faultL Cn Cm rows ts := by
  have e : xs.find? (fun v => !momV v 1) = none := List.find?_eq_none.mpr fun v hv => by simp [hf v hv]
  rw [faultL, if_pos h, hx]
  show (match xs.find? (fun v => !momV v 1) with
    | some v => some (Cm, ("moment" : Str), v)
    | none => faultL Cn Cm rows ts) = _
  rw [e]
theorem faultL_none : ∀ {ts : List Str}, faultL Cn Cm rows ts = none → ∀ t ∈ ts, nmOk t = true ∧ ∀ v ∈ (rowOf rows t).getD [], momV v 1 = true
  | [], _ => fun t h => by cases h
  | u :: ts, h => fun t ht => by
    unfold faultL at h
    split at h
    · rename_i c
      split at h
      · cases h
      · rename_i e
        rcases List.mem_cons.mp ht with rfl | ht
        · refine ⟨c, fun v hv => ?_⟩
          have := List.find?_eq_none.mp e v hv
          simpa using this
        · exact faultL_none h t ht
    · cases h
theorem find_at {α : Type} {p : α → Bool} : ∀ {xs : List α} {j : Nat} {v : α}, xs[j]? = some v → (∀ u ∈ xs.take j, p u = false) → p v = true → xs.find? p = some v
  | x :: xs, 0, v, h, _, hv => by
    cases h
    rw [List.find?_cons, hv]
  | x :: xs, j + 1, v, h, hb, hv => by
    rw [List.find?_cons, hb x (by simp)]
    exact find_at (by simpa using h) (fun u hu => hb u (by simp [hu])) hv
end
structure RowsOk (K : PySem.W.Frag) (G : Hp) (rows : List (Str × List V)) : Prop where
  len : ∀ r ∈ rows, r.1.length ≤ 1000 ∧ r.2.length ≤ 60
  odd : ∀ r ∈ rows, ∀ v ∈ r.2, ∃ d, Odd K G v d
  key : ∀ r ∈ rows, ∃ d, Odd K G (.str r.1) d
  txt : ∀ r ∈ rows, PyData.strOk r.1 = true
theorem RowsOk.same {K : PySem.W.Frag} {G G' : Hp} {rows : List (Str × List V)} (h : RowsOk K G rows) (s : Same G G') : RowsOk K G' rows := ⟨h.len, fun r hr v hv => (h.odd r hr v hv).elim fun d o => ⟨d, o.same s⟩, fun r hr => (h.key r hr).elim fun d o => ⟨d, o.same s⟩, h.txt⟩
inductive LvAt (G : Hp) : List (Key × V) → List (Str × List Int) → Prop
  | nil : LvAt G [] []
  | cons {s : Str} {a : Addr} {ns : List Int} {kvs : List (Key × V)} {bt : List (Str × List Int)} (h : G a = some (.tup (ns.map V.int))) (r : LvAt G kvs bt) : LvAt G ((.inr s, .ref a) :: kvs) ((s, ns) :: bt)
section
variable {G G' : Hp} {kvs : List (Key × V)} {bt : List (Str × List Int)}
theorem LvAt.same (h : LvAt G kvs bt) (s : Same G G') : LvAt G' kvs bt := by
  induction h with
  | nil => exact .nil
  | cons h _ ih => exact .cons (s _ _ h) ih
theorem LvAt.snoc (r : LvAt G kvs bt) {s : Str} {a : Addr} {ns : List Int} (h : G a = some (.tup (ns.map V.int))) : LvAt G (kvs ++ [(.inr s, .ref a)]) (bt ++ [(s, ns)]) := by
  induction r with
  | nil => exact .cons h .nil
  | cons h2 _ ih => exact .cons h2 ih
theorem LvAt.keys (h : LvAt G kvs bt) : kvs.map (fun kv => kV kv.1) = (bt.map (·.1)).map V.str := by
  induction h with
  | nil => rfl
  | cons _ _ ih => rw [List.map_cons, List.map_cons, List.map_cons, ih]; rfl
theorem LvAt.out (h : LvAt G kvs bt) {s : Str} (n : s ∉ bt.map (·.1)) : valV kvs (.inr s) = none := by
  induction h with
  | nil => rfl
  | cons _ _ ih =>
    rename_i t a ns kvs bt _ _
    have e : ¬ (Sum.inr t : Key) = .inr s := fun z => n (by rw [Sum.inr.inj z]; simp)
    rw [valV_neg (p := ((Sum.inr t : Key), V.ref a)) e]
    exact ih fun m => n (by simp at m ⊢; exact .inr m)
end
/-- 0 and what is told, ascending -/
def Begs (xs : List V) (ns : List Int) : Prop := ∃ ms : List Int, ns = 0 :: ms ∧ ms.Pairwise (· < ·) ∧ ∀ k : Int, k ∈ ms ↔ V.int k ∈ xs
def BtOf (rows : List (Str × List V)) (ts : List Str) (bt : List (Str × List Int)) : Prop := bt.map (·.1) = ts ∧ ∀ p ∈ bt, Begs ((rowOf rows p.1).getD []) p.2
def LivesAt (C : Addr) (G : Hp) (a : Addr) (bt : List (Str × List Int)) : Prop := ∃ dx D od kvs, G a = some (.ins C dx [("by_tool", .ref D)]) ∧ G D = some (.frz od (.dK kvs)) ∧ LvAt G kvs bt
theorem LivesAt.same {C a : Addr} {G G' : Hp} {bt : List (Str × List Int)} (h : LivesAt C G a bt) (s : Same G G') : LivesAt C G' a bt := by
  obtain ⟨dx, D, od, kvs, h1, h2, h3⟩ := h
  exact ⟨dx, D, od, kvs, s _ _ h1, s _ _ h2, h3.same s⟩
structure LvC (K : PySem.W.Frag) (C : Addr) : Prop where
  c : Cls K C
  n1 : NoAttr K C "by_tool"
def spLives (K : PySem.W.Frag) (C Cn Cm : Addr) : Sp := fun vs H Q E => ∃ (G : Hp) (x dx d : Addr) (od : Obj) (kvs : List (Key × V)) (rows : List (Str × List V)), vs = [.ref x, .ref d] ∧ Gh G H ∧ G x = none ∧ H x = some (.ins C dx []) ∧
  G d = some (.frz od (.dK kvs)) ∧ BegAt K G kvs rows ∧ RowsOk K G rows ∧ (kvs.map (·.1)).Nodup ∧ kvs.length ≤ 1000 ∧ ∀ ts : List Str, ts.Perm (rows.map (·.1)) → ts.Pairwise leS →
  (∀ cls f v, faultL Cn Cm rows ts = some (cls, f, v) → ∀ (G' H' : Hp) (dd : Addr), But x H H' → (∃ o, H' x = some o ∧ plainB o = true) → Gh G' H' → Same G G' → (∀ b, H b ≠ none → G' b = G b) → G' dd = some (.xd [(f, v)]) → E (.ref cls) (some dd) H') ∧
  (faultL Cn Cm rows ts = none → ∀ (G' H' : Hp) (D : Addr) (od2 : Obj) (kv2 : List (Key × V)) (bt : List (Str × List Int)), H D = none → But x H H' → Gh G' H' → Same G G' → (∀ b, H b ≠ none → G' b = G b) → G' D = some (.frz od2 (.dK kv2)) → LvAt G' kv2 bt → BtOf rows ts bt →
    H' x = some (.ins C dx [("by_tool", .ref D)]) → Q .non H')
theorem u_lives {K : PySem.W.Frag} {C Cn Cm d : Addr} {od : Obj} {kvs : List (Key × V)} {rows : List (Str × List V)} {e : En} {G H : Hp} {M : List Addr} {Qv : VK} {E : XK} (w : Wd e G H M) (hd : G d = some (.frz od (.dK kvs))) (hb : BegAt K G kvs rows) (ro : RowsOk K G rows) (nd : (kvs.map (·.1)).Nodup) (ln : kvs.length ≤ 1000)
    (bad : ∀ ts : List Str, ts.Perm (rows.map (·.1)) → ts.Pairwise leS → ∀ cls f v, faultL Cn Cm rows ts = some (cls, f, v) → ∀ dd G' H', Wd e G' H' M → Same G G' → Same H H' → G' dd = some (.xd [(f, v)]) → E (.ref cls) (some dd) H')
    (good : ∀ ts : List Str, ts.Perm (rows.map (·.1)) → ts.Pairwise leS → faultL Cn Cm rows ts = none → ∀ a G' H' bt, Wd e G' H' M → Same G G' → Same H H' → LivesAt C G' a bt → BtOf rows ts bt → Qv (.ref a) H') : MakeGo C (spLives K C Cn Cm) [.ref d] E H Qv := by
  refine make_go w fun a dx G1 H1 hx nm s1 t1 w1 h1 n0 => ?_
  have keeps : ∀ {H2 : Hp}, But a H1 H2 → Same H H2 := fun {H2} b2 c o h => by
    refine b2 c o (fun q => ?_) (t1 _ _ h)
    subst q
    rw [hx] at h
    cases h
  refine ⟨G1, a, dx, d, od, kvs, rows, rfl, w1.gh, (w1.mu a List.mem_cons_self).1, h1, s1 _ _ hd, hb.same s1, ro.same s1, nd, ln, fun ts p1 p2 => ⟨fun cls f v hf G2 H2 dd b2 hh s2 s3 fr hdd => ?_, fun hf G2 H2 D od2 kv2 bt _ b2 s2 s3 fr hD lv bo h2 => ⟨rfl, ?_⟩⟩⟩
  · obtain ⟨o, h2, no⟩ := hh
    have w2 := wd_made w1 b2 h2 no s2 s3 fr
    exact bad ts p1 p2 cls f v hf dd G2 H2 (wd_drop w2 (List.sublist_cons_self _ _)) (s1.trans s3) (keeps b2) hdd
  · have w2 := wd_made w1 b2 h2 rfl s2 s3 fr
    obtain ⟨w4, s4⟩ := wd_freeze w2 h2 n0
    exact good ts p1 p2 hf a _ H2 bt w4 (s1.trans (s3.trans s4)) (keeps b2) ⟨dx, D, od2, kv2, upd_same, s4 _ _ hD, lv.same s4⟩ bo
def spTools (C : Addr) : Sp := fun vs H Q _ => ∃ (G : Hp) (a : Addr) (bt : List (Str × List Int)), vs = [.ref a] ∧ Gh G H ∧ LivesAt C G a bt ∧ Ret G H (fun v G' => ∃ p, v = .ref p ∧ G' p = some (.tup ((bt.map (·.1)).map V.str))) Q
theorem u_tools {C a : Addr} {e : En} {G H : Hp} {M : List Addr} {bt : List (Str × List Int)} {Q : VK} {E : XK} (w : Wd e G H M) (h : LivesAt C G a bt) (k : ∀ p G' H', Wd e G' H' M → Same G G' → Same H H' → G' p = some (.tup ((bt.map (·.1)).map V.str)) → Q (.ref p) H') : spTools C [.ref a] H Q E :=
  ⟨G, a, bt, rfl, w.gh, h, ret_use w fun v G' H' w' s1 s2 ⟨p, e1, h1⟩ => by subst e1; exact k p G' H' w' s1 s2 h1⟩
section
variable {X : Cx} {K : PySem.W.Frag} {tg l e : Expr} {tl te : TE} {es : List Expr} {t : TA} {p : Pos}
theorem pi_seqK (hK : X.K = K) (hl : PE X l tl) : PI X tg l (iSeq K tl) := by subst hK; exact pi_seq hl
theorem pa_starK (hK : X.K = K) (he : PE X e te) (hr : PA X es t) (hs : starEach (.Starred e p :: es) X.env = (true, eval e X.env) :: starEach es X.env := by rfl) : PA X (.Starred e p :: es) (StX.tStar K te t) := by subst hK; exact StX.pa_star he hr hs
end
def StarGo (K : PySem.W.Frag) (x : V) (H : Hp) (R : List V → Hp → Prop) : Prop := ∃ p xs, x = V.ref p ∧ (SqT K H p xs ∨ SqL K H p xs) ∧ R xs H
theorem r_tStar {K : PySem.W.Frag} {te : TE} {t : TA} {σ : L2.St} {H : Hp} {Q : List V → Hp → Prop} (q : te σ H fun x H1 => StarGo K x H1 fun xs H1 => t σ H1 fun ys H2 => Q (xs ++ ys) H2) : StX.tStar K te t σ H Q := q
theorem r_starL {K : PySem.W.Frag} {p : Addr} {xs : List V} {H : Hp} {R : List V → Hp → Prop} (h : SqL K H p xs) (q : R xs H) : StarGo K (.ref p) H R := ⟨p, xs, rfl, .inr h, q⟩
end Q
namespace Q
open PySem PySem.Spec PyProof.Rows L2
section
variable {K : PySem.W.Frag} {G : Hp}
/-- a dict gets one more -/
def putR (rows : List (Str × List V)) (s : Str) (xs : List V) : List (Str × List V) := if (rows.any fun r => decide (r.1 = s)) = true then rows.map (fun r => if r.1 = s then (r.1, xs) else r) else rows ++ [(s, xs)]
theorem BegAt.any {kvs : List (Key × V)} {rows : List (Str × List V)} (h : BegAt K G kvs rows) (s : Str) : (kvs.any fun kv => decide (kv.1 = (.inr s : Key))) = rows.any fun r => decide (r.1 = s) := by
  induction h with
  | nil => rfl
  | cons _ _ ih =>
    rename_i t a xs kvs rows _ _
    rw [List.any_cons, List.any_cons, ih]
    have e : decide ((Sum.inr t : Key) = .inr s) = decide (t = s) := by
      by_cases h : t = s
      · rw [h]; simp
      · have : ¬ (Sum.inr t : Key) = .inr s := fun z => h (Sum.inr.inj z)
        rw [decide_eq_false h, decide_eq_false this]
    rw [e]
theorem BegAt.put {kvs : List (Key × V)} {rows : List (Str × List V)} (h : BegAt K G kvs rows) {s : Str} {a : Addr} {xs : List V} (ha : SqA K G a xs) : BegAt K G (putK kvs (.inr s) (.ref a)) (putR rows s xs) := by
  unfold putK putR
  rw [h.any s]
  split
  · rename_i c
    clear c
    induction h with
    | nil => exact .nil
    | cons h1 _ ih =>
      rename_i t b ys kvs rows _
      rw [List.map_cons, List.map_cons]
      by_cases e : t = s
      · subst e
        rw [if_pos rfl, if_pos rfl]
        exact .cons ha ih
      · have e2 : ¬ (Sum.inr t : Key) = .inr s := fun z => e (Sum.inr.inj z)
        rw [if_neg e2, if_neg e]
        exact .cons h1 ih
  · rename_i c
    clear c
    induction h with
    | nil => exact .cons ha .nil
    | cons h1 _ ih => exact .cons h1 ih
theorem RowsOk.put {rows : List (Str × List V)} (h : RowsOk K G rows) {s : Str} {xs : List V} (hs : s.length ≤ 1000) (hx : xs.length ≤ 60) (ox : ∀ v ∈ xs, ∃ d, Odd K G v d) (os : ∃ d, Odd K G (.str s) d) (ot : PyData.strOk s = true) : RowsOk K G (putR rows s xs) := by
  have mem : ∀ r ∈ putR rows s xs, r ∈ rows ∨ r = (s, xs) := fun r hr => by
    unfold putR at hr
    split at hr
    · obtain ⟨q, h1, h2⟩ := List.mem_map.mp hr
      by_cases e : q.1 = s
      · rw [if_pos e] at h2
        exact .inr (by rw [← h2, e])
      · rw [if_neg e] at h2
        exact .inl (by rw [← h2]; exact h1)
    · rcases List.mem_append.mp hr with h1 | h1
      · exact .inl h1
      · exact .inr (List.mem_singleton.mp h1)
  refine ⟨fun r hr => ?_, fun r hr v hv => ?_, fun r hr => ?_, fun r hr => ?_⟩
  · rcases mem r hr with h1 | rfl
    · exact h.len r h1
    · exact ⟨hs, hx⟩
  · rcases mem r hr with h1 | rfl
    · exact h.odd r h1 v hv
    · exact ox v hv
  · rcases mem r hr with h1 | rfl
    · exact h.key r h1
    · exact os
  · rcases mem r hr with h1 | rfl
    · exact h.txt r h1
    · exact ot
theorem odd_name {z : Str} (h : nmOk z = true) : Odd K G (.str z) (.str z) := by
  have a := sh_str (z := z) (i := 0) ⟨h, by decide, by decide⟩
  have b := nmOk_len h
  exact odd_str (by omega) (by omega)
theorem odd_pos {i : Int} (h0 : 0 ≤ i) (h1 : i < 10 ^ 60) : Odd K G (.int i) (.int i) := by
  have l : i.natAbs.log2 < 1920 := by
    by_cases z : i.natAbs = 0
    · rw [z]; decide
    · refine (Nat.log2_lt z).mpr (Nat.lt_of_le_of_lt (m := 10 ^ 60) (by omega) ?_)
      exact Nat.lt_of_lt_of_le (m := 2 ^ 200) (by decide) (Nat.pow_le_pow_right (by decide) (by decide))
  refine odd_int ?_ (by simp [PyData.showable, l])
  have e : (PyData.int i).shown = Str.ofString (toString i) := by simp [PyData.shown]
  rw [e]
  exact Nat.le_trans (toString_length_le (k := 60) h0 (by decide) h1) (by decide)
end
structure HandAt (K : PySem.W.Frag) (G : Hp) (d : Addr) (rows : List (Str × List V)) : Prop where
  ex : ∃ od kvs, G d = some (.frz od (.dK kvs)) ∧ BegAt K G kvs rows ∧ (kvs.map (·.1)).Nodup
  ok : RowsOk K G rows
  len : rows.length ≤ 12
theorem HandAt.same {K : PySem.W.Frag} {G G' : Hp} {d : Addr} {rows : List (Str × List V)} (h : HandAt K G d rows) (s : Same G G') : HandAt K G' d rows := by
  obtain ⟨od, kvs, h1, h2, h3⟩ := h.ex
  exact ⟨⟨od, kvs, s _ _ h1, h2.same s, h3⟩, h.ok.same s, h.len⟩
def rNotInSign : R2 := fun x y H Q => ∃ (c : Nat) (z : Str), x = .str ⟨#[c]⟩ ∧ y = .str z ∧ Q (.bl (!decide (c ∈ z.cps.toList))) H
theorem r_notInSign {c : Nat} {z : Str} {H : Hp} {Qv : VK} (q : Qv (.bl (!decide (c ∈ z.cps.toList))) H) : rNotInSign (.str ⟨#[c]⟩) (.str z) H Qv := ⟨c, z, rfl, rfl, q⟩
theorem shaped_strs {l : List Str} (h : ∀ z ∈ l, PyData.strOk z = true) : SeqAt.shaped (.list (l.map PyData.str)) = true := by
  have a : ∀ l : List Str, (∀ z ∈ l, PyData.strOk z = true) → PyData.canLayAll0 (l.map PyData.str) = true ∧ PyData.depthAll (l.map PyData.str) = 0 := by
    intro l
    induction l with
    | nil => exact fun _ => ⟨by simp [PyData.canLayAll0], by simp [PyData.depthAll]⟩
    | cons z l ih =>
      intro h
      obtain ⟨i1, i2⟩ := ih fun y hy => h y (List.mem_cons_of_mem _ hy)
      have hz := h z List.mem_cons_self
      exact ⟨by simp [PyData.canLayAll0, PyData.canLay0, hz, i1], by simp [PyData.depthAll, PyData.depth, i2]⟩
  obtain ⟨a1, a2⟩ := a l h
  simp [SeqAt.shaped, PyData.canLay0, PyData.depth, a1, a2]
theorem filt_yes {α : Type} {p : α → Bool} {l : List α} {i : Nat} {x : α} (h : l[i]? = some x) (hp : p x = true) : (l.take (i + 1)).filter p = (l.take i).filter p ++ [x] := by
  rw [take_snoc h, List.filter_append, List.filter_cons_of_pos hp, List.filter_nil]
theorem filt_no {α : Type} {p : α → Bool} {l : List α} {i : Nat} {x : α} (h : l[i]? = some x) (hp : ¬ p x = true) : (l.take (i + 1)).filter p = (l.take i).filter p := by
  rw [take_snoc h, List.filter_append, List.filter_cons_of_neg hp, List.filter_nil, List.append_nil]
def rTupOf (K : PySem.W.Frag) : List V → Hp → VK → Prop := fun xs H Q => ∃ p ys, xs = [.ref p] ∧ ((SqL K H p ys ∧ ∀ l, H l = none → Q (.ref l) (upd H l (.tup ys))) ∨ (SqT K H p ys ∧ Q (.ref p) H))
theorem q_tupOf {X : Cx} : CallR X (.type "tuple") (rTupOf X.K) := call_tuple_of
theorem r_tupOf {K : PySem.W.Frag} {p : Addr} {ys : List V} {H : Hp} {Qv : VK} (h : SqL K H p ys) (q : Lay 0 (.tup ys) Qv H) : rTupOf K [.ref p] H Qv := ⟨p, ys, rfl, .inl ⟨h, q.2⟩⟩
end Q
namespace Q
open PySem PySem.Spec PyProof.Rows L2
end Q
namespace Q
open PySem PySem.Spec PyProof.Rows L2
end Q
namespace Q
open PySem PySem.Spec PyProof.Rows L2
end Q
namespace Q
open PySem PySem.Spec PyProof.Rows L2
theorem wd_dq' {e : En} {G G' H : Hp} {M : List Addr} {K : PySem.W.Frag} {xs : List V} {ds : List PyData} (w : Wd e G' H M) (h : DqAll K G xs ds) (s : Same G G') : DqAll K H xs ds := (same_dqAll (s.trans w.le) (sizeOf ds)).2 ds xs (Nat.le_refl _) h
end Q
namespace Q
open PySem PySem.Spec PyProof.Rows L2
section
variable {X : Cx} {CX : CXT} {k j : Nat} {C f : Addr} {fd : FuncData} {ps : List Str} {sp : Sp} {E : XK}
def rHas (C : Addr) (sp : Sp) (E : XK) (neg : Bool) : R2 := fun x y H Q => ∃ a dx fs, y = .ref a ∧ H a = some (.ins C dx fs) ∧ sp [y, x] H (fun v H' => ∃ b, v = .bl b ∧ Q (.bl (if neg = true then !b else b)) H') E
theorem has_run (D : SpD X.prog X.w X.K X.mg X.base CX k C "__contains__" sp) (hr : Room j X.A) (hx : Passes CX X E) (hj : k ≤ j) {pins : List (Addr × Obj)} {σ : L2.St} {H : Hp} {s : Shared} {a dx : Addr} {fs : List (Str × V)} {x : V} {v : Value} {R : Bool → Shared → Prop}
    (I : Inv X pins σ H s) (rx : RelV x v) (ea : H a = some (.ins C dx fs)) {Qv : VK} (h : sp [.ref a, x] H Qv E) (hq : ∀ b H' s', Inv X pins σ H' s' → Qv (.bl b) H' → R b s') (hb : ∀ v H', Qv v H' → ∃ b, v = .bl b) : wpAny (model X.prog X.w) X.A (contains (.ref a) v) R X.xe s := by
  obtain ⟨f, fd, ps, hs, hf, hbd, F⟩ := D.ex
  obtain ⟨mA, O, _, _, _, _⟩ := ins_get I.hok ea
  obtain ⟨od, J, _⟩ := O.look
  have XX := I.kIn
  unfold contains
  refine wpAny_holding ?_
  have e0 : stdlibNamesSay? (.ref a) v = none := by cases v <;> rfl
  simp only [e0]
  unfold callSpecialUnlessNone? specialOf
  refine wpAny_bind (wpAny_bind (J.type.here ((PySem.W.looks_findIn XX hs).here ?_)))
  rw [if_neg (show ¬ ((some (Value.ref f) == some Value.none) = true) from fun z => nomatch (show false = true from z))]
  refine wpAny_bind (wpAny_bind (wpAny_bind (J.type.here ((PySem.W.looks_findIn XX hs).here (wpAny_holding (wpAny_bind ((PySem.W.bind_fn XX _ (beq_iff_eq.mp hf)).here ?_)))))))
  show wpAny _ _ (if (Value.ref f == Value.none) = true then _ else _) _ _ _
  rw [if_neg (show ¬ ((Value.ref f == Value.none) = true) from fun z => nomatch (show false = true from z))]
  refine wpAny_bind (wpAny_mono (run_under (us := [.ref a, v]) (vs := [.ref a, x]) F (hr.mono hj) I.env0 hbd hx I (.cons rfl (.cons rx .nil)) h) (fun u s' z => wpAny_pure ?_) fun _ _ z => z)
  obtain ⟨z', H', I', rz, qz⟩ := z
  obtain ⟨b, rfl⟩ := hb _ _ qz
  cases (show u = Value.bool b from rz)
  exact wpAny_pure (hq b H' s' I' qz)
theorem q_ninD (D : SpD X.prog X.w X.K X.mg X.base CX k C "__contains__" sp) (hr : Room j X.A) (hx : Passes CX X E) (hj : k ≤ j := by decide) : OpR X (compareOp .NotIn) (rHas C sp E true) := by
  intro pins s σ H x y v u Q I rx ry h
  obtain ⟨a, dx, fs, rfl, ea, q⟩ := h
  cases (show u = Value.ref a from ry)
  exact wpAny_bind (has_run D hr hx hj I rx ea q (fun b H' s' I' ⟨b', e, q'⟩ => by cases e; exact wpAny_pure ⟨.bl !b, H', I', rfl, q'⟩) fun v H' ⟨b, e, _⟩ => ⟨b, e⟩)
theorem r_hasT {H : Hp} {x : V} {a dx : Addr} {fs : List (Str × V)} {Qv : VK} (h : H a = some (.ins C dx fs)) (q : sp [.ref a, x] H (fun v H' => ∃ b, v = .bl b ∧ Qv (.bl !b) H') E) : rHas C sp E true x (.ref a) H Qv := ⟨a, dx, fs, rfl, h, q⟩
end
end Q
namespace Q
open PySem PySem.Spec PyProof.Rows L2
section
variable {X : Cx}
def rDIn (neg : Bool) : R2 := fun y x H Q => ∃ a o, x = .ref a ∧ DGet H a y o ∧ Q (.bl (if neg = true then !o.isSome else o.isSome)) H
theorem q_dIn (hu : X.A.units + 1 < cLine) : OpR X (compareOp .In) (rDIn false) := by
  intro pins s σ H x y v u Q I rx ry h
  obtain ⟨a, o, rfl, g, q⟩ := h
  cases (show u = Value.ref a from ry)
  exact d_in hu I g rx fun s3 I3 => ⟨.bl o.isSome, H, I3, rfl, q⟩
theorem q_dNotIn (hu : X.A.units + 1 < cLine) : OpR X (compareOp .NotIn) (rDIn true) := by
  intro pins s σ H x y v u Q I rx ry h
  obtain ⟨a, o, rfl, g, q⟩ := h
  cases (show u = Value.ref a from ry)
  exact d_notIn hu I g rx fun s3 I3 => ⟨.bl !o.isSome, H, I3, rfl, q⟩
theorem r_dInT {H : Hp} {a : Addr} {y v : V} {Qv : VK} (g : DGet H a y (some v)) (q : Qv (.bl true) H) : rDIn false y (.ref a) H Qv := ⟨a, _, rfl, g, q⟩
theorem r_dInF {H : Hp} {a : Addr} {y : V} {Qv : VK} (g : DGet H a y none) (q : Qv (.bl false) H) : rDIn false y (.ref a) H Qv := ⟨a, _, rfl, g, q⟩
theorem r_dNinF {H : Hp} {a : Addr} {y v : V} {Qv : VK} (g : DGet H a y (some v)) (q : Qv (.bl false) H) : rDIn true y (.ref a) H Qv := ⟨a, _, rfl, g, q⟩
theorem r_dNinT {H : Hp} {a : Addr} {y : V} {Qv : VK} (g : DGet H a y none) (q : Qv (.bl true) H) : rDIn true y (.ref a) H Qv := ⟨a, _, rfl, g, q⟩
end
def nsOf (bt : List (Str × List Int)) (s : Str) : Option (List Int) := (bt.find? fun p => decide (p.1 = s)).map (·.2)
def toolOf (bt : List (Str × List Int)) : V → Option (List Int)
  | .str s => nsOf bt s
  | _ => none
def isLife (bt : List (Str × List Int)) : Option (List V) → Bool
  | some [.str s, .int i] => (match nsOf bt s with
    | some ns => decide (i ∈ ns)
    | none => false)
  | _ => false
theorem LvAt.val {G : Hp} {kvs : List (Key × V)} {bt : List (Str × List Int)} (h : LvAt G kvs bt) (s : Str) : (nsOf bt s = none ∧ valV kvs (.inr s) = none) ∨ ∃ ra ns, nsOf bt s = some ns ∧ valV kvs (.inr s) = some (.ref ra) ∧ G ra = some (.tup (ns.map V.int)) := by
  induction h with
  | nil => exact .inl ⟨rfl, rfl⟩
  | cons h1 _ ih =>
    rename_i t a ns kvs bt _
    by_cases e : t = s
    · refine .inr ⟨a, ns, ?_, ?_, h1⟩
      · simp [nsOf, List.find?_cons, e]
      · rw [valV_pos (by rw [e])]
    · have e2 : ¬ (Sum.inr t : Key) = .inr s := fun z => e (Sum.inr.inj z)
      have a1 : nsOf ((t, ns) :: bt) s = nsOf bt s := by simp [nsOf, List.find?_cons, e]
      rw [a1, valV_neg (p := ((Sum.inr t : Key), V.ref a)) e2]
      exact ih
theorem nsOf_mem {bt : List (Str × List Int)} {s : Str} {ns : List Int} (h : nsOf bt s = some ns) : (s, ns) ∈ bt := by
  unfold nsOf at h
  obtain ⟨p, hp, rfl⟩ := Option.map_eq_some_iff.mp h
  have e := List.find?_some hp
  have e := of_decide_eq_true e
  subst e
  exact List.mem_of_find?_eq_some hp
/-- a tuple, with what lies in it, or none -/
def TuV (K : PySem.W.Frag) (G : Hp) (v : V) : Option (List V) → Prop
  | none => ∃ t, TyX K G v t ∧ PySem.W.kitOne K t (.type "tuple") = some false
  | some ys => ∃ p, v = .ref p ∧ G p = some (.tup ys) ∧ ∀ y ∈ ys, ∃ t, Kd K G y t
def nextOf (ns : List Int) (b : Int) : Int := match ns.filter (fun k => decide (b < k)) with
  | [] => 1000000000000000000000000000000
  | k :: _ => k - 1
section
variable {K : PySem.W.Frag} {C Ct Cl Cm a : Addr} {e : En} {G H : Hp} {M : List Addr} {bt : List (Str × List Int)} {x y : V} {t u : Value} {Q : VK} {E : XK}
def spBegin (K : PySem.W.Frag) (C Ct : Addr) : Sp := fun vs H Q E => ∃ (G : Hp) (a : Addr) (bt : List (Str × List Int)) (x : V) (t : Value), vs = [.ref a, x] ∧ Gh G H ∧ LivesAt C G a bt ∧ Kd K G x t ∧
  (∀ ns, toolOf bt x = some ns → Ret G H (fun v G' => ∃ p, v = .ref p ∧ G' p = some (.tup (ns.map V.int))) Q) ∧ (toolOf bt x = none → RetX G H Ct "tool" x E)
theorem u_begin (w : Wd e G H M) (h : LivesAt C G a bt) (hx : Kd K G x t) (good : ∀ ns p G' H', toolOf bt x = some ns → Wd e G' H' M → Same G G' → Same H H' → G' p = some (.tup (ns.map V.int)) → Q (.ref p) H')
    (bad : toolOf bt x = none → ∀ d G' H', Wd e G' H' M → Same G G' → Same H H' → G' d = some (.xd [("tool", x)]) → E (.ref Ct) (some d) H') : spBegin K C Ct [.ref a, x] H Q E :=
  ⟨G, a, bt, x, t, rfl, w.gh, h, hx, fun ns hn => ret_use w fun v G' H' w' s1 s2 ⟨p, e1, h1⟩ => by subst e1; exact good ns p G' H' hn w' s1 s2 h1, fun n => retX_use w (bad n)⟩
def spHas (K : PySem.W.Frag) (C : Addr) : Sp := fun vs H Q _ => ∃ (G : Hp) (a : Addr) (bt : List (Str × List Int)) (x : V) (q : Option (List V)), vs = [.ref a, x] ∧ Gh G H ∧ LivesAt C G a bt ∧ TuV K G x q ∧ Ret G H (fun v _ => v = .bl (isLife bt q)) Q
theorem u_has {q : Option (List V)} (w : Wd e G H M) (h : LivesAt C G a bt) (hx : TuV K G x q) (k : ∀ G' H', Wd e G' H' M → Same G G' → Same H H' → Q (.bl (isLife bt q)) H') : spHas K C [.ref a, x] H Q E :=
  ⟨G, a, bt, x, q, rfl, w.gh, h, hx, ret_use w fun v G' H' w' s1 s2 e1 => by subst e1; exact k G' H' w' s1 s2⟩
def spLastOf (K : PySem.W.Frag) (C Cl : Addr) : Sp := fun vs H Q E => ∃ (G : Hp) (a : Addr) (bt : List (Str × List Int)) (x : V) (q : Option (List V)), vs = [.ref a, x] ∧ Gh G H ∧ LivesAt C G a bt ∧ TuV K G x q ∧ (∀ p ∈ bt, p.2.length ≤ 1000) ∧
  (∀ s i ns, q = some [.str s, .int i] → nsOf bt s = some ns → i ∈ ns → Ret G H (fun v _ => v = .int (nextOf ns i)) Q) ∧ (isLife bt q = false → RetX G H Cl "value" x E)
theorem u_lastOf {q : Option (List V)} (w : Wd e G H M) (h : LivesAt C G a bt) (hx : TuV K G x q) (hb : ∀ p ∈ bt, p.2.length ≤ 1000) (good : ∀ s i ns, q = some [.str s, .int i] → nsOf bt s = some ns → i ∈ ns → ∀ G' H', Wd e G' H' M → Same G G' → Same H H' → Q (.int (nextOf ns i)) H')
    (bad : isLife bt q = false → ∀ d G' H', Wd e G' H' M → Same G G' → Same H H' → G' d = some (.xd [("value", x)]) → E (.ref Cl) (some d) H') : spLastOf K C Cl [.ref a, x] H Q E :=
  ⟨G, a, bt, x, q, rfl, w.gh, h, hx, hb, fun s i ns h1 h2 h3 => ret_use w fun v G' H' w' s1 s2 e1 => by subst e1; exact good s i ns h1 h2 h3 G' H' w' s1 s2, fun n => retX_use w (bad n)⟩
end
end Q
namespace Q
open PySem PySem.Spec PyProof.Rows L2
theorem inV_ints {i : Int} : ∀ {ns : List Int}, inV (.int i) (ns.map V.int) = decide (i ∈ ns)
  | [] => rfl
  | n :: ns => by
    have ih : ((ns.map V.int).any fun y => eqV y (.int i)) = decide (i ∈ ns) := inV_ints (i := i) (ns := ns)
    have e : eqV (.int n) (.int i) = decide (n = i) := rfl
    show (eqV (.int n) (.int i) || (ns.map V.int).any fun y => eqV y (.int i)) = decide (i ∈ n :: ns)
    rw [ih, e]
    by_cases h1 : n = i
    · rw [decide_eq_true h1, Bool.true_or, decide_eq_true (List.mem_cons.mpr (.inl h1.symm))]
    · rw [decide_eq_false h1, Bool.false_or]
      by_cases h2 : i ∈ ns
      · rw [decide_eq_true h2, decide_eq_true (List.mem_cons_of_mem _ h2)]
      · rw [decide_eq_false h2, decide_eq_false fun h => (List.mem_cons.mp h).elim (fun z => h1 z.symm) h2]
theorem flat_ints : ∀ {ns : List Int}, (ns.map V.int).all flatV = true
  | [] => rfl
  | n :: ns => by rw [List.map_cons, List.all_cons, flat_ints]; rfl
end Q
namespace Q
open PySem PySem.Spec PyProof.Rows L2
theorem isLife_to {bt : List (Str × List Int)} {q : Option (List V)} (h : isLife bt q = true) : ∃ s i ns, q = some [.str s, .int i] ∧ nsOf bt s = some ns ∧ i ∈ ns := by
  match q, h with
  | some [.str s, .int i], h =>
    have h : (match nsOf bt s with
      | some ns => decide (i ∈ ns)
      | none => false) = true := h
    cases e : nsOf bt s with
    | none => rw [e] at h; cases h
    | some ns => rw [e] at h; exact ⟨s, i, ns, rfl, e, of_decide_eq_true h⟩
theorem r_gTup {K : PySem.W.Frag} {n : Nat} {t : TGs} {a : Addr} {xs : List V} {σ : L2.St} {H : Hp} {Q : L2.St → Hp → Prop} (h : SqT K H a xs) (hl : xs.length = n) (q : t xs σ H Q) : gTup K n t (.ref a) σ H Q := ⟨a, xs, rfl, h, hl, q⟩
theorem r_gCons {t : TG} {u : TGs} {v : V} {r : List V} {σ : L2.St} {H : Hp} {Q : L2.St → Hp → Prop} (q : t v σ H fun σ' H' => u r σ' H' Q) : gCons t u (v :: r) σ H Q := ⟨v, r, rfl, q⟩
end Q
namespace Q
open PySem PySem.Spec PyProof.Rows L2
inductive LsAt (G : Hp) : List (Key × V) → List (Str × List Int) → Prop
  | nil : LsAt G [] []
  | cons {s : Str} {a : Addr} {ns : List Int} {kvs : List (Key × V)} {bt : List (Str × List Int)} (h : G a = some (.lst (ns.map V.int))) (r : LsAt G kvs bt) : LsAt G ((.inr s, .ref a) :: kvs) ((s, ns) :: bt)
section
variable {G G' : Hp} {kvs : List (Key × V)} {bt : List (Str × List Int)}
theorem LsAt.same (h : LsAt G kvs bt) (s : Same G G') : LsAt G' kvs bt := by
  induction h with
  | nil => exact .nil
  | cons h _ ih => exact .cons (s _ _ h) ih
theorem LsAt.snoc (r : LsAt G kvs bt) {s : Str} {a : Addr} {ns : List Int} (h : G a = some (.lst (ns.map V.int))) : LsAt G (kvs ++ [(.inr s, .ref a)]) (bt ++ [(s, ns)]) := by
  induction r with
  | nil => exact .cons h .nil
  | cons h2 _ ih => exact .cons h2 ih
theorem LsAt.len (h : LsAt G kvs bt) : kvs.length = bt.length := by
  induction h with
  | nil => rfl
  | cons _ _ ih => simp [ih]
theorem LsAt.val (h : LsAt G kvs bt) (s : Str) : (nsOf bt s = none ∧ valV kvs (.inr s) = none) ∨ ∃ ra ns, nsOf bt s = some ns ∧ valV kvs (.inr s) = some (.ref ra) ∧ G ra = some (.lst (ns.map V.int)) := by
  induction h with
  | nil => exact .inl ⟨rfl, rfl⟩
  | cons h1 _ ih =>
    rename_i t a ns kvs bt _
    by_cases e : t = s
    · refine .inr ⟨a, ns, ?_, ?_, h1⟩
      · simp [nsOf, List.find?_cons, e]
      · rw [valV_pos (by rw [e])]
    · have e2 : ¬ (Sum.inr t : Key) = .inr s := fun z => e (Sum.inr.inj z)
      have a1 : nsOf ((t, ns) :: bt) s = nsOf bt s := by simp [nsOf, List.find?_cons, e]
      rw [a1, valV_neg (p := ((Sum.inr t : Key), V.ref a)) e2]
      exact ih
end
theorem nsOf_in {bt : List (Str × List Int)} {s : Str} (h : s ∈ bt.map (·.1)) : ∃ ns, nsOf bt s = some ns := by
  cases e : nsOf bt s with
  | some ns => exact ⟨ns, rfl⟩
  | none =>
    obtain ⟨p, hp, rfl⟩ := List.mem_map.mp h
    unfold nsOf at e
    have := List.find?_eq_none.mp (Option.map_eq_none_iff.mp e) p hp
    simp at this
def StartsOk (ns : List Int) : Prop := ∃ ms : List Int, ns = 0 :: ms ∧ ms.Pairwise (· < ·) ∧ (∀ k ∈ ms, 1 ≤ k ∧ k ≤ 1000000000000000000000000000000) ∧ ms.length ≤ 6
structure StAt (G : Hp) (d : Addr) (bt : List (Str × List Int)) : Prop where
  ex : ∃ od kvs, G d = some (.frz od (.dK kvs)) ∧ LsAt G kvs bt
  ok : ∀ q ∈ bt, StartsOk q.2
theorem StAt.same {G G' : Hp} {d : Addr} {bt : List (Str × List Int)} (h : StAt G d bt) (s : Same G G') : StAt G' d bt := by
  obtain ⟨od, kvs, h1, h2⟩ := h.ex
  exact ⟨⟨od, kvs, s _ _ h1, h2.same s⟩, h.ok⟩
section
variable {K : PySem.W.Frag} {e : En} {G H : Hp} {M : List Addr} {p c l : Addr} {n : Nat} {ts : List Str} {ns : List Int} {Q : VK} {E : XK}
def lastsOf (ns : List Int) : List Int := (ns.drop 1).map (· - 1) ++ [1000000000000000000000000000000]
end
end Q
namespace Q
open PySem PySem.Spec PyProof.Rows L2
end Q
namespace Q
open PySem PySem.Spec PyProof.Rows L2
theorem asc_drop {b : Int} : ∀ {ns : List Int} {k : Nat}, ns.Pairwise (· < ·) → ns[k]? = some b → ns.filter (fun j => decide (b < j)) = ns.drop (k + 1)
  | x :: xs, 0, h, e => by
    obtain ⟨h1, h2⟩ := List.pairwise_cons.mp h
    cases e
    rw [List.filter_cons_of_neg (by simp), List.drop_succ_cons, List.drop_zero]
    exact List.filter_eq_self.mpr fun y hy => decide_eq_true (h1 y hy)
  | x :: xs, k + 1, h, e => by
    obtain ⟨h1, h2⟩ := List.pairwise_cons.mp h
    have e2 : xs[k]? = some b := by simpa using e
    have m := h1 b (List.mem_of_getElem? e2)
    rw [List.filter_cons_of_neg (by simp; omega), List.drop_succ_cons]
    exact asc_drop h2 e2
theorem next_at {ns : List Int} {k : Nat} {b : Int} (h : ns.Pairwise (· < ·)) (e : ns[k]? = some b) : (lastsOf ns)[k]? = some (nextOf ns b) := by
  have hk : k < ns.length := (List.getElem?_eq_some_iff.mp e).1
  unfold nextOf lastsOf
  rw [asc_drop h e]
  cases hd : ns.drop (k + 1) with
  | nil =>
    have hl : ns.length ≤ k + 1 := List.drop_eq_nil_iff.mp hd
    rw [List.getElem?_append_right (by simp; omega)]
    have : k - ((ns.drop 1).map (· - 1)).length = 0 := by simp; omega
    rw [this]
    rfl
  | cons y r =>
    have e2 : ns[k + 1]? = some y := by
      have := congrArg List.head? hd
      rw [List.head?_drop] at this
      exact this
    have hk2 : k + 1 < ns.length := (List.getElem?_eq_some_iff.mp e2).1
    rw [List.getElem?_append_left (by simp; omega), List.getElem?_map, List.getElem?_drop, Nat.add_comm 1 k, e2]
    rfl
theorem StartsOk.len {ns : List Int} (h : StartsOk ns) : ns.length ≤ 7 := by
  obtain ⟨ms, rfl, _, _, l⟩ := h
  simpa using l
theorem isLife_yes {bt : List (Str × List Int)} {s : Str} {i : Int} {ns : List Int} (h : nsOf bt s = some ns) (hm : i ∈ ns) : isLife bt (some [.str s, .int i]) = true := by
  simp [isLife, h, hm]
theorem lasts_len {ns : List Int} (h : ns ≠ []) : (lastsOf ns).length = ns.length := by
  unfold lastsOf
  cases ns with
  | nil => exact absurd rfl h
  | cons x xs => simp
end Q
namespace Q
open PySem PySem.Spec PyProof.Rows L2
end Q
namespace Q
open PySem PySem.Spec PyProof.Rows L2
end Q
namespace Q
open PySem PySem.Spec PyProof.Rows L2
end Q
namespace Q
open PySem PySem.Spec PyProof.Rows L2
end Q
namespace Q
open PySem PySem.Spec PyProof.Rows L2
theorem mergeK_go : ∀ (more kvs : List (Key × V)), ((kvs ++ more).map (·.1)).Nodup → mergeK kvs more = kvs ++ more
  | [], kvs, _ => by rw [List.append_nil]; rfl
  | kv :: r, kvs, h => by
    have none : valV kvs kv.1 = none := by
      have z : (kvs.any fun p => decide (p.1 = kv.1)) = (valV kvs kv.1).isSome := valV_any kv.1 kvs
      cases e : valV kvs kv.1 with
      | none => rfl
      | some v =>
        rw [e] at z
        obtain ⟨p, hp, q⟩ := List.any_eq_true.mp (z.trans rfl)
        rw [List.map_append, List.nodup_append] at h
        exact absurd (of_decide_eq_true q) (h.2.2 _ (List.mem_map.mpr ⟨p, hp, rfl⟩) _ (List.mem_map.mpr ⟨kv, List.mem_cons_self, rfl⟩))
    show mergeK (putK kvs kv.1 kv.2) r = _
    rw [putK_new _ none, mergeK_go r _ (by rw [List.append_assoc]; exact h), List.append_assoc]
    rfl
theorem mergeK_nd {kvs : List (Key × V)} (h : (kvs.map (·.1)).Nodup) : mergeK [] kvs = kvs := mergeK_go kvs [] h
def rDictP (K : PySem.W.Frag) : List V → Hp → VK → Prop := fun xs H Q => ∃ (a : Addr) (ps : List Addr) (kvs : List (Key × V)), xs = [.ref a] ∧ SqL K H a (ps.map V.ref) ∧ Paired (fun p kv => SqT K H p [kV kv.1, kv.2]) ps kvs ∧ ∀ p, H p = none → Q (.ref p) (upd H p (.dK (mergeK [] kvs)))
theorem q_dictP {X : Cx} (hc : X.calm = true) : CallR X (.type "dict") (rDictP X.K) := call_dictP hc
theorem r_dictP {K : PySem.W.Frag} {a : Addr} {ps : List Addr} {kvs : List (Key × V)} {H : Hp} {Qv : VK} (h : SqL K H a (ps.map V.ref)) (hp : Paired (fun p kv => SqT K H p [kV kv.1, kv.2]) ps kvs) (nd : (kvs.map (·.1)).Nodup) (q : LayM 0 (.dK kvs) Qv H) : rDictP K [.ref a] H Qv :=
  ⟨a, ps, kvs, rfl, h, hp, by rw [mergeK_nd nd]; exact q.2⟩
end Q
namespace Q
open PySem PySem.Spec PyProof.Rows L2
/-- pairs of texts and lists -/
inductive DrAt (G : Hp) : List Addr → List (Key × V) → List (Str × List V) → Prop
  | nil : DrAt G [] [] []
  | cons {p b : Addr} {t : Str} {xs : List V} {ps : List Addr} {kvs : List (Key × V)} {rows : List (Str × List V)} (h1 : G p = some (.tup [.str t, .ref b])) (h2 : G b = some (.lst xs)) (r : DrAt G ps kvs rows) : DrAt G (p :: ps) ((.inr t, .ref b) :: kvs) ((t, xs) :: rows)
section
variable {K : PySem.W.Frag} {G G' : Hp} {ps : List Addr} {kvs : List (Key × V)} {rows : List (Str × List V)}
theorem DrAt.same (h : DrAt G ps kvs rows) (s : Same G G') : DrAt G' ps kvs rows := by
  induction h with
  | nil => exact .nil
  | cons h1 h2 _ ih => exact .cons (s _ _ h1) (s _ _ h2) ih
theorem DrAt.snoc (r : DrAt G ps kvs rows) {p b : Addr} {t : Str} {xs : List V} (h1 : G p = some (.tup [.str t, .ref b])) (h2 : G b = some (.lst xs)) : DrAt G (ps ++ [p]) (kvs ++ [(.inr t, .ref b)]) (rows ++ [(t, xs)]) := by
  induction r with
  | nil => exact .cons h1 h2 .nil
  | cons g1 g2 _ ih => exact .cons g1 g2 ih
theorem DrAt.pairs (h : DrAt G ps kvs rows) (s : Same G G') : Paired (fun p kv => SqT K G' p [kV kv.1, kv.2]) ps kvs := by
  induction h with
  | nil => exact .nil
  | cons h1 _ _ ih => exact .cons (SqT.of (s _ _ h1)) ih
theorem DrAt.beg (h : DrAt G ps kvs rows) : BegAt K G kvs rows := by
  induction h with
  | nil => exact .nil
  | cons _ h2 _ ih => exact .cons (.inl (SqL.of h2)) ih
end
end Q
namespace Q
open PySem PySem.Spec PyProof.Rows L2
section
variable {K : PySem.W.Frag} {G : Hp} {bt bL : List (Str × List Int)} {t : Str} {ns : List Int} {ts : List Str} {Cn Cm : Addr}
theorem nsOf_at (nd : (bt.map (·.1)).Nodup) (h : (t, ns) ∈ bt) : nsOf bt t = some ns := by
  induction bt with
  | nil => cases h
  | cons q bt ih =>
    obtain ⟨n1, n2⟩ := List.nodup_cons.mp (show (q.1 :: bt.map (·.1)).Nodup from nd)
    rcases List.mem_cons.mp h with e | m
    · subst e
      simp [nsOf, List.find?_cons]
    · have ne : ¬ q.1 = t := fun z => n1 (List.mem_map.mpr ⟨_, m, z.symm⟩)
      have a1 : nsOf (q :: bt) t = nsOf bt t := by simp [nsOf, List.find?_cons, ne]
      rw [a1]
      exact ih n2 m
theorem StartsOk.tail (h : StartsOk ns) : ns = 0 :: ns.drop 1 ∧ (ns.drop 1).Pairwise (· < ·) ∧ (∀ k ∈ ns.drop 1, 1 ≤ k ∧ k ≤ 1000000000000000000000000000000) ∧ (ns.drop 1).length ≤ 6 := by
  obtain ⟨ms, rfl, h1, h2, h3⟩ := h
  exact ⟨rfl, h1, h2, h3⟩
theorem faultL_ok : ∀ {ts : List Str} {rows : List (Str × List V)}, (∀ t ∈ ts, nmOk t = true ∧ ∃ xs, rowOf rows t = some xs ∧ ∀ v ∈ xs, momV v 1 = true) → faultL Cn Cm rows ts = none
  | [], _, _ => rfl
  | t :: ts, rows, h => by
    obtain ⟨a, xs, b, c⟩ := h t List.mem_cons_self
    rw [faultL_go a b c]
    exact faultL_ok fun u hu => h u (List.mem_cons_of_mem _ hu)
end
end Q
namespace Q
open PySem PySem.Spec PyProof.Rows L2
theorem nodup_inr : ∀ {ts : List Str}, ts.Nodup → (ts.map fun t => (Sum.inr t : Key)).Nodup
  | [], _ => List.nodup_nil
  | t :: ts, h => by
    obtain ⟨a, b⟩ := List.nodup_cons.mp h
    refine List.nodup_cons.mpr ⟨fun m => ?_, nodup_inr b⟩
    obtain ⟨u, hu, e⟩ := List.mem_map.mp m
    cases e
    exact a hu
end Q
namespace Q
open PySem PySem.Spec PyProof.Rows L2
end Q
namespace Q
open PySem PySem.Spec PyProof.Rows L2
def TPairs (K : PySem.W.Frag) (H : Hp) : List Addr → List (List Key × V) → Prop := Paired fun p kv => ∃ b, SqT K H p [.ref b, kv.2] ∧ H b = some (.tup (kv.1.map kV))
end Q
namespace Q
open PySem PySem.Spec PyProof.Rows L2
section
variable {X : Cx} {pins : List (Addr × Obj)} {σ : L2.St} {H : Hp} {s : Shared}
/-- {k: v for target in iter if ..}, keys tuples -/
def tDcT (wi : TI) (g : TG) (tt : TT) (tk tv : TE) (vs : List Nat) : TE := fun σ H Q => wi σ H fun J H1 => ∀ D, H1 D = none → ∃ W : Nat → Nat → Hp → Prop, (∃ m, W 0 m (upd H1 D (.dT []))) ∧ ∀ i m H, W i m H →
  (J.stop i H ∧ Q (.ref D) H) ∨ (J.go i H ∧ ∃ Nx : Hp → Prop, (∀ H', Nx H' → ∃ m', m' < m ∧ W (i + 1) m' H') ∧ ∀ x H', J.yld i H x H' → g x (wipe σ vs) H' fun σ2 H2 => wipe σ2 vs = wipe σ vs ∧ tt σ2 H2 fun b H3 =>
    if b = true then tk σ2 H3 fun y H4 => tv σ2 H4 fun z H5 => ∃ kvs k b, y = .ref b ∧ H5 b = some (.tup (k.map kV)) ∧ H5 D = some (.dT kvs) ∧ kvs.length < sizeLine ∧ Nx (upd H5 D (.dT (putK kvs k z))) else Nx H3)
end
end Q
namespace Q
open PySem PySem.Spec PyProof.Rows L2
section
variable {X : Cx} {K : PySem.W.Frag} {H : Hp} {Qv : VK} {a d : Addr} {od : Obj} {kvs : List (List Key × V)}
def rLenF : List V → Hp → VK → Prop := fun xs H Q => ∃ (p : Addr) (od : Obj) (kvs : List (List Key × V)), xs = [.ref p] ∧ H p = some (.frz od (.dT kvs)) ∧ Q (.int (kvs.length : Nat)) H
theorem r_lenF (h : H a = some (.frz od (.dT kvs))) (q : Qv (.int (kvs.length : Nat)) H) : rLenF [.ref a] H Qv := ⟨a, od, kvs, rfl, h, q⟩
def rIsiF : List V → Hp → VK → Prop := fun xs H Q => ∃ (p : Addr) (od : Obj) (kvs : List (List Key × V)), xs = [.ref p, .ty "dict"] ∧ H p = some (.frz od (.dT kvs)) ∧ Q (.bl true) H
theorem r_isiF (h : H a = some (.frz od (.dT kvs))) (q : Qv (.bl true) H) : rIsiF [.ref a, .ty "dict"] H Qv := ⟨a, od, kvs, rfl, h, q⟩
end
def DtAdd (Dd : Addr) (P : Hp → Prop) (y z : V) (H5 : Hp) : Prop := ∃ kvs k b, y = .ref b ∧ H5 b = some (.tup (k.map kV)) ∧ H5 Dd = some (.dT kvs) ∧ kvs.length < sizeLine ∧ P (upd H5 Dd (.dT (putK kvs k z)))
def DtT (Dd : Addr) (P : Hp → Prop) (tt : TT) (tk tv : TE) (vs : List Nat) (σ : L2.St) : L2.St → Hp → Prop := fun σ2 H2 => wipe σ2 vs = wipe σ vs ∧ tt σ2 H2 fun b H3 => if b = true then tk σ2 H3 fun y H4 => tv σ2 H4 fun z H5 => DtAdd Dd P y z H5 else P H3
def DtGo (J : It) (g : TG) (tt : TT) (tk tv : TE) (vs : List Nat) (σ : L2.St) (Q : VK) (H1 : Hp) : Prop := ∀ D, H1 D = none → ∃ W : Nat → Nat → Hp → Prop, (∃ m, W 0 m (upd H1 D (.dT []))) ∧ ∀ i m H, W i m H →
  (J.stop i H ∧ Q (.ref D) H) ∨ (J.go i H ∧ ∃ Nx : Hp → Prop, (∀ H', Nx H' → ∃ m', m' < m ∧ W (i + 1) m' H') ∧ ∀ x H', J.yld i H x H' → g x (wipe σ vs) H' (DtT D Nx tt tk tv vs σ))
theorem r_dt {wi : TI} {g : TG} {tt : TT} {tk tv : TE} {vs : List Nat} {σ : L2.St} {H : Hp} {Q : VK} (q : wi σ H fun J H1 => DtGo J g tt tk tv vs σ Q H1) : tDcT wi g tt tk tv vs σ H Q := q
theorem r_dtT {Dd : Addr} {P : Hp → Prop} {tt : TT} {tk tv : TE} {vs : List Nat} {σ σ2 : L2.St} {H : Hp} (h : wipe σ2 vs = wipe σ vs) (q : tt σ2 H fun b H3 => if b = true then tk σ2 H3 fun y H4 => tv σ2 H4 fun z H5 => DtAdd Dd P y z H5 else P H3) : DtT Dd P tt tk tv vs σ σ2 H := ⟨h, q⟩
def DtP (e : En) (G : Hp) (M : List Addr) (R : Nat → List (List Key × V) → Hp → Hp → Prop) (Dd : Addr) (i : Nat) (H : Hp) : Prop := ∃ kvs Gi, Wd e Gi H (Dd :: M) ∧ Same G Gi ∧ H Dd = some (.dT kvs) ∧ kvs.length ≤ i ∧ R i kvs Gi H
theorem r_dtAdd {e : En} {G Gy H4 : Hp} {M : List Addr} {R : Nat → List (List Key × V) → Hp → Hp → Prop} {Dd b : Addr} {i : Nat} {kvs : List (List Key × V)} {k : List Key} {z : V} (w : Wd e Gy H4 (Dd :: M)) (s : Same G Gy) (h : H4 Dd = some (.dT kvs)) (hl : kvs.length ≤ i) (hi : i ≤ 1000000) (hb : H4 b = some (.tup (k.map kV)))
    (go : ∀ H5, Wd e Gy H5 (Dd :: M) → But Dd H4 H5 → R (i + 1) (putK kvs k z) Gy H5) : DtAdd Dd (DtP e G M R Dd (i + 1)) (.ref b) z H4 := by
  have w5 := wd_mut (o := .dT (putK kvs k z)) w List.mem_cons_self
  exact ⟨kvs, k, b, rfl, hb, h, Nat.lt_of_le_of_lt (Nat.le_trans hl hi) (by decide), _, Gy, w5, s, upd_same, Nat.le_trans (length_putK _ _ _) (Nat.add_le_add_right hl 1), go _ w5 but_upd⟩
def L2P (e : En) (G : Hp) (M : List Addr) (R : List V → Hp → Hp → Prop) (Dd : Addr) (H : Hp) : Prop := ∃ acc Gi, Wd e Gi H (Dd :: M) ∧ Same G Gi ∧ H Dd = some (.lst acc) ∧ R acc Gi H
def L2In (J1 : It) (g1 : TG) (tt1 : TT) (te : TE) (Dd : Addr) (vs1 : List Nat) (σ2 : L2.St) (Nx : Hp → Prop) (H4 : Hp) : Prop := ∃ W1 : Nat → Nat → Hp → Prop, (∃ m, W1 0 m H4) ∧ ∀ j k H, W1 j k H →
  (J1.stop j H ∧ Nx H) ∨ (J1.go j H ∧ ∃ Nx1 : Hp → Prop, (∀ H', Nx1 H' → ∃ k', k' < k ∧ W1 (j + 1) k' H') ∧ ∀ x H', J1.yld j H x H' → g1 x (wipe σ2 vs1) H' (LcT Dd Nx1 tt1 te vs1 σ2))
def L2T (Dd : Addr) (P : Hp → Prop) (tt : TT) (wi1 : TI) (g1 : TG) (tt1 : TT) (te : TE) (vs vs1 : List Nat) (σ : L2.St) : L2.St → Hp → Prop := fun σ2 H2 => wipe σ2 vs = wipe σ vs ∧ tt σ2 H2 fun b H3 => if b = true then wi1 σ2 H3 fun J1 H4 => L2In J1 g1 tt1 te Dd vs1 σ2 P H4 else P H3
def L2Go (J : It) (g : TG) (tt : TT) (wi1 : TI) (g1 : TG) (tt1 : TT) (te : TE) (vs vs1 : List Nat) (σ : L2.St) (Q : VK) (H1 : Hp) : Prop := ∀ D, H1 D = none → ∃ W : Nat → Nat → Hp → Prop, (∃ m, W 0 m (upd H1 D (.lst []))) ∧ ∀ i m H, W i m H →
  (J.stop i H ∧ Q (.ref D) H) ∨ (J.go i H ∧ ∃ Nx : Hp → Prop, (∀ H', Nx H' → ∃ m', m' < m ∧ W (i + 1) m' H') ∧ ∀ x H', J.yld i H x H' → g x (wipe σ vs) H' (L2T D Nx tt wi1 g1 tt1 te vs vs1 σ))
theorem r_lc2 {wi wi1 : TI} {g g1 : TG} {tt tt1 : TT} {te : TE} {vs vs1 : List Nat} {σ : L2.St} {H : Hp} {Q : VK} (q : wi σ H fun J H1 => L2Go J g tt wi1 g1 tt1 te vs vs1 σ Q H1) : tLc2 wi g tt wi1 g1 tt1 te vs vs1 σ H Q := q
theorem r_l2T {Dd : Addr} {P : Hp → Prop} {tt tt1 : TT} {wi1 : TI} {g1 : TG} {te : TE} {vs vs1 : List Nat} {σ σ2 : L2.St} {H : Hp} (h : wipe σ2 vs = wipe σ vs) (q : tt σ2 H fun b H3 => if b = true then wi1 σ2 H3 fun J1 H4 => L2In J1 g1 tt1 te Dd vs1 σ2 P H4 else P H3) : L2T Dd P tt wi1 g1 tt1 te vs vs1 σ σ2 H := ⟨h, q⟩
theorem r_l2Add {e : En} {G Gy H4 : Hp} {M : List Addr} {R : List V → Hp → Hp → Prop} {Dd : Addr} {acc : List V} {y : V} (w : Wd e Gy H4 (Dd :: M)) (s : Same G Gy) (h : H4 Dd = some (.lst acc)) (hl : acc.length < 1000000)
    (k : ∀ H5, Wd e Gy H5 (Dd :: M) → But Dd H4 H5 → R (acc ++ [y]) Gy H5) : LcAdd Dd (L2P e G M R Dd) y H4 := by
  have w5 := wd_mut (o := .lst (acc ++ [y])) w List.mem_cons_self
  exact ⟨acc, h, Nat.lt_of_lt_of_le hl (by decide), _, Gy, w5, s, upd_same, k _ w5 but_upd⟩
end Q
namespace Q
open PySem PySem.Spec PyProof.Rows L2
def lifesOf (bt : List (Str × List Int)) : List (Str × Int) := bt.flatMap fun q => q.2.map fun b => (q.1, b)
def keyOf (l : Str × Int) : List Key := [.inr l.1, .inl l.2]
def turnKvs (tn : Str → Int → V) (ls : List (Str × Int)) : List (List Key × V) := ls.map fun l => (keyOf l, tn l.1 l.2)
def LifeAt (G : Hp) : List Addr → List (Str × Int) → Prop := Paired fun p l => G p = some (.tup [.str l.1, .int l.2])
theorem paired_get {α β : Type} {R : α → β → Prop} : ∀ {xs : List α} {ys : List β} {i : Nat} {x : α} {y : β}, Paired R xs ys → xs[i]? = some x → ys[i]? = some y → R x y
  | _, _, 0, _, _, .cons h _, e, f => by cases e; cases f; exact h
  | _, _, i + 1, _, _, .cons _ t, e, f => paired_get t (by simpa using e) (by simpa using f)
theorem paired_snoc {α β : Type} {R : α → β → Prop} {xs : List α} {ys : List β} {x : α} {y : β} (h : Paired R xs ys) (r : R x y) : Paired R (xs ++ [x]) (ys ++ [y]) := by
  induction h with
  | nil => exact .cons r .nil
  | cons h _ ih => exact .cons h ih
section
variable {K : PySem.W.Frag} {G G' : Hp} {ps : List Addr} {ls : List (Str × Int)} {bt : List (Str × List Int)} {tn : Str → Int → V}
theorem LifeAt.same (h : LifeAt G ps ls) (s : Same G G') : LifeAt G' ps ls := Paired.mapP h fun _ _ e => s _ _ e
theorem LifeAt.len (h : LifeAt G ps ls) : ps.length = ls.length := Paired.length h
theorem LifeAt.snoc (h : LifeAt G ps ls) {p : Addr} {t : Str} {b : Int} (e : G p = some (.tup [.str t, .int b])) : LifeAt G (ps ++ [p]) (ls ++ [(t, b)]) := paired_snoc h e
end
section
variable {K : PySem.W.Frag} {C Cl CH a h p : Addr} {e : En} {G H : Hp} {M : List Addr} {bt : List (Str × List Int)} {t : Str} {b : Int} {x : V} {ty : Value} {Q : VK} {E : XK} {tn : Str → Int → V} {ns : List Int}
structure BtOk (bt : List (Str × List Int)) : Prop where
  nd : (bt.map (·.1)).Nodup
  len : ∀ q ∈ bt, q.2.length ≤ 1000
  all : (lifesOf bt).length ≤ 1000
  nds : ∀ q ∈ bt, q.2.Nodup
theorem LvAt.at_ {kvs : List (Key × V)} (h : LvAt G kvs bt) : ∀ {i : Nat} {k : Key} {v : V}, kvs[i]? = some (k, v) → ∃ s ra ns, k = .inr s ∧ v = .ref ra ∧ bt[i]? = some (s, ns) ∧ G ra = some (.tup (ns.map V.int)) := by
  induction h with
  | nil => intro i k v e; simp at e
  | cons h1 _ ih =>
    intro i k v e
    cases i with
    | zero => cases e; exact ⟨_, _, _, rfl, rfl, rfl, h1⟩
    | succ i => exact ih (by simpa using e)
theorem LvAt.len {kvs : List (Key × V)} (h : LvAt G kvs bt) : kvs.length = bt.length := by
  induction h with
  | nil => rfl
  | cons _ _ ih => simp [ih]
def turnOk (ns : List Int) (b : Int) : V → Bool
  | .non => true
  | .int i => momV (.int i) b && decide (i ≤ nextOf ns b)
  | _ => false
/-- the turns in a dict are right, one for each life -/
structure TurnsOk (K : PySem.W.Frag) (G : Hp) (bt : List (Str × List Int)) (tn : Str → Int → V) (kvs : List (List Key × V)) : Prop where
  len : kvs.length = (lifesOf bt).length
  keys : ∀ kv ∈ kvs, ∃ l ∈ lifesOf bt, kv.1 = keyOf l
  val : ∀ l ∈ lifesOf bt, valV kvs (keyOf l) = some (tn l.1 l.2)
  ok : ∀ l ∈ lifesOf bt, turnOk ((nsOf bt l.1).getD []) l.2 (tn l.1 l.2) = true
  kd : ∀ l ∈ lifesOf bt, ∃ ty, Kd K G (tn l.1 l.2) ty
theorem TurnsOk.same {G' : Hp} {kvs : List (List Key × V)} (o : TurnsOk K G bt tn kvs) (s : Same G G') : TurnsOk K G' bt tn kvs := ⟨o.len, o.keys, o.val, o.ok, fun l hl => (o.kd l hl).elim fun t k => ⟨t, k.same s⟩⟩
def HistAt (CH C : Addr) (G : Hp) (h a : Addr) (bt : List (Str × List Int)) (tn : Str → Int → V) : Prop := ∃ dx D od, G h = some (.ins CH dx [("of_lives", .ref a), ("by_life", .ref D)]) ∧ G D = some (.frz od (.dT (turnKvs tn (lifesOf bt)))) ∧ LivesAt C G a bt
theorem HistAt.same {G' : Hp} (o : HistAt CH C G h a bt tn) (s : Same G G') : HistAt CH C G' h a bt tn := by
  obtain ⟨dx, D, od, h1, h2, h3⟩ := o
  exact ⟨dx, D, od, s _ _ h1, s _ _ h2, h3.same s⟩
end
end Q
namespace Q
open PySem PySem.Spec PyProof.Rows L2
section
variable {K : PySem.W.Frag} {σ : L2.St} {H : Hp} {Qv : VK} {ta tb : TE} {x : V} {xs : List V} {p : Addr} {a : Str} {ys : List Str}
theorem r_tM1 {r : V → List V → Hp → VK → Prop} (q : ta σ H fun x H1 => (∃ a, x = .str a) ∧ tb σ H1 fun y H2 => r x [y] H2 Qv) : tM1 r ta tb σ H Qv := q
theorem r_strAnd {R : Prop} (q : R) : (∃ b, V.str a = .str b) ∧ R := ⟨⟨a, rfl⟩, q⟩
theorem r_tOrT (q : ta σ H fun x H1 => ∃ k, TruV K x H1 k ∧ if k = true then Qv x H1 else tb σ H1 Qv) : tOrT K ta tb σ H Qv := q
end
end Q
namespace Q
open PySem PySem.Spec PyProof.Rows L2
end Q
namespace Q
open PySem PySem.Spec PyProof.Rows L2
theorem LifeAt.at_ {G : Hp} {ps : List Addr} {ls : List (Str × Int)} {i : Nat} {p : Addr} {l : Str × Int} (h : LifeAt G ps ls) (e1 : ps[i]? = some p) (e2 : ls[i]? = some l) : G p = some (.tup [.str l.1, .int l.2]) :=
  paired_get (R := fun (p : Addr) (l : Str × Int) => G p = some (.tup [.str l.1, .int l.2])) h e1 e2
end Q
namespace Q
open PySem PySem.Spec PyProof.Rows L2
def rStrN : List V → Hp → VK → Prop := fun xs H Q => ∃ i : Int, xs = [.int i] ∧ i.natAbs.log2 < 1920 ∧ Q (.str (toString i)) H
theorem q_strN {X : Cx} : CallR X (.type "str") rStrN := call_str_int
theorem r_strN {i : Int} {H : Hp} {Qv : VK} (h : i.natAbs.log2 < 1920) (q : Qv (.str (toString i)) H) : rStrN [.int i] H Qv := ⟨i, rfl, h, q⟩
end Q
namespace Q
open PySem PySem.Spec PyProof.Rows L2
theorem r_gNil {σ : L2.St} {H : Hp} {R : L2.St → Hp → Prop} (q : R σ H) : gNil [] σ H R := ⟨rfl, q⟩
theorem r_gTupR {K : PySem.W.Frag} {n : Nat} {t : TGs} {a : Addr} {xs : List V} {σ : L2.St} {H : Hp} {R : L2.St → Hp → Prop} (h : SqT K H a xs) (hl : xs.length = n) (q : t xs σ H R) : gTup K n t (.ref a) σ H R := r_gTup h hl q
end Q
namespace Q
open PySem PySem.Spec PyProof.Rows L2
theorem len_tl (z : Str) : z.length = z.cps.toList.length := by simp [Str.length]
abbrev Chs := List ((Str × Int) × V)
def ChAt (G : Hp) : List Addr → Chs → Prop := Paired fun p c => ∃ b, G p = some (.tup [.ref b, c.2]) ∧ G b = some (.tup [.str c.1.1, .int c.1.2])
def kvsOf (cs : Chs) : List (List Key × V) := cs.map fun c => (keyOf c.1, c.2)
section
variable {K : PySem.W.Frag} {G G' : Hp} {ps : List Addr} {cs : Chs} {bt : List (Str × List Int)}
theorem ChAt.same (h : ChAt G ps cs) (s : Same G G') : ChAt G' ps cs := Paired.mapP h fun _ _ ⟨b, h1, h2⟩ => ⟨b, s _ _ h1, s _ _ h2⟩
theorem ChAt.len (h : ChAt G ps cs) : ps.length = cs.length := Paired.length h
theorem ChAt.snoc (h : ChAt G ps cs) {p b : Addr} {t : Str} {i : Int} {v : V} (h1 : G p = some (.tup [.ref b, v])) (h2 : G b = some (.tup [.str t, .int i])) : ChAt G (ps ++ [p]) (cs ++ [((t, i), v)]) := paired_snoc h ⟨b, h1, h2⟩
theorem ChAt.pairs {H : Hp} (h : ChAt G ps cs) (s : Same G H) : TPairs K H ps (kvsOf cs) := by
  induction h with
  | nil => exact .nil
  | cons h _ ih =>
    obtain ⟨b, h1, h2⟩ := h
    exact .cons ⟨b, SqT.of (s _ _ h1), s _ _ h2⟩ ih
end
end Q
namespace Q
open PySem PySem.Spec PyProof.Rows L2
def numsR (bs : List (Str × List Int)) : List (Str × List V) := bs.map fun q => (q.1, q.2.map V.int)
/-- bs tells the beginnings bt (without 0), in any order -/
structure Tells (bs bt : List (Str × List Int)) : Prop where
  nd : (bs.map (·.1)).Nodup
  nm : ∀ q ∈ bs, nmOk q.1 = true
  ns : ∀ q ∈ bs, ∃ ns, nsOf bt q.1 = some ns ∧ ∀ k, k ∈ q.2 ↔ k ∈ ns.drop 1
  few : ∀ q ∈ bs, q.2.length ≤ 60
  per : ∀ t, t ∈ bs.map (·.1) ↔ t ∈ bt.map (·.1)
section
variable {K : PySem.W.Frag} {G : Hp} {bs bt bL : List (Str × List Int)} {t : Str} {ts : List Str} {Cn Cm : Addr}
theorem numsR_fst : (numsR bs).map (·.1) = bs.map (·.1) := by
  unfold numsR
  rw [List.map_map]
  rfl
theorem rowOf_numsR : rowOf (numsR bs) t = (nsOf bs t).map fun ns => ns.map V.int := by
  induction bs with
  | nil => rfl
  | cons q bs ih =>
    by_cases e : q.1 = t
    · simp [numsR, rowOf, nsOf, List.find?_cons, e]
    · have a1 : nsOf (q :: bs) t = nsOf bs t := by simp [nsOf, List.find?_cons, e]
      have a2 : rowOf (numsR (q :: bs)) t = rowOf (numsR bs) t := by simp [numsR, rowOf, List.find?_cons, e]
      rw [a1, a2, ih]
theorem Tells.num (h : Tells bs bt) (h2 : ∀ q ∈ bt, StartsOk q.2) {q : Str × List Int} (hq : q ∈ bs) {k : Int} (hk : k ∈ q.2) : 1 ≤ k ∧ k ≤ 1000000000000000000000000000000 := by
  obtain ⟨ns, a, b⟩ := h.ns q hq
  exact (h2 _ (nsOf_mem a)).tail.2.2.1 k ((b k).mp hk)
theorem Tells.fault (h : Tells bs bt) (h2 : ∀ q ∈ bt, StartsOk q.2) (hp : ts.Perm ((numsR bs).map (·.1))) : faultL Cn Cm (numsR bs) ts = none := by
  refine faultL_ok fun t ht => ?_
  have m := hp.mem_iff.mp ht
  rw [numsR_fst] at m
  obtain ⟨ns, hn⟩ := nsOf_in m
  have mq := nsOf_mem hn
  refine ⟨h.nm _ mq, _, by rw [rowOf_numsR, hn]; rfl, fun v hv => ?_⟩
  obtain ⟨k, hk, rfl⟩ := List.mem_map.mp hv
  obtain ⟨k0, k1⟩ := h.num h2 mq hk
  show (decide (1 ≤ k) && decide (k ≤ 1000000000000000000000000000000)) = true
  rw [Bool.and_eq_true, decide_eq_true_iff, decide_eq_true_iff]
  exact ⟨k0, k1⟩
end
end Q
namespace Q
open PySem PySem.Spec PyProof.Rows L2
def RevGo (K : PySem.W.Frag) (x : V) (H : Hp) (Qv : VK) : Prop := ∃ a xs, x = .ref a ∧ SqL K H a xs ∧ ∀ p, H p = none → Qv (.ref p) (upd H p (.lst xs.reverse))
def tRevQ (K : PySem.W.Frag) (te : TE) : TE := fun σ H Qv => te σ H fun x H1 => RevGo K x H1 Qv
section
variable {K : PySem.W.Frag} {te : TE} {σ : L2.St} {H : Hp} {Qv : VK} {a : Addr} {xs : List V}
theorem r_tRev (q : te σ H fun x H1 => RevGo K x H1 Qv) : tRevQ K te σ H Qv := q
theorem r_revL (h : SqL K H a xs) (q : Lay 0 (.lst xs.reverse) Qv H) : RevGo K (.ref a) H Qv := ⟨a, xs, rfl, h, q.2⟩
def Par3K (i j l : Nat) (vs : List V) (σ : L2.St) (N : L2.St → Hp → Prop) (H : Hp) : Prop := ∃ u v w, vs = [u, v, w] ∧ N (((σ.set i (some u)).set j (some v)).set l (some w)) H
theorem r_par3 {i j l : Nat} {ta : TA} {D : Ends} (q : ta σ H fun vs H1 => Par3K i j l vs σ D.nx H1) : tPar3 i j l ta D σ H := q
theorem r_par3K {i j l : Nat} {u v w : V} {N : L2.St → Hp → Prop} (q : N (((σ.set i (some u)).set j (some v)).set l (some w)) H) : Par3K i j l [u, v, w] σ N H := ⟨u, v, w, rfl, q⟩
end
end Q
namespace Q
open PySem PySem.Spec PyProof.Rows L2
def Hold (xs : List (Addr × HO)) (H : Hp) : Prop := ∀ q ∈ xs, H q.1 = some q.2
theorem Hold.same {xs : List (Addr × HO)} {H H' : Hp} (h : Hold xs H) (s : Same H H') : Hold xs H' := fun q hq => s _ _ (h q hq)
theorem Hold.but {xs : List (Addr × HO)} {H H' : Hp} {p : Addr} (h : Hold xs H) (b : But p H H') (n : ∀ q ∈ xs, q.1 ≠ p) : Hold xs H' := fun q hq => b _ _ (n q hq) (h q hq)
theorem Hold.hd {a : Addr} {o : HO} {xs : List (Addr × HO)} {H : Hp} (h : Hold ((a, o) :: xs) H) : H a = some o := h (a, o) List.mem_cons_self
instance {a b : Str} : Decidable (leS a b) := by unfold leS; infer_instance
theorem LsAt.beg {K : PySem.W.Frag} {G : Hp} {kvs : List (Key × V)} {bs : List (Str × List Int)} (h : LsAt G kvs bs) : BegAt K G kvs (numsR bs) := by
  induction h with
  | nil => exact .nil
  | cons h _ ih => exact .cons (.inl (SqL.of h)) ih
end Q
namespace Q
open PySem PySem.Spec PyProof.Rows L2
end Q
namespace Q
open PySem PySem.Spec PyProof.Rows L2
theorem LsAt.at_ {G : Hp} {kvs : List (Key × V)} {bt : List (Str × List Int)} (h : LsAt G kvs bt) : ∀ {i : Nat} {k : Key} {v : V}, kvs[i]? = some (k, v) → ∃ s ra ns, k = .inr s ∧ v = .ref ra ∧ bt[i]? = some (s, ns) ∧ G ra = some (.lst (ns.map V.int)) := by
  induction h with
  | nil => intro i k v e; simp at e
  | cons h1 _ ih =>
    intro i k v e
    cases i with
    | zero => cases e; exact ⟨_, _, _, rfl, rfl, rfl, h1⟩
    | succ i => exact ih (by simpa using e)
end Q
namespace Q
open PySem PySem.Spec PyProof.Rows L2
abbrev zBlank : Str := Str.ofString " "
abbrev zNl : Str := Str.ofString "\n"
def numB (l : List Nat) : Bool := decide (1 ≤ l.length) && (decide (l.length ≤ 31) && (l.all figB && !(decide (l.head? = some 48) && decide (1 < l.length))))
def momW (z : Str) : Option Int := if numB z.cps.toList = true ∧ ((NumText.digitsVal z.cps.toList : Nat) : Int) ≤ 1000000000000000000000000000000 then some ((NumText.digitsVal z.cps.toList : Nat) : Int) else none
def okW (k : Nat) (z : Str) : Bool := match k with
  | 0 => decide (z = Str.ofString "check")
  | 1 => nmOk z
  | 2 => (momW z).isSome
  | 3 => decide (z = Str.ofString "by")
  | _ => nmOk z
def wordsOf (x : Str) : List Str := Txt.split ((Txt.split x zNl).headD Str.empty) zBlank
end Q
namespace Q
open PySem PySem.Spec PyProof.Rows L2
def WsAt (G : Hp) (p : Addr) (ws : List Str) : Prop := G p = some (.lst (ws.map V.str)) ∧ ws.length ≤ 1000000 ∧ ∀ z ∈ ws, z.length ≤ 1000000
def LinesAt (G : Hp) (p : Addr) (z : Str) : Prop := ∃ vs q, G p = some (.lst vs) ∧ vs.length = (Txt.split z zNl).length ∧ vs[0]? = some (.ref q) ∧ WsAt G q (wordsOf z)
def RightE (t : Str) (i : Int) (b : Str) : Prop := nmOk t = true ∧ nmOk b = true ∧ 0 ≤ i ∧ i ≤ 1000000000000000000000000000000
structure EnC (K : PySem.W.Frag) (C : Addr) : Prop where
  c : Cls K C
  n1 : NoAttr K C "tool"
  n2 : NoAttr K C "moment"
  n3 : NoAttr K C "by"
  n4 : NoAttr K C "face"
  ca : PySem.W.findIn K (.ref C) "__class__" = some (some (.builtin "object.__class__"))
  cn : PySem.W.specialIn K (.builtin "object.__class__") "__get__" = some (some (.builtin "getset_descriptor.__get__"))
  ct : PySem.W.takesIn K (.builtin "object.__class__") = some true
  cm : PySem.W.mroIn K C (.type "object") = some true
  me : PySem.W.kitOne K (.ref C) (.ref C) = some true
  tup : PySem.W.kitOne K (.type "tuple") (.ref C) = some false
  fme : PySem.W.notFirst K C (.ref C) = true
def faceE (t : Str) (i : Int) (b : Str) : PyData := .tuple [.str t, .int i, .str b]
def EntAt (C : Addr) (G : Hp) (a : Addr) (t : Str) (i : Int) (b : Str) : Prop := RightE t i b ∧ ∃ dx fc, G a = some (.ins C dx [("tool", .str t), ("moment", .int i), ("by", .str b), ("face", .ref fc)]) ∧ G fc = some (.tup [.str t, .int i, .str b])
theorem EntAt.same {C a : Addr} {G G' : Hp} {t b : Str} {i : Int} (h : EntAt C G a t i b) (s : Same G G') : EntAt C G' a t i b := by
  obtain ⟨r, dx, fc, h1, h2⟩ := h
  exact ⟨r, dx, fc, s _ _ h1, s _ _ h2⟩
theorem RightE.mom {t b : Str} {i : Int} (h : RightE t i b) : momV (.int i) 0 = true := by
  show (_ && _) = true
  rw [decide_eq_true h.2.2.1, decide_eq_true h.2.2.2] <;> rfl
section
variable {K : PySem.W.Frag} {C Ct : Addr} {e : En} {G H : Hp} {M : List Addr} {Q : VK} {E : XK}
theorem EnC.ty (S : EnC K C) {a : Addr} {t b : Str} {i : Int} (h : EntAt C G a t i b) : TyX K G (.ref a) (.ref C) := by
  obtain ⟨_, dx, fc, h1, _⟩ := h
  exact .base (.ins h1 S.c S.ca S.cn S.ct S.cm)
end
end Q
namespace Q
open PySem PySem.Spec PyProof.Rows L2
/-- the tuple at a, each item in a new pair -/
def IteT (K : PySem.W.Frag) (a : Addr) : It :=
  ⟨fun i H => ∃ (xs : List V) (x : V), SqT K H a xs ∧ xs[i]? = some x, fun i H v H' => ∃ T x, v = .ref T ∧ H T = none ∧ H' = upd H T (.tup [.int (i : Nat), x]) ∧ ∀ xs, SqT K H a xs → xs[i]? = some x, fun i H => ∃ xs : List V, SqT K H a xs ∧ xs.length ≤ i⟩
def iEnumT (K : PySem.W.Frag) (ta : TA) : TI := fun σ H R => ta σ H fun vs H1 => ∃ a xs, vs = [.ref a] ∧ SqT K H1 a xs ∧ R (IteT K a) H1
theorem r_iEnumT {K : PySem.W.Frag} {ta : TA} {σ : L2.St} {H : Hp} {R : It → Hp → Prop} (q : ta σ H fun vs H1 => ∃ a xs, vs = [.ref a] ∧ SqT K H1 a xs ∧ R (IteT K a) H1) : iEnumT K ta σ H R := q
theorem r_iEnumTR {K : PySem.W.Frag} {H : Hp} {R : Addr → Prop} {a : Addr} {xs : List V} (h : SqT K H a xs) (q : R a) : ∃ b xs, [V.ref a] = [.ref b] ∧ SqT K H b xs ∧ R b := ⟨a, xs, rfl, h, q⟩
end Q
namespace Q
open PySem PySem.Spec PyProof.Rows L2
end Q
namespace Q
open PySem PySem.Spec PyProof.Rows L2
theorem WsAt.same {G G' : Hp} {p : Addr} {ws : List Str} (h : WsAt G p ws) (s : Same G G') : WsAt G' p ws := ⟨s _ _ h.1, h.2⟩
theorem LinesAt.same {G G' : Hp} {p : Addr} {z : Str} (h : LinesAt G p z) (s : Same G G') : LinesAt G' p z := by
  obtain ⟨vs, q, h1, h2, h3, h4⟩ := h
  exact ⟨vs, q, s _ _ h1, h2, h3, h4.same s⟩
end Q
namespace Q
open PySem PySem.Spec PyProof.Rows L2
end Q
namespace Q
open PySem PySem.Spec PyProof.Rows L2
end Q
namespace Q
open PySem PySem.Spec PyProof.Rows L2
def optP (G : Hp) (o : Option (Int × Int)) (v : V) : Prop := match o with
  | none => v = .non
  | some (l, k) => ∃ p, v = .ref p ∧ G p = some (.tup [.int l, .int k])
theorem optP.same {G G' : Hp} {o : Option (Int × Int)} {v : V} (h : optP G o v) (s : Same G G') : optP G' o v := by
  cases o with
  | none => exact h
  | some q =>
    obtain ⟨p, e, hp⟩ := h
    exact ⟨p, e, s _ _ hp⟩
end Q
namespace Q
open PySem PySem.Spec PyProof.Rows L2
theorem iteN {c : Bool} {A B : Prop} (h : c = false) (b : B) : if c = true then A else B := by rw [h]; exact b
theorem iteY {c : Bool} {A B : Prop} (h : c = true) (a : A) : if c = true then A else B := by rw [h]; exact a
end Q
namespace Q
open PySem PySem.Spec PyProof.Rows L2 Builtin Builtin.Str
end Q
namespace Q
open PySem PySem.Spec PyProof.Rows L2
def okS (k : Nat) (z : Str) : Bool := match k with
  | 0 => nmOk z
  | 1 => (momW z).isSome
  | _ => decide (z = Str.ofString "sound" ∨ z = Str.ofString "unsound")
def rightsS : List Str → List Bool
  | [] => []
  | [a] => [okS 0 a]
  | [a, b] => [okS 0 a, okS 1 b]
  | a :: b :: c :: _ => [okS 0 a, okS 1 b, okS 2 c]
def sDueP (x : Str) : Option Nat := match (rightsS (Txt.split x zBlank)).findIdx? (fun b => !b) with
  | some k => some k
  | none => if (Txt.split x zBlank).length = 3 then none else some (min (Txt.split x zBlank).length 3)
/-- what is due: the text's fault, or told and the saying -/
def DueS (C : Addr) (G : Hp) (z : Str) (v : V) : Prop := (∃ k p, sDueP z = some k ∧ v = .ref p ∧ G p = some (.tup [.str "text", .int 0, .int (k : Int)])) ∨
  ∃ p a t i b, Right t i ∧ z = sayText t i b ∧ v = .ref p ∧ G p = some (.tup [.str "told", .ref a]) ∧ SayAt C G a t i b
theorem DueS.same {C : Addr} {G G' : Hp} {z : Str} {v : V} (h : DueS C G z v) (s : Same G G') : DueS C G' z v := by
  rcases h with ⟨k, p, h1, h2, h3⟩ | ⟨p, a, t, i, b, h1, h2, h3, h4, h5⟩
  · exact .inl ⟨k, p, h1, h2, s _ _ h3⟩
  · exact .inr ⟨p, a, t, i, b, h1, h2, h3, s _ _ h4, h5.same s⟩
end Q
namespace Q
open PySem PySem.Spec PyProof.Rows L2
def DicAt (K : PySem.W.Frag) (w : World) (d : Addr) (ks : List Str) : Prop := He.dicW K d = some (He.keysIn w.params ks)
abbrev AlD2 : Type := AlR × List (Option (List (Option (Str × Int))))
def SaysD2 (fa : List He.Fa) (fn : List He5.DefA) (tf : List (PySem.W.Frag → Addr)) (ex : PySem.W.Frag → Bool) (ts : List He.Tab) (w : World) (h : Heap) (K : PySem.W.Frag) : Prop := SaysR fa fn tf ex h K ∧ ∀ t ∈ ts, DicAt K w (t.1 K) t.2
end Q
namespace Q
open PySem PySem.Spec PyProof.Rows L2
end Q
namespace Q
open PySem PySem.Spec PyProof.Rows L2
def addW : List Addr → Nat → List Addr → Nat × List Addr
  | [], m, f => (m, f)
  | a :: r, m, f => match Nat.testBit m a with
    | true => addW r m f
    | false => HandSHeadRun.frNat (m ||| (1 <<< a)) fun m => addW r m (a :: f)
def levelW (g : Addr → Option Obj) : List Addr → Nat → List Addr → Nat × List Addr
  | [], m, f => (m, f)
  | a :: r, m, f => match g a with
    | some o => (match addW (He.refsD o) m f with
      | (m', f') => levelW g r m' f')
    | none => levelW g r m f
def reachW (g : Addr → Option Obj) : Nat → Nat → List Addr → List Addr → List Addr
  | 0, _, f, acc => f ++ acc
  | n + 1, m, f, acc => match levelW g f m [] with
    | (m', f') => reachW g n m' f' (f ++ acc)
def namedW (g : Addr → Option Obj) (ns : List Str) : List Addr := match g mainGlobals with
  | some ⟨_, _, .dict es _, _⟩ => es.toList.flatMap fun e => match e.key with
    | .str x _ => (match ns.any (fun y => decide (x = y)) with
      | true => He.refV e.val
      | false => [])
    | _ => []
  | _ => []
def asW (g : Addr → Option Obj) (ns : List Str) (n : Nat) : List Addr := (match addW (namedW g ns) (1 <<< mainGlobals) [] with
  | (m, f) => reachW g n m f [mainGlobals, cStatics, sysModules])
def obsW (l : List Addr) (fa : List He.Fa) (fn : List He5.DefA) (tf : List (PySem.W.Frag → Addr)) (ex : PySem.W.Frag → Bool) (g : Addr → Option Obj) : AlR := (He5.obsA fa fn (He.frT g l), ex (He.frT g l) && tabsQ g tf (He.frT g l))
theorem saysW_of {l : List Addr} {fa : List He.Fa} {fn : List He5.DefA} {tf : List (PySem.W.Frag → Addr)} {ex : PySem.W.Frag → Bool} {h : Heap} (e : obsW l fa fn tf ex h.get? = (He5.valA fn, true)) : SaysR fa fn tf ex h (He.frT h.get? l) := by
  have e1 : He5.obsA fa fn (He.frT h.get? l) = He5.valA fn := congrArg (fun z : AlR => z.1) e
  have e2 : (ex (He.frT h.get? l) && tabsQ h.get? tf (He.frT h.get? l)) = true := congrArg (fun z : AlR => z.2) e
  obtain ⟨h1, h2⟩ := He.ba e2
  have each : ∀ p ∈ tf, PySem.W.codeHdIn (He.frT h.get? l) (cTA (He.frT h.get? l) (p (He.frT h.get? l))).1 (cTA (He.frT h.get? l) (p (He.frT h.get? l))).2 = true ∧
      ∃ o, h.get? (cTA (He.frT h.get? l) (p (He.frT h.get? l))).2 = some o ∧ He.emptyTab o = true := by
    intro p hp
    obtain ⟨h3, h4⟩ := He.ba (List.all_eq_true.mp h2 p hp)
    refine ⟨h3, ?_⟩
    split at h4
    · rename_i o q
      exact ⟨o, q, h4⟩
    · cases h4
  refine ⟨e1, h1, fun p hp => (each p hp).1, fun p hp => ?_, fun p hp => ?_⟩
  · obtain ⟨_, o, q, z⟩ := each p hp
    exact He.frT_none q z
  · obtain ⟨_, o, q, z⟩ := each p hp
    rw [q, He.emptyTab_eq z]
def obsV (ns : List Str) (n : Nat) (fa : List He.Fa) (fn : List He5.DefA) (tf : List (PySem.W.Frag → Addr)) (ex : PySem.W.Frag → Bool) (ts : List He.Tab) (g : Addr → Option Obj) : AlD2 :=
  (obsW (asW g ns n) fa fn tf ex g, ts.map fun t => He.dicW (He.frT g (asW g ns n)) (t.1 (He.frT g (asW g ns n))))
end Q
namespace Q
open PySem PySem.Spec PyProof.Rows L2 Builtin
end Q
namespace Q
open PySem PySem.Spec PyProof.Rows L2
end Q
namespace Q
open PySem PySem.Spec PyProof.Rows L2
theorem LvAt.names {G : Hp} {kvs : List (Key × V)} {bt : List (Str × List Int)} (h : LvAt G kvs bt) : kvs.map (fun kv => kV kv.1) = (bt.map (·.1)).map V.str := h.keys
end Q
namespace Q
open PySem PySem.Spec PyProof.Rows L2
section
variable {C : Addr} {f g : Str} {v u : V} {e : En} {G H : Hp} {M : List Addr} {Q : VK}
def ErrAt (G : Hp) (C a : Addr) (fs : List (Str × V)) : Prop := ∃ d, G a = some (ExK (.ref C) (some d) a) ∧ G d = some (.xd fs)
theorem ErrAt.same {G' : Hp} {a : Addr} {fs : List (Str × V)} (h : ErrAt G C a fs) (s : Same G G') : ErrAt G' C a fs := by
  obtain ⟨d, h1, h2⟩ := h
  exact ⟨d, s _ _ h1, s _ _ h2⟩
end
end Q
namespace Q
open PySem PySem.Spec PyProof.Rows L2 PySem.HandSPX
end Q
namespace Q
open PySem PySem.Spec PyProof.Rows L2
end Q
namespace Q
open PySem PySem.Spec PyProof.Rows L2 PySem.HandSPX
/-- what is kept: the fields, or no dict yet -/
def KeptAt (G : Hp) (C a : Addr) (fs : List (Str × V)) : Prop := (fs = [] ∧ G a = some (ExK (.ref C) none a)) ∨ ErrAt G C a fs
theorem KeptAt.same {G G' : Hp} {C a : Addr} {fs : List (Str × V)} (h : KeptAt G C a fs) (s : Same G G') : KeptAt G' C a fs := by
  rcases h with ⟨h1, h2⟩ | h
  · exact .inl ⟨h1, s _ _ h2⟩
  · exact .inr (h.same s)
end Q
namespace Q
open PySem PySem.Spec PyProof.Rows L2
def errNames : List Str := ["BadName", "BadMoment", "BadSaying", "BadPoint", "BadRow", "BadTurn", "BadTurns", "NoTool", "NoRow", "NoDeed", "NoRecord", "NoLot", "NoLife", "NoEvidence", "TooMany", "Later", "Clash", "Unlike", "Contradicted", "BadChain", "BadEntry", "BadText", "NoLine"]
def errKeeps (i : Nat) (a b : V) : List (Str × V) := match i with
  | 0 => [("name", a)] | 1 => [("moment", a)] | 2 => [("value", a)] | 3 => [("value", a)] | 4 => [("at", a)] | 5 => [("at", a)] | 6 => [("at", a)] | 7 => [("tool", a)] | 8 => [("number", a)] | 9 => [("number", a)]
  | 10 => [("name", a)] | 11 => [("name", a)] | 12 => [("value", a)] | 13 => [("word", a)] | 14 => [("most", b), ("what", a)] | 15 => [("moment", a)] | 16 => [("name", a)] | 17 => [("tool", a)] | 18 => [("number", a)] | 19 => [("at", a)] | 20 => [("at", a)]
  | 21 => [("word", b), ("line", a)] | _ => []
def clsAt (K : PySem.W.Frag) (i : Nat) : Addr := He.ga K (errNames.getD i "NoLine")
def AllErrs (K : PySem.W.Frag) (G : Hp) (es : List Addr) (a b : V) : Prop := es.length = 23 ∧ ∀ i e, es[i]? = some e → KeptAt G (clsAt K i) e (errKeeps i a b)
theorem AllErrs.same {K : PySem.W.Frag} {G G' : Hp} {es : List Addr} {a b : V} (h : AllErrs K G es a b) (s : Same G G') : AllErrs K G' es a b := ⟨h.1, fun i e he => (h.2 i e he).same s⟩
end Q
namespace Q
open PySem PySem.Spec PyProof.Rows L2
end Q
namespace Q
open PySem PySem.Spec PyProof.Rows L2
end Q
namespace Q
open PySem PySem.Spec PyProof.Rows L2
end Q
namespace Q
open PySem PySem.Spec PyProof.Rows L2
def putB (bt : List (Str × List Int)) (s : Str) (ns : List Int) : List (Str × List Int) := if (bt.any fun r => decide (r.1 = s)) = true then bt.map (fun r => if r.1 = s then (r.1, ns) else r) else bt ++ [(s, ns)]
section
variable {G : Hp} {kvs : List (Key × V)} {bt : List (Str × List Int)} {s : Str} {ns : List Int}
theorem LsAt.any (h : LsAt G kvs bt) (s : Str) : (kvs.any fun kv => decide (kv.1 = (.inr s : Key))) = bt.any fun r => decide (r.1 = s) := by
  induction h with
  | nil => rfl
  | @cons t a ns kvs bt _ _ ih =>
    rw [List.any_cons, List.any_cons, ih]
    have e : decide ((Sum.inr t : Key) = .inr s) = decide (t = s) := decide_eq_decide.mpr ⟨fun z => Sum.inr.inj z, fun z => by rw [z]⟩
    rw [e]
theorem LsAt.put (h : LsAt G kvs bt) {a : Addr} (ha : G a = some (.lst (ns.map V.int))) : LsAt G (putK kvs (.inr s) (.ref a)) (putB bt s ns) := by
  unfold putK putB
  rw [h.any s]
  split
  · rename_i c
    clear c
    induction h with
    | nil => exact .nil
    | @cons t b ms kvs bt h1 _ ih =>
      rw [List.map_cons, List.map_cons]
      by_cases e : t = s
      · subst e
        rw [if_pos rfl, if_pos rfl]
        exact .cons ha ih
      · rw [if_neg (show ¬ (Sum.inr t : Key) = .inr s from fun z => e (Sum.inr.inj z)), if_neg e]
        exact .cons h1 ih
  · rename_i c
    clear c
    induction h with
    | nil => exact .cons ha .nil
    | cons h1 _ ih => exact .cons h1 ih
theorem putB_mem {q : Str × List Int} (h : q ∈ putB bt s ns) : q ∈ bt ∨ q = (s, ns) := by
  unfold putB at h
  split at h
  · obtain ⟨r, h1, h2⟩ := List.mem_map.mp h
    by_cases e : r.1 = s
    · rw [if_pos e] at h2
      exact .inr (by rw [← h2, e])
    · rw [if_neg e] at h2
      exact .inl (by rw [← h2]; exact h1)
  · rcases List.mem_append.mp h with h1 | h1
    · exact .inl h1
    · exact .inr (List.mem_singleton.mp h1)
theorem putB_len : (putB bt s ns).length ≤ bt.length + 1 := by
  unfold putB
  split
  · rw [List.length_map]; omega
  · rw [List.length_append]; exact Nat.le_refl _
theorem putB_nd (h : (bt.map (·.1)).Nodup) : ((putB bt s ns).map (·.1)).Nodup := by
  unfold putB
  split
  · have e : (bt.map fun r => if r.1 = s then (r.1, ns) else r).map (·.1) = bt.map (·.1) := by
      rw [List.map_map]
      refine List.map_congr_left fun r _ => ?_
      show (if r.1 = s then (r.1, ns) else r).1 = r.1
      split <;> rfl
    rw [e]
    exact h
  · rename_i c
    rw [List.map_append, List.nodup_append]
    refine ⟨h, by simp, fun x hx y hy e => c ?_⟩
    obtain ⟨r, hr, rfl⟩ := List.mem_map.mp hx
    rw [List.map_singleton, List.mem_singleton] at hy
    exact List.any_eq_true.mpr ⟨r, hr, decide_eq_true (e.trans hy)⟩
end
structure BgnOk (bt : List (Str × List Int)) : Prop where
  nm : ∀ q ∈ bt, nmOk q.1 = true
  ks : ∀ q ∈ bt, q.2.length ≤ 6 ∧ ∀ k ∈ q.2, 1 ≤ k ∧ k ≤ 1000000000000000000000000000000
  nd : (bt.map (·.1)).Nodup
  few : bt.length ≤ 12
structure BgnAt (G : Hp) (d : Addr) (bt : List (Str × List Int)) : Prop where
  ex : ∃ od kvs, G d = some (.frz od (.dK kvs)) ∧ LsAt G kvs bt
  ok : BgnOk bt
theorem BgnAt.same {G G' : Hp} {d : Addr} {bt : List (Str × List Int)} (h : BgnAt G d bt) (s : Same G G') : BgnAt G' d bt := by
  obtain ⟨od, kvs, h1, h2⟩ := h.ex
  exact ⟨⟨od, kvs, s _ _ h1, h2.same s⟩, h.ok⟩
/-- the lives that begin so -/
def LvOf (bt bL : List (Str × List Int)) : Prop := (bL.map (·.1)).Perm (bt.map (·.1)) ∧ (bL.map (·.1)).Pairwise leS ∧ ∀ q ∈ bL, Begs (((nsOf bt q.1).getD []).map V.int) q.2
section
variable {X : Cx}
def eqO (dat : Addr → PyData) (d : PyData) : Value → Bool
  | .ref a => PyData.eqv (dat a) d
  | _ => false
end
end Q
namespace Q
open PySem PySem.Spec PyProof.Rows L2 PySem.SeqAt PySem.MeetsSeq
end Q
namespace Q
open PySem PySem.Spec PyProof.Rows L2
def LivesIn (C : Addr) (G : Hp) (a D : Addr) (bt : List (Str × List Int)) : Prop := ∃ dx od kvs, G a = some (.ins C dx [("by_tool", .ref D)]) ∧ G D = some (.frz od (.dK kvs)) ∧ LvAt G kvs bt
theorem LivesIn.at_ {C a D : Addr} {G : Hp} {bt : List (Str × List Int)} (h : LivesIn C G a D bt) : LivesAt C G a bt := by
  obtain ⟨dx, od, kvs, h1, h2, h3⟩ := h
  exact ⟨dx, D, od, kvs, h1, h2, h3⟩
theorem LivesIn.same {C a D : Addr} {G G' : Hp} {bt : List (Str × List Int)} (h : LivesIn C G a D bt) (s : Same G G') : LivesIn C G' a D bt := by
  obtain ⟨dx, od, kvs, h1, h2, h3⟩ := h
  exact ⟨dx, od, kvs, s _ _ h1, s _ _ h2, h3.same s⟩
theorem LvAt.put {G : Hp} {q : Addr} {o : HO} {kvs : List (Key × V)} {bt : List (Str × List Int)} (h : LvAt G kvs bt) (nt : ∀ xs, G q ≠ some (.tup xs)) : LvAt (upd G q o) kvs bt := by
  induction h with
  | nil => exact .nil
  | cons h _ ih => exact .cons (by rw [upd_ne (fun z => nt _ (by rw [← z]; exact h))]; exact h) ih
theorem LivesIn.put {C a D : Addr} {G : Hp} {q : Addr} {o : HO} {bt : List (Str × List Int)} (h : LivesIn C G a D bt) (nt : ∀ xs, G q ≠ some (.tup xs)) (ni : ∀ C dx fs, G q ≠ some (.ins C dx fs)) (nD : D ≠ q) : LivesIn C (upd G q o) a D bt := by
  obtain ⟨dx, od, kvs, h1, h2, h3⟩ := h
  exact ⟨dx, od, kvs, by rw [upd_ne (fun z => ni _ _ _ (by rw [← z]; exact h1))]; exact h1, by rw [upd_ne nD]; exact h2, h3.put nt⟩
end Q
namespace Q
open PySem PySem.Spec PyProof.Rows L2
theorem nd_len {α : Type} [DecidableEq α] : ∀ {xs ys : List α}, xs.Nodup → (∀ x ∈ xs, x ∈ ys) → xs.length ≤ ys.length
  | [], _, _, _ => Nat.zero_le _
  | x :: xs, ys, nd, h => by
    obtain ⟨n1, n2⟩ := List.nodup_cons.mp nd
    have hx := h x List.mem_cons_self
    have ih := nd_len (ys := ys.erase x) n2 fun y hy => (List.mem_erase_of_ne (fun e => n1 (by rw [← e]; exact hy))).mpr (h y (List.mem_cons_of_mem _ hy))
    rw [List.length_erase_of_mem hx] at ih
    have := List.length_pos_of_mem hx
    rw [List.length_cons]
    omega
theorem LvOf.begs {bt bL : List (Str × List Int)} {i : Nat} {t : Str} {ns' : List Int} (h : LvOf bt bL) (ok : BgnOk bt) (hi : bL[i]? = some (t, ns')) : ∃ ns ms, nsOf bt t = some ns ∧ ns' = 0 :: ms ∧ (0 :: ms).Pairwise (· < ·) ∧ (∀ k, k ∈ (0 :: ms) ↔ k ∈ (0 :: ns)) ∧ ns.length ≤ 6 ∧ (∀ k ∈ ns, 1 ≤ k ∧ k ≤ 1000000000000000000000000000000) ∧ nmOk t = true ∧ ms.length ≤ 6 := by
  have mem := List.mem_of_getElem? hi
  have mt : t ∈ bt.map (·.1) := h.1.mem_iff.mp (List.mem_map.mpr ⟨_, mem, rfl⟩)
  obtain ⟨ns, hns⟩ := nsOf_in mt
  have mq := nsOf_mem hns
  obtain ⟨ms, e, h1, h2⟩ := h.2.2 _ mem
  rw [hns] at h2
  have h3 : ∀ k : Int, k ∈ ms ↔ k ∈ ns := fun k => by
    rw [h2 k]
    show V.int k ∈ ns.map V.int ↔ _
    rw [List.mem_map]
    exact ⟨fun ⟨j, hj, e⟩ => by cases e; exact hj, fun hj => ⟨k, hj, rfl⟩⟩
  obtain ⟨k6, kk⟩ := ok.ks _ mq
  have nd : ms.Nodup := h1.imp fun h e => by omega
  have le : ms.length ≤ ns.length := nd_len nd fun k hk => (h3 k).mp hk
  have k6 : ns.length ≤ 6 := k6
  refine ⟨ns, ms, hns, e, List.pairwise_cons.mpr ⟨fun k hk => ?_, h1⟩, fun k => ?_, k6, kk, ok.nm _ mq, by omega⟩
  · have := (kk k ((h3 k).mp hk)).1
    omega
  · rw [List.mem_cons, List.mem_cons, h3 k]
end Q
namespace Q
open PySem PySem.Spec PyProof.Rows L2
theorem LsAt.keysL {G : Hp} {kvs : List (Key × V)} {bt : List (Str × List Int)} (h : LsAt G kvs bt) : kvs.map (fun kv => kV kv.1) = (bt.map (·.1)).map V.str := by
  induction h with
  | nil => rfl
  | cons _ _ ih => rw [List.map_cons, List.map_cons, List.map_cons, ih]; rfl
end Q
namespace Q
open PySem PySem.Spec PyProof.Rows L2
def NoLf (K : PySem.W.Frag) (G : Hp) (bL : List (Str × List Int)) (v : V) : Prop := ∃ q, TuV K G v q ∧ isLife bL q = false
section
variable {K : PySem.W.Frag} {G G' H : Hp} {bL : List (Str × List Int)} {v x y z : V} {ps : List Addr} {ls : List (Str × Int)} {p q : Addr} {ys : List V} {t : Str} {b : Int}
theorem TuV.same {o : Option (List V)} (h : TuV K G v o) (s : Same G G') : TuV K G' v o := by
  cases o with
  | none => obtain ⟨t, h1, h2⟩ := h; exact ⟨t, same_ty s h1, h2⟩
  | some ys => obtain ⟨p, h1, h2, h3⟩ := h; exact ⟨p, h1, s _ _ h2, fun y hy => (h3 y hy).elim fun t k => ⟨t, k.same s⟩⟩
theorem NoLf.same (h : NoLf K G bL v) (s : Same G G') : NoLf K G' bL v := h.elim fun q ⟨h1, h2⟩ => ⟨q, h1.same s, h2⟩
theorem LifeAt.mem (h : LifeAt G ps ls) (hq : q ∈ ps) : ∃ l ∈ ls, G q = some (.tup [.str l.1, .int l.2]) := by
  induction h with
  | nil => cases hq
  | @cons a l as bs h1 _ ih =>
    rcases List.mem_cons.mp hq with rfl | hq
    · exact ⟨l, List.mem_cons_self, h1⟩
    · obtain ⟨l', m, e⟩ := ih hq
      exact ⟨l', List.mem_cons_of_mem _ m, e⟩
theorem lifes_has (h : (t, b) ∈ lifesOf bL) : ∃ q ∈ bL, q.1 = t ∧ b ∈ q.2 := by
  obtain ⟨q, hq, hl⟩ := List.mem_flatMap.mp h
  obtain ⟨c, hc, e⟩ := List.mem_map.mp hl
  cases e
  exact ⟨q, hq, rfl, hc⟩
end
/-- lives as a law draws them -/
structure LvOk (bL : List (Str × List Int)) : Prop where
  ok : BtOk bL
  nm : ∀ q ∈ bL, nmOk q.1 = true
  ks : ∀ q ∈ bL, q.2.length ≤ 7 ∧ ∀ k ∈ q.2, 0 ≤ k ∧ k ≤ 1000000000000000000000000000000
  few : bL.length ≤ 12
theorem lifes_few' {bL : List (Str × List Int)} (h : ∀ q ∈ bL, q.2.length ≤ 7) : (lifesOf bL).length ≤ 7 * bL.length := by
  induction bL with
  | nil => exact Nat.le_refl _
  | cons q r ih =>
    have a := h q List.mem_cons_self
    have b := ih fun u hu => h u (List.mem_cons_of_mem _ hu)
    unfold lifesOf at b ⊢
    rw [List.flatMap_cons, List.length_append, List.length_map, List.length_cons]
    omega
theorem LvOf.lvOk {bt bL : List (Str × List Int)} (h : LvOf bt bL) (ok : BgnOk bt) : LvOk bL := by
  have one : ∀ q ∈ bL, nmOk q.1 = true ∧ q.2.length ≤ 7 ∧ (∀ k ∈ q.2, 0 ≤ k ∧ k ≤ 1000000000000000000000000000000) ∧ q.2.Nodup := fun q hq => by
    obtain ⟨i, hi⟩ := List.getElem?_of_mem hq
    obtain ⟨ns, ms, _, e, asc, hm, l6, kk, nm, lm⟩ := h.begs ok (t := q.1) (ns' := q.2) hi
    refine ⟨nm, by rw [e]; simp; omega, fun k hk => ?_, by rw [e]; exact asc.imp fun h z => by omega⟩
    rw [e, hm k] at hk
    rcases List.mem_cons.mp hk with rfl | hk
    · exact ⟨by decide, by decide⟩
    · have := kk k hk
      exact ⟨by omega, this.2⟩
  have few : bL.length ≤ 12 := by
    have := h.1.length_eq
    rw [List.length_map, List.length_map] at this
    rw [this]
    exact ok.few
  have al := lifes_few' fun q hq => (one q hq).2.1
  exact ⟨⟨h.1.nodup_iff.mpr ok.nd, fun q hq => Nat.le_trans (one q hq).2.1 (by decide), by omega, fun q hq => (one q hq).2.2.2⟩, fun q hq => (one q hq).1, fun q hq => ⟨(one q hq).2.1, (one q hq).2.2.1⟩, few⟩
end Q
namespace Q
open PySem PySem.Spec PyProof.Rows L2
section
variable {K : PySem.W.Frag} {C : Addr} {G H : Hp} {ps : List Addr} {ls : List (Str × Int)}
theorem LvOk.pairs {bL : List (Str × List Int)} (h : LvOk bL) : (∀ l ∈ lifesOf bL, nmOk l.1 = true ∧ 0 ≤ l.2 ∧ l.2 ≤ 1000000000000000000000000000000) ∧ (lifesOf bL).length ≤ 100 := by
  refine ⟨fun l hl => ?_, ?_⟩
  · obtain ⟨q, hq, e1, e2⟩ := lifes_has (show (l.1, l.2) ∈ lifesOf bL from hl)
    rw [← e1]
    exact ⟨h.nm q hq, (h.ks q hq).2 l.2 e2⟩
  · have := lifes_few' fun q hq => (h.ks q hq).1
    have := h.few
    omega
end
end Q
namespace Q
open PySem PySem.Spec PyProof.Rows L2
structure RwOk (rows : List (Str × List V)) : Prop where
  all : ∀ r ∈ rows, nmOk r.1 = true ∧ r.2.length ≤ 60 ∧ ∀ v ∈ r.2, ∃ k : Int, v = .int k ∧ 1 ≤ k ∧ k ≤ 1000000000000000000000000000000
  nd : (rows.map (·.1)).Nodup
section
variable {K : PySem.W.Frag} {G G' : Hp} {rows : List (Str × List V)} {bt bL bL' : List (Str × List Int)} {ts : List Str} {t : Str} {xs : List V} {Cn Cm : Addr}
theorem rowOf_at (nd : (rows.map (·.1)).Nodup) (h : (t, xs) ∈ rows) : rowOf rows t = some xs := by
  induction rows with
  | nil => cases h
  | cons q rows ih =>
    obtain ⟨n1, n2⟩ := List.nodup_cons.mp (show (q.1 :: rows.map (·.1)).Nodup from nd)
    rcases List.mem_cons.mp h with e | m
    · subst e
      simp [rowOf, List.find?_cons]
    · have ne : ¬ q.1 = t := fun z => n1 (List.mem_map.mpr ⟨_, m, z.symm⟩)
      have a1 : rowOf (q :: rows) t = rowOf rows t := by simp [rowOf, List.find?_cons, ne]
      rw [a1]
      exact ih n2 m
theorem RwOk.rowsOk (h : RwOk rows) : RowsOk K G rows := by
  refine ⟨fun r hr => ?_, fun r hr v hv => ?_, fun r hr => ?_, fun r hr => ?_⟩
  · exact ⟨Nat.le_trans (nmOk_len (h.all r hr).1) (by decide), (h.all r hr).2.1⟩
  · obtain ⟨k, rfl, k0, k1⟩ := (h.all r hr).2.2 v hv
    exact ⟨_, odd_pos (by omega) (by omega)⟩
  · exact ⟨_, odd_name (h.all r hr).1⟩
  · exact nmOk_str (h.all r hr).1
theorem RwOk.fault (h : RwOk rows) (p : ts.Perm (rows.map (·.1))) : faultL Cn Cm rows ts = none := by
  refine faultL_ok fun t ht => ?_
  obtain ⟨r, hr, rfl⟩ := List.mem_map.mp (p.mem_iff.mp ht)
  refine ⟨(h.all r hr).1, r.2, rowOf_at h.nd hr, fun v hv => ?_⟩
  obtain ⟨k, rfl, k0, k1⟩ := (h.all r hr).2.2 v hv
  show (decide (1 ≤ k) && decide (k ≤ 1000000000000000000000000000000)) = true
  rw [Bool.and_eq_true, decide_eq_true_iff, decide_eq_true_iff]
  exact ⟨k0, k1⟩
theorem lvOf_rows (h : RwOk rows) (hp : (rows.map (·.1)).Perm (bt.map (·.1))) (hk : ∀ r ∈ rows, ∀ ns, nsOf bt r.1 = some ns → ∀ k : Int, V.int k ∈ r.2 ↔ k ∈ ns) (p1 : ts.Perm (rows.map (·.1))) (p2 : ts.Pairwise leS) (b : BtOf rows ts bL) : LvOf bt bL := by
  refine ⟨by rw [b.1]; exact p1.trans hp, by rw [b.1]; exact p2, fun q hq => ?_⟩
  obtain ⟨ms, e, h1, h2⟩ := b.2 q hq
  have m : q.1 ∈ rows.map (·.1) := p1.mem_iff.mp (by rw [← b.1]; exact List.mem_map.mpr ⟨q, hq, rfl⟩)
  obtain ⟨r, hr, er⟩ := List.mem_map.mp m
  obtain ⟨ns, hns⟩ := nsOf_in (hp.mem_iff.mp m)
  have e2 : rowOf rows q.1 = some r.2 := rowOf_at h.nd (by rw [← er]; exact hr)
  refine ⟨ms, e, h1, fun k => (h2 k).trans ?_⟩
  rw [e2, hns]
  show V.int k ∈ r.2 ↔ V.int k ∈ ns.map V.int
  rw [hk r hr ns (by rw [er]; exact hns) k, List.mem_map]
  exact ⟨fun hj => ⟨k, hj, rfl⟩, fun ⟨j, hj, e⟩ => by cases e; exact hj⟩
theorem lvOf_one (h : LvOf bt bL) (h' : LvOf bt bL') (ok : BgnOk bt) : bL = bL' := by
  have e : bL.map (·.1) = bL'.map (·.1) := leS_one (h.1.trans h'.1.symm) h.2.1 h'.2.1
  refine List.ext_getElem? fun i => ?_
  have ei : (bL[i]?).map (·.1) = (bL'[i]?).map (·.1) := by rw [← List.getElem?_map, ← List.getElem?_map, e]
  cases e1 : bL[i]? with
  | none =>
    rw [e1] at ei
    cases e2 : bL'[i]? with
    | none => rfl
    | some q => rw [e2] at ei; cases ei
  | some q =>
    obtain ⟨t, ns⟩ := q
    rw [e1] at ei
    cases e2 : bL'[i]? with
    | none => rw [e2] at ei; cases ei
    | some q' =>
      obtain ⟨t', ns'⟩ := q'
      rw [e2] at ei
      have et : t = t' := Option.some.inj ei
      subst et
      obtain ⟨n1, ms, a1, rfl, a3, a4, _⟩ := h.begs ok e1
      obtain ⟨n2, ms', b1, rfl, b3, b4, _⟩ := h'.begs ok e2
      rw [a1] at b1
      cases b1
      rw [ltI_one a3 b3 fun k => (a4 k).trans (b4 k).symm]
theorem LvOf.len (h : LvOf bt bL) : bL.length = bt.length := by
  have := h.1.length_eq
  rwa [List.length_map, List.length_map] at this
def rowsB (bt : List (Str × List Int)) : List (Str × List V) := bt.map fun q => (q.1, q.2.map V.int)
theorem rowsB_fst : (rowsB bt).map (·.1) = bt.map (·.1) := by
  unfold rowsB
  rw [List.map_map]
  rfl
theorem BgnOk.rw (ok : BgnOk bt) : RwOk (rowsB bt) := by
  refine ⟨fun r hr => ?_, by rw [rowsB_fst]; exact ok.nd⟩
  obtain ⟨q, hq, rfl⟩ := List.mem_map.mp hr
  obtain ⟨k1, k2⟩ := ok.ks q hq
  refine ⟨ok.nm q hq, by show (q.2.map V.int).length ≤ 60; rw [List.length_map]; omega, fun v hv => ?_⟩
  obtain ⟨k, hk, rfl⟩ := List.mem_map.mp hv
  exact ⟨k, rfl, k2 k hk⟩
theorem rowsB_has (nd : (bt.map (·.1)).Nodup) : ∀ r ∈ rowsB bt, ∀ ns, nsOf bt r.1 = some ns → ∀ k : Int, V.int k ∈ r.2 ↔ k ∈ ns := fun r hr ns hns k => by
  obtain ⟨q, hq, rfl⟩ := List.mem_map.mp hr
  have e : nsOf bt q.1 = some q.2 := nsOf_at nd hq
  have hns : nsOf bt q.1 = some ns := hns
  rw [e] at hns
  cases hns
  show V.int k ∈ q.2.map V.int ↔ _
  rw [List.mem_map]
  exact ⟨fun ⟨j, hj, e⟩ => by cases e; exact hj, fun hj => ⟨k, hj, rfl⟩⟩
inductive HdAt (Fr : Addr → Prop) (G : Hp) : List (Key × V) → List (Str × List Int) → Prop
  | nil : HdAt Fr G [] []
  | tup {s : Str} {a : Addr} {ns : List Int} {kvs : List (Key × V)} {bt : List (Str × List Int)} (h : G a = some (.tup (ns.map V.int))) (r : HdAt Fr G kvs bt) : HdAt Fr G ((.inr s, .ref a) :: kvs) ((s, ns) :: bt)
  | lst {s : Str} {a : Addr} {ns : List Int} {kvs : List (Key × V)} {bt : List (Str × List Int)} (h : G a = some (.lst (ns.map V.int))) (f : Fr a) (r : HdAt Fr G kvs bt) : HdAt Fr G ((.inr s, .ref a) :: kvs) ((s, ns) :: bt)
variable {Fr : Addr → Prop} {kvs : List (Key × V)}
theorem HdAt.same (h : HdAt Fr G kvs bt) (s : Same G G') : HdAt Fr G' kvs bt := by
  induction h with
  | nil => exact .nil
  | tup h _ ih => exact .tup (s _ _ h) ih
  | lst h f _ ih => exact .lst (s _ _ h) f ih
theorem HdAt.beg (h : HdAt Fr G kvs bt) : BegAt K G kvs (rowsB bt) := by
  induction h with
  | nil => exact .nil
  | tup h _ ih => exact .cons (.inr (SqT.of h)) ih
  | lst h f _ ih => exact .cons (.inl (SqL.of h)) ih
theorem HdAt.keys (h : HdAt Fr G kvs bt) : kvs.map (·.1) = (bt.map (·.1)).map Sum.inr := by
  induction h with
  | nil => rfl
  | tup h _ ih => rw [List.map_cons, List.map_cons, List.map_cons, ih]
  | lst h f _ ih => rw [List.map_cons, List.map_cons, List.map_cons, ih]
theorem HdAt.out (h : HdAt Fr G kvs bt) {s : Str} (n : s ∉ bt.map (·.1)) : valV kvs (.inr s) = none := by
  have go : ∀ (t : Str) (a : Addr) (ns : List Int) (kvs : List (Key × V)) (bt : List (Str × List Int)), (s ∉ bt.map (·.1) → valV kvs (.inr s) = none) → s ∉ ((t, ns) :: bt).map (·.1) → valV ((.inr t, .ref a) :: kvs) (.inr s) = none := fun t a ns kvs bt ih n => by
    have e : ¬ (Sum.inr t : Key) = .inr s := fun z => n (by rw [Sum.inr.inj z]; simp)
    rw [valV_neg (p := ((Sum.inr t : Key), V.ref a)) e]
    exact ih fun m => n (by simp at m ⊢; exact .inr m)
  induction h with
  | nil => rfl
  | tup h _ ih => exact go _ _ _ _ _ ih n
  | lst h f _ ih => exact go _ _ _ _ _ ih n
/-- the same while the lists grow -/
def HdM (Fr : Addr → Prop) (n : Nat) (G : Hp) (kvs : List (Key × V)) : Prop := ∀ kv ∈ kvs, ∃ s a, kv = (.inr s, .ref a) ∧ ((∃ xs, G a = some (.tup xs)) ∨ ∃ xs, G a = some (.lst xs) ∧ xs.length ≤ n ∧ Fr a)
theorem HdM.same {n : Nat} (h : HdM Fr n G kvs) (s : Same G G') : HdM Fr n G' kvs := fun kv hk => by
  obtain ⟨z, a, e, h⟩ := h kv hk
  refine ⟨z, a, e, ?_⟩
  rcases h with ⟨xs, h⟩ | ⟨xs, h, l, f⟩
  · exact .inl ⟨xs, s _ _ h⟩
  · exact .inr ⟨xs, s _ _ h, l, f⟩
theorem HdM.more {n m : Nat} (h : HdM Fr n G kvs) (l : n ≤ m) : HdM Fr m G kvs := fun kv hk => by
  obtain ⟨z, a, e, h⟩ := h kv hk
  refine ⟨z, a, e, ?_⟩
  rcases h with h | ⟨xs, h, l2, f⟩
  · exact .inl h
  · exact .inr ⟨xs, h, Nat.le_trans l2 l, f⟩
theorem HdM.put {n : Nat} {q : Addr} {xs : List V} {y : V} (h : HdM Fr n G kvs) (hq : G q = some (.lst xs)) (l : xs.length ≤ n) (f : Fr q) : HdM Fr (n + 1) (upd G q (.lst (xs ++ [y]))) kvs := fun kv hk => by
  obtain ⟨z, a, e, h⟩ := h kv hk
  refine ⟨z, a, e, ?_⟩
  by_cases c : a = q
  · subst c
    exact .inr ⟨_, upd_same, by simp; omega, f⟩
  · rcases h with ⟨xs, h⟩ | ⟨xs, h, l2, f⟩
    · exact .inl ⟨xs, by rw [upd_ne c]; exact h⟩
    · exact .inr ⟨xs, by rw [upd_ne c]; exact h, by omega, f⟩
end
structure LvE (K : PySem.W.Frag) (C : Addr) : Prop where
  d : PySem.W.findIn K (.ref C) "__class__" = some (some (.builtin "object.__class__"))
  n : PySem.W.specialIn K (.builtin "object.__class__") "__get__" = some (some (.builtin "getset_descriptor.__get__"))
  tk : PySem.W.takesIn K (.builtin "object.__class__") = some true
  m : PySem.W.mroIn K C (.type "object") = some true
  me : PySem.W.kitOne K (.ref C) (.ref C) = some true
  tu : PySem.W.kitOne K (.type "tuple") (.ref C) = some false
  di : PySem.W.kitOne K (.type "dict") (.ref C) = some false
  f1 : PySem.W.notFirst K C (.ref C) = true
  f2 : PySem.W.notFirst K C (.type "tuple") = true
  f3 : PySem.W.notFirst K C (.type "dict") = true
theorem LvE.ty {K : PySem.W.Frag} {C : Addr} (h : LvE K C) (S : LvC K C) (G : Hp) (c : Addr) (bt : List (Str × List Int)) (hl : LivesAt C G c bt) : TyX K G (.ref c) (.ref C) := by
  obtain ⟨dx, D, od, kvs, h1, _⟩ := hl
  exact .base (.ins h1 S.c h.d h.n h.tk h.m)
end Q
namespace Q
open PySem PySem.Spec PyProof.Rows L2
theorem DrAt.nd (K : PySem.W.Frag) {G : Hp} {ps : List Addr} {kvs : List (Key × V)} {rows : List (Str × List V)} (h : DrAt G ps kvs rows) (nd : (rows.map (·.1)).Nodup) : (kvs.map (·.1)).Nodup ∧ kvs.length = rows.length := by
  have b : BegAt K G kvs rows := h.beg
  exact ⟨by rw [b.keysR]; exact nodup_inr nd, b.len⟩
end Q
namespace Q
open PySem PySem.Spec PyProof.Rows L2
theorem BegAt.snoc {K : PySem.W.Frag} {G : Hp} {kvs : List (Key × V)} {rows : List (Str × List V)} {s : Str} {a : Addr} {xs : List V} (r : BegAt K G kvs rows) (h : SqA K G a xs) : BegAt K G (kvs ++ [(.inr s, .ref a)]) (rows ++ [(s, xs)]) := by
  induction r with
  | nil => exact .cons h .nil
  | cons h2 _ ih => exact .cons h2 ih
/-- each with one more -/
def MoreAt : List (Str × List V) → List (Str × List Int) → Prop := Paired fun r q => r.1 = q.1 ∧ ∃ k : Int, r.2 = (q.2 ++ [k]).map V.int ∧ 1 ≤ k ∧ k < 99 ∧ k ∉ q.2
section
variable {rows : List (Str × List V)} {bt bL bL' : List (Str × List Int)} {ts : List Str}
theorem MoreAt.fst (h : MoreAt rows bt) : rows.map (·.1) = bt.map (·.1) := by
  induction h with
  | nil => rfl
  | cons h _ ih => rw [List.map_cons, List.map_cons, ih, h.1]
theorem MoreAt.mem (h : MoreAt rows bt) : ∀ r ∈ rows, ∃ q ∈ bt, r.1 = q.1 ∧ ∃ k : Int, r.2 = (q.2 ++ [k]).map V.int ∧ 1 ≤ k ∧ k < 99 ∧ k ∉ q.2 := by
  induction h with
  | nil => exact fun r h => by cases h
  | @cons r q _ _ h _ ih =>
    intro r' hr
    rcases List.mem_cons.mp hr with rfl | hr
    · exact ⟨q, List.mem_cons_self, h⟩
    · obtain ⟨q', h1, h2⟩ := ih r' hr
      exact ⟨q', List.mem_cons_of_mem _ h1, h2⟩
theorem MoreAt.rw (h : MoreAt rows bt) (ok : BgnOk bt) : RwOk rows := by
  refine ⟨fun r hr => ?_, by rw [h.fst]; exact ok.nd⟩
  obtain ⟨q, hq, e1, k, e2, k1, k2, k3⟩ := h.mem r hr
  obtain ⟨l1, l2⟩ := ok.ks q hq
  refine ⟨by rw [e1]; exact ok.nm q hq, by rw [e2, List.length_map, List.length_append]; simp; omega, fun v hv => ?_⟩
  rw [e2] at hv
  obtain ⟨j, hj, rfl⟩ := List.mem_map.mp hv
  refine ⟨j, rfl, ?_⟩
  rcases List.mem_append.mp hj with hj | hj
  · exact l2 j hj
  · rw [List.mem_singleton.mp hj]; omega
end
end Q
namespace Q
open PySem PySem.Spec PyProof.Rows L2
end Q
namespace Q
open PySem PySem.Spec PyProof.Rows L2
structure FnScS (N P : List Str) (sc : Scope) : Prop where
  kind : sc.kind = .function
  co : sc.isCoroutine = false
  gen : sc.isGenerator = false
  nd : N.Nodup
  pre : N.take P.length = P
  par : ∀ x ∈ P, sc.names.lookup x = some .local
  nocell : ∀ y ∈ sc.names, y.2 ≠ .cell
  free : ∀ y ∈ sc.names, y.2 = .free → y.1 = "__class__"
  kc : sc.names.lookup ("__class__" : Str) = some NameKind.free
  ks : sc.names.lookup ("super" : Str) = some NameKind.globalImplicit
abbrev envS (qual : Str) (sc : Scope) (L f : Addr) (cd : Value) (cc : Addr) : Env := PySem.W.envX qual sc L f cd [("__class__", cc)]
abbrev fnS (x qual : Str) (params : Arguments) (body : List Stmt) (sc : Scope) (cc : Addr) (dV kV doc pm : Value) (an : Option Addr) (cdv ct : Value) : FuncData := PySem.W.fnX x qual params body sc [("__class__", cc)] dV kV doc pm an cdv ct
def cxS (CX : CXT) (P : Program) (w : World) (K : PySem.W.Frag) (mg : Str → Option Value) (base : Heap) (N : List Str) (qual : Str) (sc : Scope) (f : Addr) (cd : Value) (cc : Addr) (A : Around) (outer : List Env) (s : Shared) (H : Hp) (E : XK) : Cx where
  prog := P
  w := w
  K := K
  mg := mg
  base := base
  A := A.deeper (envS qual sc s.heap.objs.size f cd cc)
  N := N
  s_0 := s
  H_0 := H
  env := envS qual sc s.heap.objs.size f cd cc
  outer := outer
  stack := envS qual sc s.heap.objs.size f cd cc :: outer
  ex := []
  calm := true
  fn := fun _ => false
  pn := []
  xe := fun e s' => wpAny (model P w) (A.deeper (envS qual sc s.heap.objs.size f cd cc)) (leaving (envS qual sc s.heap.objs.size f cd cc) e) (fun _ s'' => CX outer H s E e s'') (fun e' s'' => CX outer H s E e' s'') s'
theorem lookup_nd {α : Type} : ∀ {l : List (Str × α)} {k : Str} {v : α}, (l.map (·.1)).Nodup → (k, v) ∈ l → l.lookup k = some v
  | [], _, _, _, h => by cases h
  | (a, b) :: l, k, v, nd, h => by
    obtain ⟨n1, n2⟩ := List.nodup_cons.mp (show (a :: l.map (·.1)).Nodup from nd)
    rcases List.mem_cons.mp h with e | h
    · cases e
      simp [List.lookup_cons]
    · have ne : ¬ k = a := fun z => n1 (by rw [← z]; exact List.mem_map.mpr ⟨_, h, rfl⟩)
      rw [List.lookup_cons, show (k == a) = false from beq_eq_false_iff_ne.mpr ne]
      exact lookup_nd n2 h
theorem zip_fst {α β : Type} : ∀ {xs : List α} {ys : List β}, xs.length = ys.length → (xs.zip ys).map (·.1) = xs
  | [], [], _ => rfl
  | x :: xs, y :: ys, h => by rw [List.zip_cons_cons, List.map_cons, zip_fst (by simpa using h)]
theorem zip_mem {α β : Type} : ∀ {xs : List α} {ys : List β} {i : Nat} {x : α} {y : β}, xs[i]? = some x → ys[i]? = some y → (x, y) ∈ xs.zip ys
  | a :: xs, b :: ys, 0, x, y, h1, h2 => by cases h1; cases h2; exact List.mem_cons_self
  | a :: xs, b :: ys, i + 1, x, y, h1, h2 => List.mem_cons_of_mem _ (zip_mem (i := i) (by simpa using h1) (by simpa using h2))
theorem inv_startS {CX : CXT} {P : Program} {w : World} {K : PySem.W.Frag} {mg : Str → Option Value} {base : Heap} {N ps : List Str} {qual : Str} {sc : Scope} {f cc : Addr} {cd : Value} {A : Around} {outer : List Env} {s : Shared} {H : Hp} {E : XK} {us : List Value} {vs : List V} {h1 : Heap} {tk : Nat}
    {cl : Value} {cld : Option Addr} {cv : Option Value} {csl : Array (Option Value)} (S : FnScS N ps sc) (hcell : K.lookup cc = some ⟨cl, cld, .cell cv, csl⟩) (hd : A.handled = none) (e0 : Env0 P w K mg base A outer s H) (hl : vs.length = ps.length) (r : Vals vs us)
    (hns : h1.Ns s.heap.objs.size (fun x => (ps.zip us).reverse.lookup x)) (hk : ∀ b o, s.heap.get? b = some o → h1.get? b = some o) :
    Inv (cxS CX P w K mg base N qual sc f cd cc A outer s H E) [] (L2.start N vs) H { s with heap := h1, toks := tk } := by
  have KX : K.In s.heap := e0.mod.kin.keeps fun b o e => (e0.bs b o e).1
  have hb : base.get? cc = some ⟨cl, cld, .cell cv, csl⟩ := e0.mod.kin _ _ hcell
  have one : ∀ x c, (cxS CX P w K mg base N qual sc f cd cc A outer s H E).env.cells.lookup x = some c → x = "__class__" ∧ c = cc := fun x c h => by
    have h : ([("__class__", cc)] : List (Str × Addr)).lookup x = some c := h
    rw [List.lookup_cons] at h
    cases e : x == ("__class__" : Str) with
    | true => rw [e] at h; exact ⟨eq_of_beq e, (Option.some.inj h).symm⟩
    | false => rw [e] at h; cases h
  have noA : ∀ b : Addr, b ∉ (cxS CX P w K mg base N qual sc f cd cc A outer s H E).ex := fun b z => absurd (show b ∈ ([] : List Addr) from z) (by simp)
  have ndP : ps.Nodup := by rw [← S.pre]; exact S.nd.sublist (List.take_sublist _ _)
  have lu : us.length = ps.length := by rw [← r.length]; exact hl
  have hpl : ps.length ≤ N.length := by have := congrArg List.length S.pre; rw [List.length_take] at this; omega
  refine ⟨⟨e0.mod, S.kind, rfl, rfl, Nat.le_refl _, fun y z c h1 h2 => ?_, fun y hy => ?_, fun y c h => (by cases h), fun _ => hd, Around.frames_deeper e0.frames, .inr ⟨rfl, rfl⟩, fun b z => absurd z (noA b), e0.bs, e0.bsz, fun b _ _ => noA b, fun b z => absurd z (noA b), e0.funs, e0.frf⟩,
    rfl, e0.bare, Un.kept hk, ⟨_, hns, fun i y v h1 h2 h3 => ?_⟩, fun y c h => ?_, e0.hok.fresh (Nat.le_refl _), fun y c h => ?_, fun p hp => absurd (show p ∈ ([] : List (Addr × Obj)) from hp) (by simp), e0.hok.kept hk, ?_⟩
  · rw [(one _ _ h1).1, (one _ _ h2).1]
  · have hy : sc.names.lookup y = some .cell ∨ sc.names.lookup y = some .free := hy
    rcases hy with hy | hy
    · exact absurd rfl (S.nocell _ (PySem.mem_of_lookup hy))
    · have e := S.free _ (PySem.mem_of_lookup hy) rfl
      have e : y = "__class__" := e
      subst e
      exact ⟨cc, rfl⟩
  · have hi : i < vs.length := by
      unfold L2.start at h2
      by_cases hi : i < vs.length
      · exact hi
      · rw [List.getElem?_append_right (by simpa using hi)] at h2
        rw [List.getElem?_replicate] at h2
        split at h2 <;> cases h2
    have ha : vs[i]? = some v := by
      unfold L2.start at h2
      rw [List.getElem?_append_left (by simpa using hi), List.getElem?_map] at h2
      cases e : vs[i]? with
      | none => rw [e] at h2; cases h2
      | some a => rw [e] at h2; cases h2; rfl
    obtain ⟨u, hu, rv⟩ := r.get ha
    have hp : ps[i]? = some y := by
      rw [← S.pre, List.getElem?_take_of_lt (by omega)]; exact h1
    refine ⟨u, rv, .inl ⟨S.par y (List.mem_of_getElem? hp), lookup_nd ?_ (List.mem_reverse.mpr (zip_mem hp hu))⟩⟩
    rw [List.map_reverse, zip_fst lu.symm]
    exact List.pairwise_reverse.mpr (ndP.imp fun h e => h e.symm)
  · obtain ⟨_, rfl⟩ := one _ _ h
    exact ⟨cv, _, hk _ _ (KX _ _ hcell), rfl⟩
  · obtain ⟨_, rfl⟩ := one _ _ h
    exact (e0.bs _ _ hb).2
  · unfold L2.start
    show _ = N.length
    rw [List.length_append, List.length_map, List.length_replicate]
    omega
/-- a suite of the def itself: its last part, at the def's own level -/
structure PSsF (X : Cx) (full st : List Stmt) (t : TS) : Prop where
  run : ∀ (pins : List (Addr × Obj)) (s : Shared) (σ : L2.St) (H : Hp) (D : Ends), Inv X pins σ H s → t D σ H → _root_.PySem.wpAt (model X.prog X.w) X.A (.func full X.env) (execs st X.env) (SP X pins D) X.xe s
theorem fnS_of {CX : CXT} {P : Program} {w : World} {K : PySem.W.Frag} {mg : Str → Option Value} {base : Heap} {k : Nat} {f cc : Addr} {name qual : Str} {params : Arguments} {body : List Stmt} {sc : Scope} {dV kV doc pm cdv ct oc : Value} {an od : Option Addr}
    {osl : Array (Option Value)} {N ps : List Str} {sp : Sp} {cl : Value} {cld : Option Addr} {cv : Option Value} {csl : Array (Option Value)} (lk : K.lookup f = some ⟨oc, od, .func (fnS name qual params body sc cc dV kV doc pm an cdv ct), osl⟩) (hcd : PySem.W.codeIn K cdv qual = true)
    (hcell : K.lookup cc = some ⟨cl, cld, .cell cv, csl⟩) (S : FnScS N ps sc) (len : ∀ vs H Q E, sp vs H Q E → vs.length = ps.length)
    (hbody : ∀ (A : Around) (outer : List Env) (s : Shared) (H : Hp) (vs : List V) (Q : VK) (E : XK), Room k (A.deeper (envS qual sc s.heap.objs.size f cdv cc)) → sp vs H Q E →
      ∃ t, PSsF (cxS CX P w K mg base N qual sc f cdv cc A outer s H E) body body t ∧ t { nx := fun _ H' => Q .non H', rt := Q } (L2.start N vs) H) :
    FnOk P w K mg base CX (k + 1) f (fnS name qual params body sc cc dV kV doc pm an cdv ct) ps sp := by
  refine ⟨len, fun A outer s H args us vs Q E hr e0 hb r hsp => ?_⟩
  have hl := len _ _ _ _ hsp
  have KX : K.In s.heap := e0.mod.kin.keeps fun b o e => (e0.bs b o e).1
  have lim : s.heap.NoLimit := e0.mod.nolimit.keeps fun b o e => (e0.bs b o e).1
  have hloc : ∀ y ∈ ps.zip us, sc.names.lookup y.1 = some .local := fun ⟨n, v⟩ hy => S.par n (List.of_mem_zip hy).1
  refine codeAny_call_function hr.depth (KX _ _ lk) rfl S.co S.gen rfl (PySem.W.codeRec_of KX hcd) (hb _ _ _ _ ?_)
  refine wpAny_newFunctionEnv S.nocell hloc (fun h1 hns hsb => ?_) S.kind
  have hk : ∀ b o, s.heap.get? b = some o → h1.get? b = some o := fun b o e => hsb.extBut b o (Nat.ne_of_lt (Heap.lt_size e)) (Heap.get?_push_of_some _ e)
  refine ⟨lim.keeps hk, ks_codeAny_funcAt ?_⟩
  obtain ⟨t, ht, hq⟩ := hbody A outer s H vs Q E (hr.deeper _) hsp
  have I : Inv (cxS CX P w K mg base N qual sc f cdv cc A outer s H E) [] (L2.start N vs) H { s with heap := h1, toks := s.toks + (ps.zip us).length } := inv_startS S hcell hr.hd e0 hl r hns hk
  refine _root_.PySem.wpAt_mono (ht.run [] _ (L2.start N vs) H _ I hq) (fun fl s' hs => ?_) fun e s' hs => hs
  have fin : ∀ {σ' : L2.St} {H' : Hp} {v : V} {u : Value}, Inv (cxS CX P w K mg base N qual sc f cdv cc A outer s H E) [] σ' H' s' → RelV v u → Q v H' → CE outer P w H s Q u s' :=
    fun {σ' H' v u} J rv q => ⟨v, H', J.os, J.bare, J.base, J.hok, rv, q⟩
  cases fl with
  | ret u =>
    obtain ⟨v, σ', H', J, rv, q⟩ := hs
    exact fin J rv q
  | next =>
    obtain ⟨σ', H', J, q⟩ := hs
    exact fin (v := V.non) (u := Value.none) J rfl q
  | brk =>
    obtain ⟨_, _, _, q⟩ := hs
    exact False.elim q
  | cont =>
    obtain ⟨_, _, _, q⟩ := hs
    exact False.elim q
section
variable {X : Cx} {full rest : List Stmt} {st : Stmt} {t u : TS}
theorem pssF_of {sts : List Stmt} (h : PSs X sts t) : PSsF X full sts t := ⟨fun pins s σ H D I q => _root_.PySem.wpAt_of_wpAny (h.run pins s σ H D I q)⟩
theorem pssF_cons (h1 : PS X st t) (h2 : PSsF X full rest u) : PSsF X full (st :: rest) (tSeq t u) := by
  refine ⟨fun pins s σ H D I h => ?_⟩
  refine ks_wpAt_execs_cons (_root_.PySem.wpAt_of_wpAny (thn (h1.run pins s σ H { D with nx := u D } I h) fun f s1 q => ?_))
  cases f with
  | next =>
    obtain ⟨σ', H', I', q⟩ := q
    exact h2.run pins s1 σ' H' D I' q
  | ret v => exact q
  | brk => exact q
  | cont => exact q
end
end Q
namespace Q
open PySem PySem.Spec PyProof.Rows L2
/-- a def that names its class D, as it stands -/
structure SupD (P : Program) (K : PySem.W.Frag) (x qual : Str) (st : Stmt) (D f : Addr) (fd : FuncData) : Prop where
  ex : ∃ (oc : Value) (od : Option Addr) (kV doc pm : Value) (an : Option Addr) (cda : Addr) (ct : Value) (osl : Array (Option Value)) (cc : Addr) (ccl : Value) (ccd : Option Addr) (vs : Array Value) (ccs : Array (Option Value)) (file : Str) (tf : Tok) (cl : Value) (cld : Option Addr) (csl : Array (Option Value)) (cd : ClassData),
    fd = fnS x qual (defArgs st) (defBody st) (defScope st) cc .none kV doc pm an (.ref cda) ct ∧ K.lookup f = some ⟨oc, od, .func fd, osl⟩ ∧ PySem.W.codeIn K (.ref cda) qual = true ∧ K.lookup cda = some ⟨ccl, ccd, .fields vs, ccs⟩ ∧ vs[2]? = some (.str file tf) ∧ ((P.main.file : Str) == file) = true ∧
    K.lookup cc = some ⟨cl, cld, .cell (some (.ref D)), csl⟩ ∧ PySem.W.clsIn K D = some cd ∧ PySem.W.nsIn K cStatics "thirdparty.any" = some none
  kp : PySem.W.keepIn K (.ref f) = true
/-- what stands behind D in the order of C's classes -/
structure SupC (K : PySem.W.Frag) (C D f2 : Addr) : Prop where
  sub : PySem.W.mroIn K C (.ref D) = some true
  m : PySem.W.ks_superIn K C D "__init__" = some (some (.ref f2))
  ty : PySem.W.typeIn K (.ref f2) = some (.type "function")
  fi : PySem.W.fnIn K f2 = true
def tSup (C : Addr) (sp : Sp) (E : XK) (ta : TA) : TS := fun D σ H => ∃ a dx fs, σ[0]? = some (some (.ref a)) ∧ H a = some (.ins C dx fs) ∧ ta σ H fun vs H1 => sp (.ref a :: vs) H1 (fun _ H2 => D.nx σ H2) E
theorem run_meth {X : Cx} {CX : CXT} {k : Nat} {f q : Addr} {fd : FuncData} {ps : List Str} {sp : Sp} {E : XK} {pins : List (Addr × Obj)} {σ : L2.St} {H : Hp} {s : Shared} {Q : VK} {u : Value} {x : V} {us : List Value} {vs : List V} (F : FnOk X.prog X.w X.K X.mg X.base CX k f fd ps sp) (hr : Room k X.A)
    (hb : Binds X.K fd ps []) (hx : Passes CX X E) (I : Inv X pins σ H s) (rx : RelV x u) (r : Vals vs us) (hq : s.heap.get? q = some (PySem.W.methodObj (.ref f) u)) (h : sp (x :: vs) H Q E) :
    wpAny (model X.prog X.w) X.A (call (.ref q) us) (EP X pins σ Q) X.xe s := by
  have r2 : Vals (x :: vs) (u :: us) := .cons rx r
  have hl : ((u :: us) ++ []).length = ps.length := by
    rw [List.append_nil, ← r2.length]
    exact F.len _ _ _ _ h
  have hbb := hb s (u :: us) I.kIn hl
  rw [List.append_nil] at hbb
  refine wpAny_call (PySem.W.method_call hq (codeAny_mono (F.run X.A X.stack s H ⟨u :: us, []⟩ (u :: us) (x :: vs) Q E hr I.env0 hbb r2 h) fun o s' hq => ?_))
  match o, hq with
  | .error e, hq => exact hx pins σ H s e s' I hq
  | .ok (.ret u), hq => exact I.after hq
  | .ok .next, hq => exact hq.elim
  | .ok .brk, hq => exact hq.elim
  | .ok .cont, hq => exact hq.elim
theorem callWith_mp {M : Model} {A : Around} {E : Value → Shared → Prop} {s : Shared} {K : PySem.W.Frag} {env : Env} {pos : Pos} {first : List Value} {Q : Value → Shared → Prop} {q g : Addr} {self : Value} {e : Expr} {rest : List Expr} (hf : PySem.W.fnIn K g = true)
    (h : wpAny M A (spliced (backTo pos (starEach (e :: rest) env))) (fun vs s1 => PySem.W.MethP K q g self s1.heap ∧ wpAny M A (call (.ref q) (first ++ vs)) Q E s1) E s)
    (he : starEach (e :: rest) env = (false, eval e env) :: starEach rest env) (hplain : (backTo pos (starEach rest env)).any (·.1) = false) :
    wpAny M A (callWith pos (.ref q) first (backTo pos (starEach (e :: rest) env)) []) Q E s := by
  rw [he] at h ⊢
  exact PySem.W.callWith_of (by show ((false || (backTo pos (starEach rest env)).any (·.1)) || false) = false; rw [hplain]; rfl) (PySem.W.keeps_M hf) (Calls.evalArgs_plain h)
section
variable {CX CX' : CXT} {P : Program} {w : World} {K : PySem.W.Frag} {mg : Str → Option Value} {base : Heap} {N ps : List Str} {x qual self : Str} {st : Stmt} {f cda cc C D f2 : Addr} {A : Around} {outer : List Env} {s0 : Shared} {H0 : Hp} {E0 E : XK} {k : Nat} {fd fd2 : FuncData} {ps2 : List Str} {sp : Sp} {full rest : List Stmt} {ta : TA} {u : TS}
  {p0 p1 apos pos ep : Pos} {e : Expr} {es : List Expr} {pl : Sem Bool}
theorem pssF_super {oc : Value} {od : Option Addr} {osl : Array (Option Value)} {ar : Arg} {ccl : Value} {ccd : Option Addr} {vs0 : Array Value} {ccs : Array (Option Value)} {file : Str} {tf : Tok} {cl : Value} {cld : Option Addr} {csl : Array (Option Value)} {cd : ClassData}
    (S : FnScS N ps (defScope st)) (hN : N[0]? = some ar.arg) (hself : (defScope st).names.lookup ar.arg = some NameKind.local) (hf : K.lookup f = some ⟨oc, od, .func fd, osl⟩) (hp : (fd.params.posonlyargs ++ fd.params.args).head? = some ar)
    (hcode : K.lookup cda = some ⟨ccl, ccd, .fields vs0, ccs⟩) (hvs : vs0[2]? = some (.str file tf)) (hfile : ((P.main.file : Str) == file) = true) (hcell : K.lookup cc = some ⟨cl, cld, .cell (some (.ref D)), csl⟩) (hD : PySem.W.clsIn K D = some cd) (ho : PySem.W.nsIn K cStatics "thirdparty.any" = some none)
    (hsup : mg "super" = none) (htop : (P.main.scope.names.lookup ("super" : Str)).isSome = false) (Cc : SupC K C D f2)
    (G : FnOk P w K mg base CX' k f2 fd2 ps2 sp) (hr : Room k (cxS CX P w K mg base N qual (defScope st) f (.ref cda) cc A outer s0 H0 E0).A) (hb : Binds K fd2 ps2 []) (hx : Passes CX' (cxS CX P w K mg base N qual (defScope st) f (.ref cda) cc A outer s0 H0 E0) E)
    (ha : PA (cxS CX P w K mg base N qual (defScope st) f (.ref cda) cc A outer s0 H0 E0) (e :: es) ta) (h2 : PSsF (cxS CX P w K mg base N qual (defScope st) f (.ref cda) cc A outer s0 H0 E0) full rest u)
    (he : eval (.Call (.Attribute (.Call (.Name "super" p0) [] [] p1) "__init__" apos) (e :: es) [] pos) (envS qual (defScope st) s0.heap.objs.size f (.ref cda) cc) = (do
      let ov ← attributeBase (.Call (.Name "super" p0) [] [] p1) "__init__" (envS qual (defScope st) s0.heap.objs.size f (.ref cda) cc) (eval (.Call (.Name "super" p0) [] [] p1) (envS qual (defScope st) s0.heap.objs.size f (.ref cda) cc))
      standAt apos.atName
      let (g, first) ← holding [ov] (getMethod ov "__init__" pl)
      callWith pos g first (backTo pos (starEach (e :: es) (envS qual (defScope st) s0.heap.objs.size f (.ref cda) cc))) []) := by rfl)
    (hi : interactive (envS qual (defScope st) s0.heap.objs.size f (.ref cda) cc) = false := by rfl)
    (hs : swapsWith (.Call (.Attribute (.Call (.Name "super" p0) [] [] p1) "__init__" apos) (e :: es) [] pos) none ep.line (envS qual (defScope st) s0.heap.objs.size f (.ref cda) cc) = pure false := by rfl)
    (hst : starEach (e :: es) (envS qual (defScope st) s0.heap.objs.size f (.ref cda) cc) = (false, eval e (envS qual (defScope st) s0.heap.objs.size f (.ref cda) cc)) :: starEach es (envS qual (defScope st) s0.heap.objs.size f (.ref cda) cc) := by rfl)
    (hpl : (backTo pos (starEach es (envS qual (defScope st) s0.heap.objs.size f (.ref cda) cc))).any (·.1) = false := by rfl) :
    PSsF (cxS CX P w K mg base N qual (defScope st) f (.ref cda) cc A outer s0 H0 E0) full (.Expr (.Call (.Attribute (.Call (.Name "super" p0) [] [] p1) "__init__" apos) (e :: es) [] pos) ep :: rest) (tSeq (tSup C sp E ta) u) := by
  refine ⟨fun pins s σ H Dn I q => ?_⟩
  obtain ⟨a, dx, fs, hσ, ea, q⟩ := q
  have XK : K.In s.heap := I.kIn
  obtain ⟨m, hns, hm⟩ := I.loc
  obtain ⟨ua, rua, lua⟩ := hm 0 ar.arg (.ref a) hN hσ (.inl hself)
  cases (show ua = Value.ref a from rua)
  have hma : m ar.arg = some (.ref a) := by
    rcases lua with ⟨_, h⟩ | ⟨h, _⟩
    · exact h
    · rcases h with h | h
      · rw [show (cxS CX P w K mg base N qual (defScope st) f (.ref cda) cc A outer s0 H0 E0).env.kindOf ar.arg = some NameKind.local from hself] at h; cases h
      · rw [show (cxS CX P w K mg base N qual (defScope st) f (.ref cda) cc A outer s0 H0 E0).env.kindOf ar.arg = some NameKind.local from hself] at h; cases h
  obtain ⟨mA, O, _, _, _, _⟩ := ins_get I.hok ea
  obtain ⟨od2, J, _⟩ := O.look
  obtain ⟨oD, hD1, hD2⟩ : ∃ oD, s.heap.get? D = some oD ∧ oD.data = .cls cd := by
    have hD := hD
    unfold PySem.W.clsIn at hD
    split at hD
    · rename_i c d cd' sl hz
      cases hD
      exact ⟨_, XK _ _ hz, rfl⟩
    · cases hD
  refine ks_wpAt_execs_cons (ks_wpAt_Expr_any (ks_wpAt_MethodCall ?_ he) hi hs)
  refine ks_wpAt_super_base (env := envS qual (defScope st) s0.heap.objs.size f (.ref cda) cc) S.ks S.kc rfl rfl (XK _ _ hf) rfl hp rfl (XK _ _ hcode) rfl hvs hfile htop ?_
  have hld : ∀ {Q' : Value → Shared → Prop} {E' : Value → Shared → Prop}, Q' (.type "super") s → wpAny (model P w) (cxS CX P w K mg base N qual (defScope st) f (.ref cda) cc A outer s0 H0 E0).A (loadName (envS qual (defScope st) s0.heap.objs.size f (.ref cda) cc) "super") Q' E' s := fun {Q' E'} h => by
    obtain ⟨mb, b1, b2⟩ := I.mod.blt
    refine PySem.W.ks_loadName_global S.kind S.ks (Calls.loadGlobal_builtin (env := envS qual (defScope st) s0.heap.objs.size f (.ref cda) cc) (I.mod.glob.keeps I.bk) hsup (b1.keeps I.bk) ((b2 "super" (by decide)).trans ?_) h)
    first | rfl | kernel_rfl
  refine hld ⟨rfl, ?_⟩
  refine wpAny_loadName_free (env := envS qual (defScope st) s0.heap.objs.size f (.ref cda) cc) S.kind S.kc rfl ⟨_, XK _ _ hcell, rfl⟩ ?_
  refine wpAny_loadName_local S.kind hself hns hma ?_
  refine ks_wpAny_isType_cls hD1 hD2 ⟨rfl, ?_⟩
  obtain ⟨hh, g, d, t, os⟩ := s
  refine ks_wpAny_call_super hD1 hD2 J.at_ J.cls (fun c e => ?_) (PySem.W.looks_mroIn XK Cc.sub) (fun h' hso kk => ?_)
  · have := J.no
    unfold PySem.W.notCls at this
    rw [e] at this
    exact Bool.noConfusion this
  have I1 : Inv (cxS CX P w K mg base N qual (defScope st) f (.ref cda) cc A outer s0 H0 E0) pins σ H ⟨h', g, d, t, os⟩ := I.kept (t' := t) kk
  have XK1 : K.In h' := I1.kIn
  obtain ⟨of2, hof, hofc⟩ : ∃ of, h'.get? f2 = some of ∧ of.cls = .type "function" := by
    have ht' : (K.lookup f2).map (·.cls) = some (.type "function") := Cc.ty
    cases z : K.lookup f2 with
    | none => rw [z] at ht'; cases ht'
    | some of => rw [z] at ht'; exact ⟨of, XK1 _ _ z, Option.some.inj ht'⟩
  cases hc : PySem.W.clsIn K C with
  | none =>
    have := Cc.m
    unfold PySem.W.ks_superIn at this
    rw [hc] at this
    cases this
  | some cdC =>
    have hm2 := Cc.m
    unfold PySem.W.ks_superIn at hm2
    rw [hc] at hm2
    refine ks_wpAny_getMethod_super (l₀ := cdC.mro) hso (PySem.W.looks_opaque XK1 ho) ?_ rfl XK1 hm2 hof hofc (PySem.W.ks_ne XK J hc) rfl ?_
    · exact fun A' Q' E' s' k' q' => wpAny_bind ((PySem.W.looks_clsIn XK1 hc) A' _ E' s' k' (wpAny_pure q'))
    have I2 : Inv (cxS CX P w K mg base N qual (defScope st) f (.ref cda) cc A outer s0 H0 E0) pins σ H ⟨h'.push (PySem.W.methodObj (.ref f2) (.ref a)), g, d, t + 1, os⟩ := I1.kept (t' := t + 1) fun b o z => Heap.get?_push_of_some _ z
    have hq : (h'.push (PySem.W.methodObj (.ref f2) (.ref a))).get? h'.objs.size = some (PySem.W.methodObj (.ref f2) (.ref a)) := Heap.get?_push_size _ rfl
    have fin : ∀ b ∈ [h'.objs.size], FpOk (cxS CX P w K mg base N qual (defScope st) f (.ref cda) cc A outer s0 H0 E0) pins H b := fun b hb => by
      rw [List.mem_singleton.mp hb]
      exact I1.fpOk (Nat.le_refl _) (I1.hok.fresh (Nat.le_refl _))
    obtain ⟨f0, f1, f3, _⟩ := fin _ (List.mem_singleton.mpr rfl)
    have I3 : Inv (cxS CX P w K mg base N qual (defScope st) f (.ref cda) cc A outer s0 H0 E0) (pins ++ [(h'.objs.size, PySem.W.methodObj (.ref f2) (.ref a))]) σ H ⟨h'.push (PySem.W.methodObj (.ref f2) (.ref a)), g, d, t + 1, os⟩ :=
      I2.pins_of fun p hp => (List.mem_append.mp hp).elim (fun z => I2.pin p (List.mem_append_right _ z)) fun z => by
        rw [List.mem_singleton.mp z]
        exact ⟨hq, f0, f1, f3, fun v z => by cases z⟩
    show wpAny _ _ (callWith pos (.ref h'.objs.size) [] (backTo pos (starEach (e :: es) (envS qual (defScope st) s0.heap.objs.size f (.ref cda) cc))) []) _ _ _
    refine callWith_mp (K := K) (g := f2) (self := .ref a) Cc.fi ?_ hst hpl
    refine thn (ha.run pos _ _ σ H _ I3 q) fun us s3 ⟨vs, H3, I4, r, q3⟩ => ?_
    have hq3 := (I4.pin _ (List.mem_append_right _ (List.mem_append_right _ (List.mem_singleton.mpr rfl)))).1
    refine ⟨⟨hq3, I4.kIn⟩, ?_⟩
    refine thn (run_meth (x := .ref a) G hr hb hx I4.unpinned rfl r hq3 q3) fun v s4 ⟨xv, H4, I5, _, q4⟩ => ?_
    exact h2.run pins s4 σ H4 Dn I5 q4
end
end Q
namespace Q
open PySem PySem.Spec PyProof.Rows L2
structure SupRule (X : Cx) (full : List Stmt) (D : Addr) : Prop where
  go : ∀ {CX' : CXT} {k : Nat} {C f2 : Addr} {fd2 : FuncData} {ps2 : List Str} {sp : Sp} {E : XK} {rest : List Stmt} {ta : TA} {u : TS} {p0 p1 apos pos ep : Pos} {e : Expr} {es : List Expr} {pl : Sem Bool}, SupC X.K C D f2 → FnOk X.prog X.w X.K X.mg X.base CX' k f2 fd2 ps2 sp → Room k X.A → Binds X.K fd2 ps2 [] → Passes CX' X E → PA X (e :: es) ta → PSsF X full rest u →
    eval (.Call (.Attribute (.Call (.Name "super" p0) [] [] p1) "__init__" apos) (e :: es) [] pos) X.env = (do
      let ov ← attributeBase (.Call (.Name "super" p0) [] [] p1) "__init__" X.env (eval (.Call (.Name "super" p0) [] [] p1) X.env)
      standAt apos.atName
      let (g, first) ← holding [ov] (getMethod ov "__init__" pl)
      callWith pos g first (backTo pos (starEach (e :: es) X.env)) []) →
    interactive X.env = false → swapsWith (.Call (.Attribute (.Call (.Name "super" p0) [] [] p1) "__init__" apos) (e :: es) [] pos) none ep.line X.env = pure false →
    starEach (e :: es) X.env = (false, eval e X.env) :: starEach es X.env → (backTo pos (starEach es X.env)).any (·.1) = false →
    PSsF X full (.Expr (.Call (.Attribute (.Call (.Name "super" p0) [] [] p1) "__init__" apos) (e :: es) [] pos) ep :: rest) (tSeq (tSup C sp E ta) u)
theorem pss_sup {X : Cx} {full : List Stmt} {D : Addr} {CX' : CXT} {k j : Nat} {C f2 : Addr} {fd2 : FuncData} {ps2 : List Str} {sp : Sp} {E : XK} {rest : List Stmt} {ta : TA} {u : TS} {p0 p1 apos pos ep : Pos} {e : Expr} {es : List Expr} {pl : Sem Bool} (R : SupRule X full D) (c : SupC X.K C D f2)
    (G : FnOk X.prog X.w X.K X.mg X.base CX' k f2 fd2 ps2 sp) (hr : Room j X.A) (hb : Binds X.K fd2 ps2 []) (hx : Passes CX' X E) (ha : PA X (e :: es) ta) (h2 : PSsF X full rest u) (hj : k ≤ j := by decide)
    (he : eval (.Call (.Attribute (.Call (.Name "super" p0) [] [] p1) "__init__" apos) (e :: es) [] pos) X.env = (do
      let ov ← attributeBase (.Call (.Name "super" p0) [] [] p1) "__init__" X.env (eval (.Call (.Name "super" p0) [] [] p1) X.env)
      standAt apos.atName
      let (g, first) ← holding [ov] (getMethod ov "__init__" pl)
      callWith pos g first (backTo pos (starEach (e :: es) X.env)) []) := by rfl)
    (hi : interactive X.env = false := by rfl) (hs : swapsWith (.Call (.Attribute (.Call (.Name "super" p0) [] [] p1) "__init__" apos) (e :: es) [] pos) none ep.line X.env = pure false := by rfl)
    (hst : starEach (e :: es) X.env = (false, eval e X.env) :: starEach es X.env := by rfl) (hpl : (backTo pos (starEach es X.env)).any (·.1) = false := by rfl) :
    PSsF X full (.Expr (.Call (.Attribute (.Call (.Name "super" p0) [] [] p1) "__init__" apos) (e :: es) [] pos) ep :: rest) (tSeq (tSup C sp E ta) u) := R.go c G (hr.mono hj) hb hx ha h2 he hi hs hst hpl
section
variable {P : Program} {w : World} {K : PySem.W.Frag} {mg : Str → Option Value} {base : Heap} {x qual : Str} {st : Stmt} {D f : Addr} {fd : FuncData} {N ps : List Str} {k : Nat} {sp : Sp}
theorem SupD.binds (F : SupD P K x qual st D f fd)
    (h : ∀ (cc : Addr) (kV doc pm : Value) (an : Option Addr) (cdv ct : Value) (us : List Value), us.length = ps.length → bindArgs (fnS x qual (defArgs st) (defBody st) (defScope st) cc .none kV doc pm an cdv ct) ⟨us, []⟩ = pure (ps.zip us)) : Binds K fd ps [] := by
  obtain ⟨oc, od, kV, doc, pm, an, cda, ct, osl, cc, _, _, _, _, _, _, _, _, _, _, rfl, _⟩ := F.ex
  exact .all (h cc kV doc pm an (.ref cda) ct)
/-- THE RULE for such a def, errors let out -/
theorem fnS_okX (F : SupD P K x qual st D f fd) (S : FnScS N ps (defScope st)) {ar : Arg} (har : ((defArgs st).posonlyargs ++ (defArgs st).args).head? = some ar) (hN : N[0]? = some ar.arg) (hself : (defScope st).names.lookup ar.arg = some NameKind.local)
    (hsup : mg "super" = none) (htop : (P.main.scope.names.lookup ("super" : Str)).isSome = false) (len : ∀ vs H Q E, sp vs H Q E → vs.length = ps.length)
    (body : ∀ (cda cc : Addr) (A : Around) (outer : List Env) (s : Shared) (H : Hp) (vs : List V) (Q : VK) (E : XK), Room k (A.deeper (envS qual (defScope st) s.heap.objs.size f (.ref cda) cc)) →
      SupRule (cxS (L2.CX P w) P w K mg base N qual (defScope st) f (.ref cda) cc A outer s H E) (defBody st) D → sp vs H Q E →
      ∃ t, PSsF (cxS (L2.CX P w) P w K mg base N qual (defScope st) f (.ref cda) cc A outer s H E) (defBody st) (defBody st) t ∧ t { nx := fun _ H' => Q .non H', rt := Q } (L2.start N vs) H) :
    FnOk P w K mg base (L2.CX P w) (k + 1) f fd ps sp := by
  obtain ⟨oc, od, kV, doc, pm, an, cda, ct, osl, cc, ccl, ccd, vs0, ccs, file, tf, cl, cld, csl, cd, rfl, h1, h2, h3, h4, h5, h6, h7, h8⟩ := F.ex
  refine fnS_of h1 h2 h6 S len fun A outer s H vs Q E hr hsp => ?_
  exact body cda cc A outer s H vs Q E hr ⟨fun {CX' k f2 C fd2 ps2 sp E rest ta u p0 p1 apos pos ep e es pl} c G hr hb hx ha h2 he hi hs hst hpl => pssF_super S hN hself h1 har h3 h4 h5 h6 h7 h8 hsup htop c G hr hb hx ha h2 he hi hs hst hpl⟩ hsp
end
abbrev takesS {P : Program} {w : World} {K : PySem.W.Frag} {mg : Str → Option Value} {base : Heap} {N : List Str} {qual : Str} {sc : Scope} {f cc : Addr} {cdv : Value} {A : Around} {outer : List Env} {s : Shared} {H : Hp} {E : XK} :
    Takes (cxS (L2.CX P w) P w K mg base N qual sc f cdv cc A outer s H E) (fun cls d _ H' => E cls d H') := takes_of rfl rfl rfl rfl
theorem passS {P : Program} {w : World} {K : PySem.W.Frag} {mg : Str → Option Value} {base : Heap} {N : List Str} {qual : Str} {sc : Scope} {f cc : Addr} {cdv : Value} {A : Around} {outer : List Env} {s : Shared} {H : Hp} {E : XK} :
    Passes (L2.CX P w) (cxS (L2.CX P w) P w K mg base N qual sc f cdv cc A outer s H E) E := passes_call (W := fun cls d _ H' => E cls d H') (takes_of rfl rfl rfl rfl) fun _ _ _ _ h => h
inductive Sg
  | n | m (l : Int) | t
def sgOk : Sg → V → Bool
  | .n, v => nameV v
  | .m l, v => momV v l
  | .t, v => isB v
def sgErr (Cn Cm Cs : Addr) : Sg → Addr × Str
  | .n => (Cn, "name")
  | .m _ => (Cm, "moment")
  | .t => (Cs, "value")
def rowFault (Cn Cm Cs : Addr) : List Sg → List V → Option (Addr × Str × V)
  | s :: ss, v :: vs => if sgOk s v = true then rowFault Cn Cm Cs ss vs else some ((sgErr Cn Cm Cs s).1, (sgErr Cn Cm Cs s).2, v)
  | _, _ => none
def wordV : Sg → V → V
  | .m _, .int i => .str (toString i)
  | .t, .bl b => .str (if b = true then "sound" else "unsound")
  | _, v => v
def rowWords (kind : Str) (sg : List Sg) (vs : List V) : List V := List.zipWith wordV sg vs
def rowNamed : List Sg → List V → List V
  | .n :: ss, v :: vs => v :: rowNamed ss vs
  | _ :: ss, _ :: vs => rowNamed ss vs
  | _, _ => []
def rowTold : List Sg → List V → List V
  | .m _ :: ss, v :: vs => v :: rowTold ss vs
  | _ :: ss, _ :: vs => rowTold ss vs
  | _, _ => []
def rowFs (kind : Str) (aw an am : Addr) (fl : List Str) (vs : List V) : List (Str × V) := ([("kind", .str kind), ("words", .ref aw), ("named", .ref an), ("told_at", .ref am)] : List (Str × V)) ++ fl.zip vs
structure RwC (K : PySem.W.Frag) (C : Addr) (fl : List Str) : Prop where
  c : Cls K C
  k : NoAttr K C "kind"
  w : NoAttr K C "words"
  n : NoAttr K C "named"
  t : NoAttr K C "told_at"
  own : ∀ f ∈ fl, NoAttr K C f
def RowAt (C : Addr) (G : Hp) (a : Addr) (kind : Str) (sg : List Sg) (fl : List Str) (vs : List V) : Prop := ∃ dx aw an am, G a = some (.ins C dx (rowFs kind aw an am fl vs)) ∧ G aw = some (.tup (rowWords kind sg vs)) ∧ G an = some (.tup (rowNamed sg vs)) ∧ G am = some (.tup (rowTold sg vs))
theorem RowAt.same {C a : Addr} {G G' : Hp} {kind : Str} {sg : List Sg} {fl : List Str} {vs : List V} (h : RowAt C G a kind sg fl vs) (s : Same G G') : RowAt C G' a kind sg fl vs := by
  obtain ⟨dx, aw, an, am, h1, h2, h3, h4⟩ := h
  exact ⟨dx, aw, an, am, s _ _ h1, s _ _ h2, s _ _ h3, s _ _ h4⟩
/-- Row's own __init__ -/
def spRow (C : Addr) : Sp := fun vs H Q _ => ∃ (G : Hp) (x dx : Addr) (k w n m : V), vs = [.ref x, k, w, n, m] ∧ Gh G H ∧ G x = none ∧ H x = some (.ins C dx []) ∧ ∀ H', But x H H' → Gh G H' → H' x = some (.ins C dx [("kind", k), ("words", w), ("named", n), ("told_at", m)]) → Q .non H'
/-- a row's __init__: pre is handed ahead of the arguments -/
def spRowI (K : PySem.W.Frag) (C Cn Cm Cs : Addr) (kind : Str) (pre : List V) (sg : List Sg) (fl : List Str) : Sp := fun vs H Q E => ∃ (G : Hp) (x dx : Addr) (as : List V), vs = .ref x :: (pre ++ as) ∧ as.length = sg.length ∧ Gh G H ∧ G x = none ∧ H x = some (.ins C dx []) ∧ (∀ v ∈ as, ∃ t, Kd K G v t) ∧ (∀ s, V.str s ∈ as → s.length ≤ 1000000) ∧
  (∀ cls f v, rowFault Cn Cm Cs sg as = some (cls, f, v) → ∀ (G' H' : Hp) (d : Addr), But x H H' → (∃ o, H' x = some o ∧ plainB o = true) → Gh G' H' → Same G G' → (∀ b, H b ≠ none → G' b = G b) → G' d = some (.xd [(f, v)]) → E (.ref cls) (some d) H') ∧
  (rowFault Cn Cm Cs sg as = none → ∀ (G' H' : Hp) (aw an am : Addr), But x H H' → Gh G' H' → Same G G' → (∀ b, H b ≠ none → G' b = G b) → G' aw = some (.tup (rowWords kind sg as)) → G' an = some (.tup (rowNamed sg as)) → G' am = some (.tup (rowTold sg as)) →
    H' x = some (.ins C dx (rowFs kind aw an am fl as)) → Q .non H')
theorem u_rowI {K : PySem.W.Frag} {C Cn Cm Cs : Addr} {kind : Str} {sg : List Sg} {fl : List Str} {as : List V} {e : En} {G H : Hp} {M : List Addr} {Qv : VK} {E : XK} (w : Wd e G H M) (hl : as.length = sg.length) (kd : ∀ v ∈ as, ∃ t, Kd K G v t) (sz : ∀ s, V.str s ∈ as → s.length ≤ 1000000)
    (bad : ∀ cls f v, rowFault Cn Cm Cs sg as = some (cls, f, v) → ∀ d G' H', Wd e G' H' M → Same G G' → Same H H' → G' d = some (.xd [(f, v)]) → E (.ref cls) (some d) H')
    (good : rowFault Cn Cm Cs sg as = none → ∀ a G' H', Wd e G' H' M → Same G G' → Same H H' → RowAt C G' a kind sg fl as → Qv (.ref a) H') : MakeGo C (spRowI K C Cn Cm Cs kind [] sg fl) as E H Qv := by
  refine make_go w fun a dx G1 H1 hx nm s1 t1 w1 h1 n0 => ?_
  have keeps : ∀ {H2 : Hp}, But a H1 H2 → Same H H2 := fun {H2} b2 c o h => by
    refine b2 c o (fun q => ?_) (t1 _ _ h)
    subst q
    rw [hx] at h
    cases h
  refine ⟨G1, a, dx, as, rfl, hl, w1.gh, (w1.mu a List.mem_cons_self).1, h1, fun v hv => (kd v hv).elim fun t k => ⟨t, k.same s1⟩, sz, fun cls f v hf G2 H2 dd b2 hh s2 s3 fr hdd => ?_, fun hf G2 H2 aw an am b2 s2 s3 fr g1 g2 g3 h2 => ⟨rfl, ?_⟩⟩
  · obtain ⟨o, h2, no⟩ := hh
    have w2 := wd_made w1 b2 h2 no s2 s3 fr
    exact bad cls f v hf dd G2 H2 (wd_drop w2 (List.sublist_cons_self _ _)) (s1.trans s3) (keeps b2) hdd
  · have w2 := wd_made w1 b2 h2 rfl s2 s3 fr
    obtain ⟨w4, s4⟩ := wd_freeze w2 h2 n0
    exact good hf a _ H2 w4 (s1.trans (s3.trans s4)) (keeps b2) ⟨dx, aw, an, am, upd_same, s4 _ _ g1, s4 _ _ g2, s4 _ _ g3⟩
/-- need_name, need_moment -/
def spNeedN (K : PySem.W.Frag) (Cn : Addr) : Sp := fun vs H Q E => ∃ (G : Hp) (x : V) (t : Value), vs = [x] ∧ Gh G H ∧ Kd K G x t ∧ (∀ s, x = .str s → s.length ≤ 1000000) ∧ (nameV x = true → Ret G H (fun v _ => v = .non) Q) ∧ (nameV x = false → RetX G H Cn "name" x E)
def spNeedM (K : PySem.W.Frag) (Cm : Addr) : Sp := fun vs H Q E => ∃ (G : Hp) (x : V) (t : Value) (l : Int), vs = [x, .int l] ∧ Gh G H ∧ Kd K G x t ∧ (momV x l = true → Ret G H (fun v _ => v = .non) Q) ∧ (momV x l = false → RetX G H Cm "moment" x E)
section
variable {K : PySem.W.Frag} {Cn Cm : Addr} {e : En} {G H : Hp} {M : List Addr} {x : V} {t : Value} {l : Int} {Q : VK} {E : XK}
theorem u_needN (w : Wd e G H M) (hx : Kd K G x t) (sz : ∀ s, x = .str s → s.length ≤ 1000000) (good : nameV x = true → ∀ G' H', Wd e G' H' M → Same G G' → Same H H' → Q .non H') (bad : nameV x = false → ∀ d G' H', Wd e G' H' M → Same G G' → Same H H' → G' d = some (.xd [("name", x)]) → E (.ref Cn) (some d) H') : spNeedN K Cn [x] H Q E :=
  ⟨G, x, t, rfl, w.gh, hx, sz, fun h => ret_use w fun v G' H' w' s1 s2 e1 => by subst e1; exact good h G' H' w' s1 s2, fun h => retX_use w (bad h)⟩
theorem u_needM (w : Wd e G H M) (hx : Kd K G x t) (good : momV x l = true → ∀ G' H', Wd e G' H' M → Same G G' → Same H H' → Q .non H') (bad : momV x l = false → ∀ d G' H', Wd e G' H' M → Same G G' → Same H H' → G' d = some (.xd [("moment", x)]) → E (.ref Cm) (some d) H') : spNeedM K Cm [x, .int l] H Q E :=
  ⟨G, x, t, l, rfl, w.gh, hx, fun h => ret_use w fun v G' H' w' s1 s2 e1 => by subst e1; exact good h G' H' w' s1 s2, fun h => retX_use w (bad h)⟩
theorem u_rowB {C x' dx : Addr} {k w' n m : V} (w : Wd e G H M) (hm : x' ∈ M) (hx : H x' = some (.ins C dx [])) (q : ∀ H', Wd e G H' M → But x' H H' → H' x' = some (.ins C dx [("kind", k), ("words", w'), ("named", n), ("told_at", m)]) → Q .non H') : spRow C [.ref x', k, w', n, m] H Q E :=
  ⟨G, x', dx, k, w', n, m, rfl, w.gh, (w.mu x' hm).1, hx, fun H' b _ h' => q H' (wd_but w hm b h') b h'⟩
end
theorem r_sup {C : Addr} {sp : Sp} {E : XK} {ta : TA} {D : Ends} {σ : L2.St} {H : Hp} {a dx : Addr} {fs : List (Str × V)} (h0 : σ[0]? = some (some (.ref a))) (h : H a = some (.ins C dx fs)) (q : ta σ H fun vs H1 => sp (.ref a :: vs) H1 (fun _ H2 => D.nx σ H2) E) : tSup C sp E ta D σ H := ⟨a, dx, fs, h0, h, q⟩
end Q
namespace Q
open PySem PySem.Spec PyProof.Rows L2
def kindsS : List Str := ["begun", "setby", "found", "trusted", "passed", "failed", "agreed", "differed", "served", "backed"]
def kindN (i : Nat) : Str := kindsS.getD i ""
def sgsT : List (List Sg) := [[.n, .m 1], [.n, .m 1, .n], [.n, .m 0, .t], [.n], [.n, .m 0, .n], [.n, .m 0, .n], [.n, .m 0, .n, .m 0], [.n, .m 0, .n, .m 0], [.n, .m 0, .n, .m 0], [.n, .m 0, .n, .m 0]]
def sgN (i : Nat) : List Sg := sgsT.getD i []
def flsT : List (List Str) := [["tool", "moment"], ["tool", "moment", "by"], ["tool", "moment", "is_sound"], ["tool"], ["tool", "moment", "by"], ["tool", "moment", "by"], ["one", "moment", "other", "later"], ["one", "moment", "other", "later"], ["one", "moment", "other", "later"], ["one", "moment", "other", "later"]]
def flN (i : Nat) : List Str := flsT.getD i []
def clsS : List Str := ["Begun", "SetBy", "Found", "Trusted", "Passed", "Failed", "Agreed", "Differed", "Served", "Backed"]
def clsR (K : PySem.W.Frag) (i : Nat) : Addr := He.ga K (clsS.getD i "")
def SgAll (sg : List Sg) (as : List V) : Prop := as.length = sg.length ∧ ∀ p ∈ sg.zip as, sgOk p.1 p.2 = true
theorem SgAll.sound {Cn Cm Cs : Addr} : ∀ {sg : List Sg} {as : List V}, SgAll sg as → rowFault Cn Cm Cs sg as = none
  | [], _, _ => rfl
  | s :: ss, [], _ => rfl
  | s :: ss, v :: vs, ⟨h1, h2⟩ => by
    have a := h2 (s, v) (by simp)
    unfold rowFault
    rw [if_pos a]
    exact SgAll.sound ⟨by simpa using h1, fun p hp => h2 p (by simp [hp])⟩
def spKinds : Sp := fun vs H Q _ => ∃ G : Hp, vs = [] ∧ Gh G H ∧ Ret G H (fun v G' => ∃ l, v = .ref l ∧ G' l = some (.lst (kindsS.map V.str))) Q
def sgWord : Sg → Str
  | .n => "name"
  | .m _ => "moment"
  | .t => "saying"
/-- the first fault -/
def rowBad : List Sg → List V → Option (Sg × V)
  | s :: ss, v :: vs => if sgOk s v = true then rowBad ss vs else some (s, v)
  | _, _ => none
theorem fault_bad {Cn Cm Cs : Addr} : ∀ (sg : List Sg) (as : List V), rowFault Cn Cm Cs sg as = (rowBad sg as).map fun p => ((sgErr Cn Cm Cs p.1).1, (sgErr Cn Cm Cs p.1).2, p.2)
  | [], _ => rfl
  | s :: ss, [] => rfl
  | s :: ss, v :: vs => by
    unfold rowFault rowBad
    split
    · exact fault_bad ss vs
    · rfl
/-- what is due of a bent row -/
def DueB (G : Hp) (o : Option (Sg × V)) (u : V) : Prop := match o with
  | none => u = .non
  | some (s, v) => ∃ l, u = .ref l ∧ G l = some (.tup [.str (sgWord s), v])
theorem DueB.same {G G' : Hp} {o : Option (Sg × V)} {u : V} (h : DueB G o u) (s : Same G G') : DueB G' o u := by
  cases o with
  | none => exact h
  | some p =>
    obtain ⟨l, e, h⟩ := h
    exact ⟨l, e, s _ _ h⟩
/-- the row that a sequence tells is made -/
def spMade (K : PySem.W.Frag) (CL : Nat → Addr) (Cn Cm Cs : Addr) : Sp := fun vs H Q E => ∃ (G : Hp) (r : Addr) (i : Nat) (as : List V), vs = [.ref r] ∧ i < 10 ∧ Gh G H ∧ SqA K G r (.str (kindN i) :: as) ∧ as.length = (sgN i).length ∧ (∀ v ∈ as, ∃ t, Kd K G v t) ∧ (∀ s, V.str s ∈ as → s.length ≤ 1000000) ∧
  (∀ s v, rowBad (sgN i) as = some (s, v) → RetX G H (sgErr Cn Cm Cs s).1 (sgErr Cn Cm Cs s).2 v E) ∧
  (rowBad (sgN i) as = none → Ret G H (fun v G' => ∃ a, v = .ref a ∧ RowAt (CL i) G' a (kindN i) (sgN i) (flN i) as) Q)
section
variable {K : PySem.W.Frag} {e : En} {G H : Hp} {M : List Addr} {p c : Addr} {n i : Nat} {Q : VK} {E : XK}
theorem u_kinds (w : Wd e G H M) (k : ∀ l G' H', Wd e G' H' M → Same G G' → Same H H' → G' l = some (.lst (kindsS.map V.str)) → Q (.ref l) H') : spKinds [] H Q E :=
  ⟨G, rfl, w.gh, ret_use w fun v G' H' w' s1 s2 ⟨l, e1, h⟩ => by subst e1; exact k l G' H' w' s1 s2 h⟩
theorem u_made {CL : Nat → Addr} {Cn Cm Cs r : Addr} {as : List V} (w : Wd e G H M) (hi : i < 10) (hs : SqA K G r (.str (kindN i) :: as)) (hl : as.length = (sgN i).length) (kd : ∀ v ∈ as, ∃ t, Kd K G v t) (sz : ∀ s, V.str s ∈ as → s.length ≤ 1000000)
    (bad : ∀ s v, rowBad (sgN i) as = some (s, v) → ∀ d G' H', Wd e G' H' M → Same G G' → Same H H' → G' d = some (.xd [((sgErr Cn Cm Cs s).2, v)]) → E (.ref (sgErr Cn Cm Cs s).1) (some d) H')
    (good : rowBad (sgN i) as = none → ∀ a G' H', Wd e G' H' M → Same G G' → Same H H' → RowAt (CL i) G' a (kindN i) (sgN i) (flN i) as → Q (.ref a) H') : spMade K CL Cn Cm Cs [.ref r] H Q E :=
  ⟨G, r, i, as, rfl, hi, w.gh, hs, hl, kd, sz, fun s v h => retX_use w (bad s v h), fun h => ret_use w fun v G' H' w' s1 s2 ⟨a, e1, h1⟩ => by subst e1; exact good h a G' H' w' s1 s2 h1⟩
def DispK (p : Addr) (Qv : VK) : List (V × V) → Hp → Prop := fun ps H2 => H2 p = some (.dK []) ∧ ∃ kvs : List (Key × V), ps = kvs.map (fun kv => (kV kv.1, kv.2)) ∧ kvs.length ≤ 15 ∧ Qv (.ref p) (upd H2 p (.dK (mergeK [] kvs)))
theorem r_dispM {trs : List (TE × TE)} {σ : L2.St} (w : Wd e G H M) (q : ∀ p H', Wd e G H' (p :: M) → Same H H' → H' p = some (.dK []) → e.H0 p = none → (∀ m ∈ M, p ≠ m) → tPairs trs σ H' (DispK p Q)) : tDisp trs σ H Q := fun p hp => by
  have h0 : e.H0 p = none := w.n0 hp
  exact q p _ (wd_layM w hp) (same_upd hp) upd_same h0 fun m hm => w.nm hp hm
theorem r_dispK {M : List Addr} {G H : Hp} (kvs : List (Key × V)) (w : Wd e G H (p :: M)) (h0 : e.H0 p = none) (h : H p = some (.dK [])) (hl : kvs.length ≤ 15) (q : ∀ G' H', Wd e G' H' M → Same G G' → But p H H' → G' p = some (.dK (mergeK [] kvs)) → Q (.ref p) H') : DispK p Q (kvs.map fun kv => (kV kv.1, kv.2)) H := by
  refine ⟨h, kvs, rfl, hl, ?_⟩
  have w1 : Wd e G (upd H p (.dK (mergeK [] kvs))) (p :: M) := wd_mut w List.mem_cons_self
  obtain ⟨w2, s2⟩ := wd_freeze w1 upd_same h0
  exact q _ _ w2 s2 but_upd upd_same
theorem pairs_cons {tk tv : TE} {r : List (TE × TE)} {σ : L2.St} {R : List (V × V) → Hp → Prop} (q : tk σ H fun x H1 => tv σ H1 fun y H2 => tPairs r σ H2 fun ps H3 => R ((x, y) :: ps) H3) : tPairs ((tk, tv) :: r) σ H R := q
theorem pairs_nil {σ : L2.St} {R : List (V × V) → Hp → Prop} (q : R [] H) : tPairs [] σ H R := q
theorem name_text {v : V} (h : nameV v = true) : ∃ z, v = .str z := by
  cases v with
  | str z => exact ⟨z, rfl⟩
  | _ => cases h
theorem mom_num {v : V} {l : Int} (h : momV v l = true) : ∃ i, v = .int i ∧ l ≤ i ∧ i ≤ 1000000000000000000000000000000 := by
  cases v with
  | int i =>
    have h : (decide (l ≤ i) && decide (i ≤ 1000000000000000000000000000000)) = true := h
    rw [Bool.and_eq_true, decide_eq_true_iff, decide_eq_true_iff] at h
    exact ⟨i, rfl, h.1, h.2⟩
  | _ => cases h
theorem bool_is {v : V} (h : isB v = true) : ∃ b, v = .bl b := by
  cases v with
  | bl b => exact ⟨b, rfl⟩
  | _ => cases h
theorem len_1 {as : List V} (h : as.length = 1) : ∃ a, as = [a] := by
  match as, h with
  | [a], _ => exact ⟨a, rfl⟩
theorem len_2 {as : List V} (h : as.length = 2) : ∃ a b, as = [a, b] := by
  match as, h with
  | [a, b], _ => exact ⟨a, b, rfl⟩
theorem len_3 {as : List V} (h : as.length = 3) : ∃ a b c, as = [a, b, c] := by
  match as, h with
  | [a, b, c], _ => exact ⟨a, b, c, rfl⟩
theorem len_4 {as : List V} (h : as.length = 4) : ∃ a b c d, as = [a, b, c, d] := by
  match as, h with
  | [a, b, c, d], _ => exact ⟨a, b, c, d, rfl⟩
theorem r_ixA {a : Addr} {xs : List V} {k : Int} {v : V} (h : SqA K H a xs) (e : atI xs k = some v) (q : Q v H) : rIx K (.ref a) (.int k) H Q := h.elim (fun h => r_ixL h e q) (fun h => r_ixT h e q)
theorem pe_fldK {X : Cx} {K : PySem.W.Frag} {e : Expr} {ta : TE} {f : Str} {pos : Pos} (hK : X.K = K) (he : PE X e ta) (hb : attributeBase e f X.env (eval e X.env) = eval e X.env) : PE X (.Attribute e f pos) (tFld K ta f) := by
  subst hK
  exact pe_fld he hb
end
end Q
namespace Q
open PySem PySem.Spec PyProof.Rows L2
abbrev FnW3 : Type := Option (Str × Str × Arguments × FuncBody × Scope × Addr × List Str × Addr)
def fnC (K : PySem.W.Frag) (a : Addr) : FnW3 := match K.lookup a with
  | some ⟨_, _, .func fd, _⟩ => some (fd.name, fd.qualname, fd.params, fd.body, fd.scope, fd.globals, fd.closure.map (·.1), fd.builtins)
  | _ => none
structure DefS where
  at_ : PySem.W.Frag → Addr
  own : PySem.W.Frag → Addr
  name : Str
  qual : Str
  st : Stmt
def DefS.val (d : DefS) : FnW3 := some (d.name, d.qual, defArgs d.st, FuncBody.stmts (defBody d.st), defScope d.st, mainGlobals, [("__class__" : Str)], builtinsNs)
def cellB (K : PySem.W.Frag) (cc D : Addr) : Bool := match K.lookup cc with
  | some ⟨_, _, .cell (some (.ref a)), _⟩ => decide (a = D)
  | _ => false
def cloB (K : PySem.W.Frag) (cl : List (Str × Addr)) (D : Addr) : Bool := match cl with
  | [(_, cc)] => cellB K cc D
  | _ => false
theorem cloB_ok {K : PySem.W.Frag} {cl : List (Str × Addr)} {D : Addr} (h : cloB K cl D = true) : ∃ a cc, cl = [(a, cc)] ∧ cellB K cc D = true := by
  unfold cloB at h
  split at h
  · exact ⟨_, _, rfl, h⟩
  · cases h
def fileB (K : PySem.W.Frag) (file : Str) (cd : Value) : Bool := match cd with
  | .ref c => (match K.lookup c with
    | some ⟨_, _, .fields vs, _⟩ => (match (vs[2]? : Option Value) with
      | some (.str z _) => file == z
      | _ => false)
    | _ => false)
  | _ => false
def noneB : Value → Bool
  | .none => true
  | _ => false
def DefS.ok (file : Str) (K : PySem.W.Frag) (d : DefS) : Bool := PySem.W.keepIn K (.ref (d.at_ K)) && ((match K.lookup (d.at_ K) with
  | some ⟨_, _, .func fd, _⟩ => PySem.W.codeIn K fd.code d.qual && (fileB K file fd.code && (noneB fd.defaults && cloB K fd.closure (d.own K)))
  | _ => false) && (PySem.W.isClsIn K (d.own K) && (match PySem.W.nsIn K cStatics "thirdparty.any" with
    | some none => true
    | _ => false)))
theorem cellB_ok {K : PySem.W.Frag} {cc D : Addr} (h : cellB K cc D = true) : ∃ cl cld csl, K.lookup cc = some ⟨cl, cld, .cell (some (.ref D)), csl⟩ := by
  unfold cellB at h
  split at h
  · rename_i a b c d e
    rw [of_decide_eq_true h] at e
    exact ⟨_, _, _, e⟩
  · cases h
theorem fileB_ok {K : PySem.W.Frag} {file : Str} {cd : Value} (h : fileB K file cd = true) : ∃ cda ccl ccd vs ccs z tf, cd = .ref cda ∧ K.lookup cda = some ⟨ccl, ccd, .fields vs, ccs⟩ ∧ vs[2]? = some (.str z tf) ∧ (file == z) = true := by
  unfold fileB at h
  split at h
  · split at h
    · rename_i e
      split at h
      · rename_i e2
        exact ⟨_, _, _, _, _, _, _, rfl, e, e2, h⟩
      · cases h
    · cases h
  · cases h
theorem DefS.sup {P : Program} {K : PySem.W.Frag} {d : DefS} {file : Str} (hf : (P.main.file : Str) = file) (e : fnC K (d.at_ K) = d.val) (c : d.ok file K = true) : ∃ fd, SupD P K d.name d.qual d.st (d.own K) (d.at_ K) fd := by
  obtain ⟨kp, c⟩ := He.ba c
  obtain ⟨c1, c2⟩ := He.ba c
  obtain ⟨c2, c3⟩ := He.ba c2
  have hns : PySem.W.nsIn K cStatics "thirdparty.any" = some none := by
    split at c3
    · assumption
    · cases c3
  obtain ⟨cd, hcd⟩ : ∃ cd, PySem.W.clsIn K (d.own K) = some cd := Option.isSome_iff_exists.mp c2
  unfold fnC at e
  cases q : K.lookup (d.at_ K) with
  | none =>
    rw [q] at c1
    cases c1
  | some o =>
    obtain ⟨oc, od, dt, osl⟩ := o
    rw [q] at c1 e
    cases dt with
    | func fd =>
      obtain ⟨n1, n2, n3, n4, n5, n6, n7, n8, n9, n10, n11, n12, n13, n14, n15⟩ := fd
      have e2 : (some (n1, n2, n3, n4, n5, n6, n7.map (·.1), n15) : FnW3) = some (d.name, d.qual, defArgs d.st, FuncBody.stmts (defBody d.st), defScope d.st, mainGlobals, [("__class__" : Str)], builtinsNs) := e
      simp only [Option.some.injEq, Prod.mk.injEq] at e2
      obtain ⟨h1, h2, h3, h4, h5, h6, h7, h8⟩ := e2
      subst h1 h2 h3 h4 h5 h6 h8
      have c4 : (PySem.W.codeIn K n13 d.qual && (fileB K file n13 && (noneB n8 && cloB K n7 (d.own K)))) = true := c1
      obtain ⟨k1, c4⟩ := He.ba c4
      obtain ⟨k2, c5⟩ := He.ba c4
      obtain ⟨k3, c6⟩ := He.ba c5
      obtain ⟨cda, ccl, ccd, vs, ccs, z, tf, rfl, g1, g2, g3⟩ := fileB_ok k2
      have k3 : n8 = .none := by cases n8 <;> first | rfl | cases k3
      subst k3
      obtain ⟨a, cc, rfl, c7⟩ := cloB_ok c6
      have ea : a = "__class__" := by simpa using h7
      subst ea
      obtain ⟨cl, cld, csl, g4⟩ := cellB_ok c7
      exact ⟨_, ⟨oc, od, n9, n10, n11, n12, cda, n14, osl, cc, ccl, ccd, vs, ccs, z, tf, cl, cld, csl, cd, rfl, q, k1, g1, g2, by rw [hf]; exact g3, g4, hcd, hns⟩, kp⟩
    | _ => cases c1
def supB (K : PySem.W.Frag) (C D f2 : Addr) : Bool := decide (PySem.W.mroIn K C (.ref D) = some true) && (PySem.W.ks_superIn K C D "__init__" == some (some (.ref f2)) && (PySem.W.typeIn K (.ref f2) == some (.type "function") && PySem.W.fnIn K f2))
theorem supB_ok {K : PySem.W.Frag} {C D f2 : Addr} (h : supB K C D f2 = true) : SupC K C D f2 := by
  obtain ⟨h1, h⟩ := He.ba h
  obtain ⟨h2, h⟩ := He.ba h
  obtain ⟨h3, h4⟩ := He.ba h
  exact ⟨of_decide_eq_true h1, beq_iff_eq.mp h2, beq_iff_eq.mp h3, h4⟩
abbrev AlD3 : Type := AlD2 × List FnW3
def obsS (ns : List Str) (n : Nat) (fa : List He.Fa) (fn : List He5.DefA) (tf : List (PySem.W.Frag → Addr)) (ex : PySem.W.Frag → Bool) (ts : List He.Tab) (ds : List DefS) (g : Addr → Option Obj) : AlD3 :=
  (obsV ns n fa fn tf ex ts g, ds.map fun d => fnC (He.frT g (asW g ns n)) (d.at_ (He.frT g (asW g ns n))))
def hookS (ns : List Str) (n : Nat) (fa : List He.Fa) (fn : List He5.DefA) (tf : List (PySem.W.Frag → Addr)) (ex : PySem.W.Frag → Bool) (ts : List He.Tab) (ds : List DefS) : PySem.W.Hook where
  α := AlD3
  obs := fun s => obsS ns n fa fn tf ex ts ds s.heap.get?
  val := fun w => (((He5.valA fn, true), ts.map fun t => some (He.keysIn w.params t.2)), ds.map DefS.val)
  says := fun w h => ∃ K : PySem.W.Frag, K.In h ∧ SaysD2 fa fn tf ex ts w h K ∧ ∀ d ∈ ds, fnC K (d.at_ K) = d.val
  of := fun w s e => by
    have e0 : obsV ns n fa fn tf ex ts s.heap.get? = ((He5.valA fn, true), ts.map fun t => some (He.keysIn w.params t.2)) := congrArg (fun z : AlD3 => z.1) e
    have e3 : (ds.map fun d => fnC (He.frT s.heap.get? (asW s.heap.get? ns n)) (d.at_ (He.frT s.heap.get? (asW s.heap.get? ns n)))) = ds.map DefS.val := congrArg (fun z : AlD3 => z.2) e
    have e1 : obsW (asW s.heap.get? ns n) fa fn tf ex s.heap.get? = (He5.valA fn, true) := congrArg (fun z : AlD2 => z.1) e0
    have e2 : (ts.map fun t => He.dicW (He.frT s.heap.get? (asW s.heap.get? ns n)) (t.1 (He.frT s.heap.get? (asW s.heap.get? ns n)))) = ts.map fun t => some (He.keysIn w.params t.2) := congrArg (fun z : AlD2 => z.2) e0
    exact ⟨_, He.frT_in, ⟨saysW_of e1, fun t ht => List.map_inj_left.mp e2 t ht⟩, fun d hd => List.map_inj_left.mp e3 d hd⟩
  keeps := fun _ _ _ ⟨K, hK, ⟨c, d⟩, z⟩ k => ⟨K, PySem.W.Frag.In.keeps hK k, ⟨⟨c.t, c.more, c.hd, c.out, fun p hp => k _ _ (c.empty p hp)⟩, d⟩, z⟩
theorem obsS_eq {ns : List Str} {n : Nat} {fa : List He.Fa} {fn : List He5.DefA} {tf : List (PySem.W.Frag → Addr)} {ex : PySem.W.Frag → Bool} {ts : List He.Tab} {ds : List DefS} {g : Addr → Option Obj} {s : Shared} (h : ∀ a, g a = s.heap.get? a) : obsS ns n fa fn tf ex ts ds g = (hookS ns n fa fn tf ex ts ds).obs s := by
  obtain rfl : g = s.heap.get? := funext h
  rfl
end Q
namespace Q
open PySem PySem.Spec PyProof.Rows L2
end Q
namespace Q
open PySem PySem.Spec PyProof.Rows L2
def truthW (b : Bool) : Str := if b = true then "sound" else "unsound"
def wordS : Sg → V → Str
  | .n, .str z => z
  | .m _, .int i => toString i
  | .t, .bl b => truthW b
  | _, _ => ""
def rowTxts (i : Nat) (as : List V) : List Str := kindN i :: List.zipWith wordS (sgN i) as
def RowOf (K : PySem.W.Frag) (CL : Nat → Addr) (G : Hp) (a : Addr) (i : Nat) (as : List V) : Prop := i < 10 ∧ SgAll (sgN i) as ∧ RowAt (CL i) G a (kindN i) (sgN i) (flN i) as
theorem RowOf.same {K : PySem.W.Frag} {CL : Nat → Addr} {G G' : Hp} {a : Addr} {i : Nat} {as : List V} (h : RowOf K CL G a i as) (s : Same G G') : RowOf K CL G' a i as := ⟨h.1, h.2.1, h.2.2.same s⟩
theorem kind_len : ∀ i, i < 10 → (kindN i).length ≤ 10 ∧ (sgN i).length ≤ 4 := by decide +kernel
end Q
namespace Q
open PySem PySem.Spec PyProof.Rows L2
end Q
namespace Q
open PySem PySem.Spec PyProof.Rows L2
def tysB : List String := ["NoneType", "int", "bool", "str", "list", "tuple", "dict"]
structure RwE (K : PySem.W.Frag) (CL : Nat → Addr) (Cw fe : Addr) : Prop where
  cn : PySem.W.specialIn K (.builtin "object.__class__") "__get__" = some (some (.builtin "getset_descriptor.__get__"))
  ct : PySem.W.takesIn K (.builtin "object.__class__") = some true
  bas : ∀ n ∈ tysB, PySem.W.kitOne K (.type n) (.ref Cw) = some false
  fn : PySem.W.isFn K (.ref fe) = true
  ca : ∀ i, i < 10 → PySem.W.findIn K (.ref (CL i)) "__class__" = some (some (.builtin "object.__class__"))
  cm : ∀ i, i < 10 → PySem.W.mroIn K (CL i) (.type "object") = some true
  me : ∀ i, i < 10 → PySem.W.kitOne K (.ref (CL i)) (.ref Cw) = some true
  nf : ∀ i, i < 10 → ∀ j, j < 10 → PySem.W.notFirst K (CL i) (.ref (CL j)) = true
  nb : ∀ i, i < 10 → ∀ n ∈ tysB, PySem.W.notFirst K (CL i) (.type n) = true
  eq : ∀ i, i < 10 → PySem.W.findIn K (.ref (CL i)) "__eq__" = some (some (.ref fe))
  ne : ∀ i, i < 10 → PySem.W.findIn K (.ref (CL i)) "__ne__" = some (some (.builtin "object.__ne__"))
/-- what == of a row with y answers -/
def RowTo (K : PySem.W.Frag) (CL : Nat → Addr) (Cw : Addr) (G : Hp) (i : Nat) (as : List V) (y : V) (r : Bool) : Prop :=
  (∃ t, TyX K G y t ∧ PySem.W.kitOne K t (.ref Cw) = some false ∧ r = false) ∨ ∃ (c : Addr) (j : Nat) (bs : List V), y = .ref c ∧ RowOf K CL G c j bs ∧ r = decide (rowTxts i as = rowTxts j bs)
section
variable {K : PySem.W.Frag} {CL : Nat → Addr} {Cw fe : Addr} {G G' H : Hp} {M : List Addr} {e : En} {a : Addr} {i j : Nat} {as bs : List V} {y : V} {r : Bool} {Q : VK} {E : XK}
theorem RowTo.same (h : RowTo K CL Cw G i as y r) (s : Same G G') : RowTo K CL Cw G' i as y r := by
  rcases h with ⟨t, h1, h2, h3⟩ | ⟨c, j, bs, h1, h2, h3⟩
  · exact .inl ⟨t, same_ty s h1, h2, h3⟩
  · exact .inr ⟨c, j, bs, h1, h2.same s, h3⟩
theorem RowTo.row {c : Addr} (h : RowOf K CL G c j bs) : RowTo K CL Cw G i as (.ref c) (decide (rowTxts i as = rowTxts j bs)) := .inr ⟨c, j, bs, rfl, h, rfl⟩
theorem RowOf.ty (S : RwE K CL Cw fe) (RC : ∀ i, i < 10 → RwC K (CL i) (flN i)) (h : RowOf K CL G a i as) : TyX K G (.ref a) (.ref (CL i)) := by
  obtain ⟨hi, _, dx, aw, an, am, h1, _⟩ := h
  exact .base (.ins h1 (RC i hi).c (S.ca i hi) S.cn S.ct (S.cm i hi))
theorem RowOf.ins (h : RowOf K CL G a i as) : ∃ dx fs, G a = some (.ins (CL i) dx fs) := by
  obtain ⟨hi, _, dx, aw, an, am, h1, _⟩ := h
  exact ⟨_, _, h1⟩
end
end Q
namespace Q
open PySem PySem.Spec PyProof.Rows L2
def EntTo (K : PySem.W.Frag) (C : Addr) (G : Hp) (t : Str) (i : Int) (b : Str) (y : V) (r : Bool) : Prop := (∃ u, TyX K G y u ∧ PySem.W.kitOne K u (.ref C) = some false ∧ r = false) ∨
  ∃ (c : Addr) (t' : Str) (i' : Int) (b' : Str), y = .ref c ∧ EntAt C G c t' i' b' ∧ r = PyData.eqv (faceE t i b) (faceE t' i' b')
section
variable {K : PySem.W.Frag} {C Ce : Addr} {CL : Nat → Addr} {G G' H : Hp} {M : List Addr} {e : En} {a c : Addr} {i i' : Int} {j : Nat} {t b t' b' : Str} {x y : V} {tx : Value} {r : Bool} {Q : VK} {E : XK}
theorem EntTo.same (h : EntTo K C G t i b y r) (s : Same G G') : EntTo K C G' t i b y r := by
  rcases h with ⟨u, h1, h2, h3⟩ | ⟨c, t', i', b', h1, h2, h3⟩
  · exact .inl ⟨u, same_ty s h1, h2, h3⟩
  · exact .inr ⟨c, t', i', b', h1, h2.same s, h3⟩
end
end Q
namespace Q
open PySem PySem.Spec PyProof.Rows L2
theorem sg_vals : ∀ {sg : List Sg} {as : List V}, SgAll sg as → ∀ v ∈ as, (∃ z, v = .str z ∧ nmOk z = true) ∨ (∃ i, v = .int i) ∨ ∃ b, v = .bl b
  | [], [], _, v, hv => by cases hv
  | [], _ :: _, ⟨h, _⟩, _, _ => by simp at h
  | _ :: _, [], _, v, hv => by cases hv
  | s :: ss, a :: as, ⟨h1, h2⟩, v, hv => by
    rcases List.mem_cons.mp hv with rfl | hv
    · have g := h2 (s, v) (by simp)
      cases s with
      | n =>
        obtain ⟨z, rfl⟩ := name_text g
        exact .inl ⟨z, rfl, g⟩
      | m l =>
        obtain ⟨i, rfl, _, _⟩ := mom_num g
        exact .inr (.inl ⟨i, rfl⟩)
      | t =>
        obtain ⟨b, rfl⟩ := bool_is g
        exact .inr (.inr ⟨b, rfl⟩)
    · exact sg_vals (sg := ss) (as := as) ⟨by simpa using h1, fun p hp => h2 p (by simp [hp])⟩ v hv
theorem sg_kd {K : PySem.W.Frag} {G : Hp} {sg : List Sg} {as : List V} (h : SgAll sg as) : (∀ v ∈ as, ∃ t, Kd K G v t) ∧ ∀ s, V.str s ∈ as → s.length ≤ 1000000 := by
  refine ⟨fun v hv => ?_, fun s hs => ?_⟩
  · rcases sg_vals h v hv with ⟨z, rfl, _⟩ | ⟨i, rfl⟩ | ⟨b, rfl⟩
    · exact ⟨_, kd_str _⟩
    · exact ⟨_, kd_int _⟩
    · exact ⟨_, kd_bl _⟩
  · rcases sg_vals h _ hs with ⟨z, e, hz⟩ | ⟨i, e⟩ | ⟨b, e⟩
    · cases e
      have := nmOk_len hz
      omega
    · cases e
    · cases e
def PartsAt (G : Hp) (q : Addr) (t : Str) (m : Int) (b : Str) : Prop := RightE t m b ∧ G q = some (.tup [.str t, .int m, .str b])
theorem PartsAt.same {G G' : Hp} {q : Addr} {t b : Str} {m : Int} (h : PartsAt G q t m b) (s : Same G G') : PartsAt G' q t m b := ⟨h.1, s _ _ h.2⟩
end Q
namespace Q
open PySem PySem.Spec PyProof.Rows L2
theorem sg_tail {s : Sg} {ss : List Sg} {a : V} {as : List V} (h : SgAll (s :: ss) (a :: as)) : sgOk s a = true ∧ SgAll ss as := ⟨h.2 (s, a) (by simp), by have := h.1; simpa using this, fun p hp => h.2 p (by simp [hp])⟩
theorem named_strs : ∀ {sg : List Sg} {as : List V}, SgAll sg as → ∀ v ∈ rowNamed sg as, ∃ z, v = .str z ∧ nmOk z = true
  | [], as, _, v, h => by cases as <;> cases h
  | s :: ss, [], _, v, h => by cases s <;> cases h
  | s :: ss, a :: as, h, v, hv => by
    obtain ⟨h1, h2⟩ := sg_tail h
    cases s with
    | n =>
      rcases List.mem_cons.mp (show v ∈ a :: rowNamed ss as from hv) with rfl | hv
      · obtain ⟨z, rfl⟩ := name_text h1
        exact ⟨z, rfl, h1⟩
      · exact named_strs h2 v hv
    | m l => exact named_strs h2 v hv
    | t => exact named_strs h2 v hv
end Q
namespace Q
open PySem PySem.Spec PyProof.Rows L2
theorem told_le : ∀ {sg : List Sg} {as : List V}, (rowTold sg as).length ≤ as.length ∧ (rowNamed sg as).length ≤ as.length
  | [], as => by cases as <;> simp [rowTold, rowNamed]
  | s :: ss, [] => by cases s <;> simp [rowTold, rowNamed]
  | s :: ss, a :: as => by
    have ih := told_le (sg := ss) (as := as)
    cases s <;> simp only [rowTold, rowNamed, List.length_cons] <;> omega
theorem named_few {i : Nat} {as : List V} (hi : i < 10) (h : SgAll (sgN i) as) : (rowNamed (sgN i) as).length ≤ 4 := by
  have a := (told_le (sg := sgN i) (as := as)).2
  have b := (kind_len i hi).2
  have c := h.1
  omega
end Q
namespace Q
open PySem PySem.Spec PyProof.Rows L2
theorem cut_tail (x : V) (xs : List V) : cutV (x :: xs) (some 1) none = xs := by
  unfold cutV
  have e : HT.sIx (x :: xs).length 0 (some 1) = 1 := by
    show (if (1 : Int) < 0 then ((1 : Int) + (((x :: xs).length : Nat) : Int)).toNat else min (1 : Int).toNat (x :: xs).length) = 1
    rw [if_neg (by decide)]
    simp
  rw [e]
  show ((x :: xs).drop 1).take ((x :: xs).length - 1) = xs
  simp
theorem r_slT1 {K : PySem.W.Frag} {p : Addr} {x : V} {xs : List V} {H : Hp} {Qv : VK} (h : SqT K H p (x :: xs)) (q : Lay 0 (.tup xs) Qv H) : rSlT K (.ref p) (some 1) none H Qv := by
  refine ⟨p, x :: xs, rfl, h, fun ⟨z, _⟩ => ?_, fun l hl => ?_⟩
  · have z : (if (1 : Int) < 0 then (1 + (((x :: xs).length : Nat) : Int)).toNat else min (1 : Int).toNat (x :: xs).length) = 0 := z
    rw [if_neg (by decide)] at z
    simp at z
  · rw [cut_tail]
    exact q.2 l hl
theorem named_filter : ∀ {sg : List Sg} {as : List V}, SgAll sg as → as.filter isS = rowNamed sg as
  | [], [], _ => rfl
  | [], _ :: _, h => by have := h.1; simp at this
  | _ :: _, [], h => by have := h.1; simp at this
  | s :: ss, a :: as, h => by
    obtain ⟨h1, h2⟩ := sg_tail h
    have ih := named_filter h2
    cases s with
    | n =>
      obtain ⟨z, rfl⟩ := name_text h1
      rw [List.filter_cons_of_pos (by rfl), ih]
      rfl
    | m l =>
      obtain ⟨i, rfl, _⟩ := mom_num h1
      rw [List.filter_cons_of_neg (by simp [isS]), ih]
      rfl
    | t =>
      obtain ⟨b, rfl⟩ := bool_is h1
      rw [List.filter_cons_of_neg (by simp [isS]), ih]
      rfl
theorem sg_few {i : Nat} {as : List V} (hi : i < 10) (h : SgAll (sgN i) as) : as.length ≤ 4 := by
  rw [h.1]
  exact (kind_len i hi).2
def spCrewR : Sp := fun vs H Q _ => ∃ (G : Hp) (p c : Addr) (n : Nat), vs = [.ref p] ∧ Gh G H ∧ G p = none ∧ Cells c G ∧ PenAt p c n H ∧ n ≤ 1048000 ∧ RetP p c (n + 2) G H (fun v G' => ∃ l ns, v = .ref l ∧ G' l = some (.lst (ns.map V.str)) ∧ ns ≠ [] ∧ ns.length ≤ 3 ∧ ∀ z ∈ ns, nmOk z = true) Q
/-- a row as a tuple: its kind and its arguments -/
def TupRow (G : Hp) (t : Addr) (i : Nat) (as : List V) : Prop := i < 10 ∧ G t = some (.tup (.str (kindN i) :: as)) ∧ SgAll (sgN i) as
theorem TupRow.same {G G' : Hp} {t : Addr} {i : Nat} {as : List V} (h : TupRow G t i as) (s : Same G G') : TupRow G' t i as := ⟨h.1, s _ _ h.2.1, h.2.2⟩
def spNamedL : Sp := fun vs H Q _ => ∃ (G : Hp) (t : Addr) (i : Nat) (as : List V), vs = [.ref t] ∧ Gh G H ∧ TupRow G t i as ∧ Ret G H (fun v G' => ∃ l, v = .ref l ∧ G' l = some (.lst (rowNamed (sgN i) as))) Q
section
variable {K : PySem.W.Frag} {G H : Hp} {M : List Addr} {e : En} {p c t : Addr} {n i : Nat} {m : Int} {as : List V} {Q : VK} {E : XK}
theorem u_crewR (w : Wd e G H M) (hm : p ∈ M) (hc : Cells c G) (P : PenAt p c n H) (hn : n ≤ 1048000) (k : ∀ l ns G' H', Wd e G' H' M → Same G G' → But p H H' → PenAt p c (n + 2) H' → G' l = some (.lst (ns.map V.str)) → ns ≠ [] → ns.length ≤ 3 → (∀ z ∈ ns, nmOk z = true) → Q (.ref l) H') : spCrewR [.ref p] H Q E :=
  ⟨G, p, c, n, rfl, w.gh, (w.mu p hm).1, hc, P, hn, retP_use w hm fun v G' H' w' s b P' ⟨l, ns, e1, h1, h2, h3, h4⟩ => by subst e1; exact k l ns G' H' w' s b P' h1 h2 h3 h4⟩
theorem u_namedL (w : Wd e G H M) (h : TupRow G t i as) (k : ∀ l G' H', Wd e G' H' M → Same G G' → Same H H' → G' l = some (.lst (rowNamed (sgN i) as)) → Q (.ref l) H') : spNamedL [.ref t] H Q E :=
  ⟨G, t, i, as, rfl, w.gh, h, ret_use w fun v G' H' w' s1 s2 ⟨l, e1, h1⟩ => by subst e1; exact k l G' H' w' s1 s2 h1⟩
end
end Q
namespace Q
open PySem PySem.Spec PyProof.Rows L2
/-- values that may stand for names: known texts, all shown -/
def NewV (K : PySem.W.Frag) (G : Hp) (v : V) : Prop := (∀ z, v = .str z → PyData.strOk z = true) ∧ ∃ d, Odd K G v d
theorem NewV.same {K : PySem.W.Frag} {G G' : Hp} {v : V} (h : NewV K G v) (s : Same G G') : NewV K G' v := ⟨h.1, h.2.elim fun d o => ⟨d, o.same s⟩⟩
theorem newV_name {K : PySem.W.Frag} {G : Hp} {z : Str} (h : nmOk z = true) : NewV K G (.str z) := ⟨fun y e => by cases e; exact nmOk_str h, _, odd_name h⟩
def NamesOk (K : PySem.W.Frag) (G : Hp) (kvs : List (Key × V)) : Prop := ∀ kv ∈ kvs, (∃ z, kv.1 = .inr z ∧ nmOk z = true) ∧ NewV K G kv.2
theorem NamesOk.same {K : PySem.W.Frag} {G G' : Hp} {kvs : List (Key × V)} (h : NamesOk K G kvs) (s : Same G G') : NamesOk K G' kvs := fun kv m => ⟨(h kv m).1, (h kv m).2.same s⟩
theorem NamesOk.get {K : PySem.W.Frag} {G : Hp} {kvs : List (Key × V)} (h : NamesOk K G kvs) {z : Str} (hz : nmOk z = true) : NewV K G ((valV kvs (.inr z)).getD (.str z)) := by
  cases e : valV kvs (.inr z) with
  | none => exact newV_name hz
  | some v =>
    have e' : (kvs.find? fun kv => decide (kv.1 = (Sum.inr z : Key))).map (·.2) = some v := e
    cases q : kvs.find? fun kv => decide (kv.1 = (Sum.inr z : Key)) with
    | none => rw [q] at e'; cases e'
    | some kv =>
      rw [q] at e'
      cases e'
      exact (h kv (List.mem_of_find?_eq_some q)).2
theorem mem_putK {kvs : List (Key × V)} {k : Key} {v : V} {kv : Key × V} (h : kv ∈ putK kvs k v) : kv ∈ kvs ∨ kv.2 = v ∧ (kv.1 = k) := by
  unfold putK at h
  split at h
  · obtain ⟨a, ha, e⟩ := List.mem_map.mp h
    by_cases c : a.1 = k
    · rw [if_pos c] at e
      subst e
      exact .inr ⟨rfl, c⟩
    · rw [if_neg c] at e
      subst e
      exact .inl ha
  · rcases List.mem_append.mp h with h | h
    · exact .inl h
    · rw [List.mem_singleton.mp h]
      exact .inr ⟨rfl, rfl⟩
theorem NamesOk.put {K : PySem.W.Frag} {G : Hp} {kvs : List (Key × V)} (h : NamesOk K G kvs) {z : Str} {v : V} (hz : nmOk z = true) (hv : NewV K G v) : NamesOk K G (putK kvs (.inr z) v) := fun kv m => by
  rcases mem_putK m with m | ⟨e1, e2⟩
  · exact h kv m
  · exact ⟨⟨z, e2, hz⟩, by rw [e1]; exact hv⟩
end Q
namespace Q
open PySem PySem.Spec PyProof.Rows L2
end Q
namespace Q
open PySem PySem.Spec PyProof.Rows L2
def meAllB (K : PySem.W.Frag) (CL : Nat → Addr) (m : Str) (f : Addr) : Bool := PySem.W.isFn K (.ref f) && (PySem.W.keepIn K (.ref f) && (List.range 10).all fun i => He.eqO (PySem.W.findIn K (.ref (CL i)) m) (some (some (.ref f))))
theorem meAll_ok {K : PySem.W.Frag} {CL : Nat → Addr} {m : Str} {f : Addr} (h : meAllB K CL m f = true) : ∀ i, i < 10 → Meth K (CL i) m f := by
  obtain ⟨h1, h⟩ := He.ba h
  obtain ⟨h2, h3⟩ := He.ba h
  exact fun i hi => ⟨He.eqO_ok (List.all_eq_true.mp h3 i (List.mem_range.mpr hi)), h1, h2⟩
theorem int_len {i : Int} (h : i.natAbs ≤ 1000000000000000000000000000000000) : (Str.ofString (toString i)).length ≤ 40 := by
  have e33 : (1000000000000000000000000000000000 : Int) < 10 ^ 36 := by decide
  cases i with
  | ofNat m => exact Nat.le_trans (toString_length_le (v := (m : Int)) (k := 36) (by omega) (by decide) (by have : (Int.ofNat m).natAbs = m := rfl; omega)) (by decide)
  | negSucc m =>
    have e : toString (Int.negSucc m) = "-" ++ toString (((m + 1 : Nat)) : Int) := rfl
    have a := toString_length_le (v := ((m + 1 : Nat) : Int)) (k := 36) (by omega) (by decide) (by have : (Int.negSucc m).natAbs = m + 1 := rfl; omega)
    rw [e]
    have b : (Str.ofString ("-" ++ toString ((m + 1 : Nat) : Int))).length = 1 + (Str.ofString (toString ((m + 1 : Nat) : Int))).length := by
      simp only [Str.ofString_eq_toList, Str.length]
      simp
      omega
    omega
theorem odd_num {K : PySem.W.Frag} {G : Hp} {i : Int} (h : i.natAbs ≤ 1000000000000000000000000000000000) : Odd K G (.int i) (.int i) := by
  refine odd_int ?_ ?_
  · have e : (PyData.int i).shown = Str.ofString (toString i) := by simp [PyData.shown]
    rw [e]
    exact Nat.le_trans (int_len h) (by decide)
  · have l : i.natAbs.log2 < 1920 := by
      by_cases z : i.natAbs = 0
      · rw [z]; decide
      · refine (Nat.log2_lt z).mpr (Nat.lt_of_le_of_lt h ?_)
        exact Nat.lt_of_lt_of_le (m := 2 ^ 120) (by decide) (Nat.pow_le_pow_right (by decide) (by decide))
    simp [PyData.showable, l]
end Q
namespace Q
open PySem PySem.Spec PyProof.Rows L2
theorem sg_bad {sg : List Sg} {as : List V} (h : SgAll sg as) : rowBad sg as = none := by
  have e := h.sound (Cn := 0) (Cm := 0) (Cs := 0)
  rw [fault_bad] at e
  cases z : rowBad sg as with
  | none => rfl
  | some q => rw [z] at e; cases e
section
variable {K : PySem.W.Frag} {CL : Nat → Addr} {Cn Cm Cs : Addr} {e : En} {G H : Hp} {M : List Addr} {a t d : Addr} {i : Nat} {as : List V} {n : Int} {kvs : List (Key × V)} {Q : VK} {E : XK}
theorem u_madeR (w : Wd e G H M) (h : TupRow G t i as) (k : ∀ r G' H', Wd e G' H' M → Same G G' → Same H H' → RowOf K CL G' r i as → Q (.ref r) H') : spMade K CL Cn Cm Cs [.ref t] H Q E := by
  obtain ⟨hi, gt, sg⟩ := h
  refine u_made w hi (.inr (SqT.of gt)) sg.1 (sg_kd sg).1 (sg_kd (K := K) (G := G) sg).2 (fun s v hb => ?_) fun _ r G' H' w' s' t' hr => k r G' H' w' s' t' ⟨hi, sg, hr⟩
  rw [sg_bad sg] at hb
  cases hb
end
end Q
namespace Q
open PySem PySem.Spec PyProof.Rows L2
end Q
namespace Q
open PySem PySem.Spec PyProof.Rows L2
theorem zip_look {m : Str} : ∀ {ks : List Str} {vs : List V}, m ∉ ks → (ks.zip vs).lookup m = none
  | [], _, _ => rfl
  | _ :: _, [], _ => rfl
  | k :: ks, v :: vs, h => by
    have h1 : (m == k) = false := by
      apply Bool.eq_false_iff.mpr
      intro e
      exact h (by rw [eq_of_beq e]; simp)
    rw [List.zip_cons_cons, List.lookup_cons, h1]
    exact zip_look fun z => h (List.mem_cons_of_mem _ z)
theorem row_look {m kind : Str} {aw an am : Addr} {fl : List Str} {as : List V} (h0 : (["kind", "words", "named", "told_at"] : List Str).all (fun k => !(m == k)) = true) (h : m ∉ fl) : (rowFs kind aw an am fl as).lookup m = none := by
  have z := List.all_eq_true.mp h0
  have e1 : (m == ("kind" : Str)) = false := by simpa using z "kind" (by simp)
  have e2 : (m == ("words" : Str)) = false := by simpa using z "words" (by simp)
  have e3 : (m == ("named" : Str)) = false := by simpa using z "named" (by simp)
  have e4 : (m == ("told_at" : Str)) = false := by simpa using z "told_at" (by simp)
  show List.lookup m (("kind", V.str kind) :: ("words", .ref aw) :: ("named", .ref an) :: ("told_at", .ref am) :: fl.zip as) = none
  rw [List.lookup_cons, e1, List.lookup_cons, e2, List.lookup_cons, e3, List.lookup_cons, e4]
  exact zip_look h
end Q
namespace L2
open PySem PySem.Spec PyProof.Rows
end L2
namespace Q
open PySem PySem.Spec PyProof.Rows L2
end Q
namespace Q
open PySem PySem.Spec PyProof.Rows L2
end Q
namespace Q
open PySem PySem.Spec PyProof.Rows L2
end Q
namespace Q
open PySem PySem.Spec PyProof.Rows L2
end Q
namespace Q
open PySem PySem.Spec PyProof.Rows L2
end Q
namespace Q
open PySem PySem.Spec PyProof.Rows L2
end Q
namespace Q
open PySem PySem.Spec PyProof.Rows L2
end Q
namespace Q
open PySem PySem.Spec PyProof.Rows L2
end Q
namespace Q
open PySem PySem.Spec PyProof.Rows L2
end Q
namespace Q
open PySem PySem.Spec PyProof.Rows L2
end Q
namespace Q
open PySem PySem.Spec PyProof.Rows L2
end Q
namespace Q
open PySem PySem.Spec PyProof.Rows L2
end Q
namespace Q
open PySem PySem.Spec PyProof.Rows L2
theorem lk_3 {α : Type} : ∀ {as : List α}, as.length = 3 → ∃ a b c, as = [a, b, c]
  | [a, b, c], _ => ⟨a, b, c, rfl⟩
theorem lk_4 {α : Type} : ∀ {as : List α}, as.length = 4 → ∃ a b c d, as = [a, b, c, d]
  | [a, b, c, d], _ => ⟨a, b, c, d, rfl⟩
end Q
namespace Q
open PySem PySem.Spec PyProof.Rows L2
end Q
namespace Q
open PySem PySem.Spec PyProof.Rows L2
end Q
namespace Q
open PySem PySem.Spec PyProof.Rows L2
theorem inV_strs {z : Str} : ∀ {ws : List Str}, inV (.str z) (ws.map V.str) = decide (z ∈ ws)
  | [] => rfl
  | n :: ns => by
    have ih : ((ns.map V.str).any fun y => eqV y (.str z)) = decide (z ∈ ns) := inV_strs (z := z) (ws := ns)
    have e : eqV (.str n) (.str z) = decide (n = z) := rfl
    show (eqV (.str n) (.str z) || (ns.map V.str).any fun y => eqV y (.str z)) = decide (z ∈ n :: ns)
    rw [ih, e]
    by_cases h1 : n = z
    · rw [decide_eq_true h1, Bool.true_or, decide_eq_true (List.mem_cons.mpr (.inl h1.symm))]
    · rw [decide_eq_false h1, Bool.false_or]
      by_cases h2 : z ∈ ns
      · rw [decide_eq_true h2, decide_eq_true (List.mem_cons_of_mem _ h2)]
      · rw [decide_eq_false h2, decide_eq_false fun h => (List.mem_cons.mp h).elim (fun q => h1 q.symm) h2]
end Q
namespace Q
open PySem PySem.Spec PyProof.Rows L2
end Q
namespace Q
open PySem PySem.Spec PyProof.Rows L2
/-- the text of an entry -/
def txOf (e : Int × Value) : Str := match e.2 with
  | .str z _ => z
  | _ => Str.empty
def TxE (w : World) (e : Int × Value) : Prop := ∃ (z : Str) (t : Tok), e = (hashStr w z, Value.str z t)
structure TxAt (w : World) (zs : List Str) (fs : Array (Int × Value)) (u : SetTable) : Prop where
  each : ∀ e ∈ fs.toList, TxE w e
  perm : (fs.toList.map txOf).Perm zs
  nd : zs.Nodup
  few : zs.length < scanBound
  fit : u.fits fs.size = true
  ris : Ris u.place.toList
  led : w.params.followText "set-order" = true ∨ u.led = true
def TxSet (w : World) (h : Heap) (a : Addr) (zs : List Str) : Prop := ∃ ob fs ep u, h.get? a = some ob ∧ ob.ExactSet ∧ ob.data = .set fs ep u ∧ TxAt w zs fs u
section
variable {P : Program} {w : World} {h h' : Heap} {a : Addr} {zs : List Str} {fs : Array (Int × Value)} {u : SetTable}
theorem TxSet.keep (R : TxSet w h a zs) (k : ∀ ob, h.get? a = some ob → h'.get? a = some ob) : TxSet w h' a zs := by
  obtain ⟨ob, fs, ep, u, g, r⟩ := R
  exact ⟨ob, fs, ep, u, k ob g, r⟩
theorem TxAt.size (R : TxAt w zs fs u) : fs.size = zs.length := by
  have := R.perm.length_eq
  rwa [List.length_map, Array.length_toList] at this
theorem TxAt.elems (R : TxAt w zs fs u) : ElemsOf (PySem.strKind P w) fs.toList := fun e he => by
  obtain ⟨z, t, rfl⟩ := R.each e he
  exact ⟨⟨z, by show Value.isStrOf z (.str z t) = true; simp [Value.isStrOf], rfl⟩, rfl⟩
theorem tx_is {e : Int × Value} (x : TxE w e) (k : Str) : (PySem.strKind P w).is k e.2 = true ↔ txOf e = k := by
  obtain ⟨z, t, rfl⟩ := x
  show (Value.isStrOf k (.str z t) = true) ↔ z = k
  simp [Value.isStrOf]
theorem TxAt.mem (R : TxAt w zs fs u) (k : Str) : k ∈ zs ↔ ∃ e ∈ fs.toList, (PySem.strKind P w).is k e.2 = true := by
  rw [← R.perm.mem_iff, List.mem_map]
  constructor
  · rintro ⟨e, he, q⟩
    exact ⟨e, he, (tx_is (R.each e he) k).mpr q⟩
  · rintro ⟨e, he, q⟩
    exact ⟨e, he, (tx_is (R.each e he) k).mp q⟩
end
section
variable {P : Program} {w : World} {A : Around} {E : Value → Shared → Prop} {s : Shared} {a : Addr} {zs : List Str}
theorem put_at {h : Heap} {ob : Obj} {fs gs : Array (Int × Value)} {ep : Nat} {u v : SetTable} (g : h.get? a = some ob) (d : ob.data = .set fs ep u) : (h.update a (Obj.putSet gs v)).get? a = some { ob with data := .set gs (ep + 1) v } := by
  have z := putSet_of gs v d
  have q := Heap.get?_update_self (Obj.putSet gs v) g (by rw [z] <;> rfl)
  rwa [z] at q
/-- a set's entries are laid, and laid anew where the table is too full -/
theorem tx_tail {gv : Bool → Sem Unit} (quiet : ∀ (b : Bool) (t : Shared) (R : Unit → Shared → Prop), R () t → wpAny (model P w) A (gv b) R E t) {ob : Obj} {fs gs : Array (Int × Value)} {ep : Nat} {u v : SetTable} (g : s.heap.get? a = some ob) (x : ob.ExactSet) (d : ob.data = .set fs ep u)
    {ys : List Str} (T : TxAt w ys gs v) {dummy : Bool} {R : Option Bool → Shared → Prop} (fin : ∀ h', Heap.SameBut a s.heap h' → TxSet w h' a ys → R (some true) { s with heap := h' }) :
    wpAny (model P w) A (do
        storeSet a gs v
        if (!dummy && v.tooFull) = true then do
            gv (relayAll v gs (SetTable.grown gs.size)).2.2
            storeSet a (relayAll v gs (SetTable.grown gs.size)).1 (relayAll v gs (SetTable.grown gs.size)).2.1
            pure (some true)
          else pure (some true)) R E s := by
  have small : gs.size < scanBound := by rw [T.size]; exact T.few
  refine wpAny_bind (wpAny_storeSet_of g d ?_ (fits_of_scanBound small))
  have g1 := put_at (gs := gs) (v := v) g d
  have sb := Heap.SameBut.update s.heap a (Obj.putSet gs v)
  split
  · have y1 := relayAll_perm v gs (SetTable.grown gs.size)
    have y2 := relayAll_fits v gs (SetTable.grown gs.size)
    have y3 := relayAll_ris v gs (SetTable.grown gs.size)
    have y4 := relayAll_led v gs (SetTable.grown gs.size)
    generalize relayAll v gs (SetTable.grown gs.size) = rr at y1 y2 y3 y4 ⊢
    obtain ⟨hs, v2, gave⟩ := rr
    dsimp only at y1 y2 y3 y4 ⊢
    have es : hs.size = gs.size := by rw [← Array.length_toList, y1.length_eq, Array.length_toList]
    refine wpAny_bind (quiet _ _ _ (wpAny_bind (wpAny_storeSet_of g1 rfl ?_ (fits_of_scanBound (by rw [es]; exact small)))))
    exact wpAny_pure (fin _ (sb.trans (Heap.SameBut.update _ a _)) ⟨_, hs, _, v2, put_at (gs := hs) (v := v2) g1 rfl, x, rfl,
      ⟨fun e he => T.each e (y1.mem_iff.mp he), (y1.map txOf).trans T.perm, T.nd, T.few, y2, y3, T.led.imp id fun z => y4.trans z⟩⟩)
  · exact wpAny_pure (fin _ sb ⟨_, gs, _, v, g1, x, rfl, T⟩)
theorem tx_hashed {k : Str} {tk : Tok} {R : Bool → Shared → Prop} (T : TxSet w s.heap a zs) (room : zs.length + 1 < scanBound) (fin : ∀ (b : Bool) h', Heap.SameBut a s.heap h' → TxSet w h' a (if k ∈ zs then zs else k :: zs) → R b { s with heap := h' }) :
    wpAny (model P w) A (setAddHashed a (.str k tk) ((PySem.strKind P w).hash k)) R E s := by
  obtain ⟨ob, fs, ep, u, g, x, d, T⟩ := T
  have key : (PySem.strKind P w).is k (.str k tk) = true := by
    show Value.isStrOf k (.str k tk) = true
    simp [Value.isStrOf]
  have scn : (Value.str k tk).scannable = true := rfl
  have els : ElemsOf (PySem.strKind P w) fs.toList := T.elems
  have small : fs.size < scanBound := by rw [T.size]; exact T.few
  unfold setAddHashed setAddHashedIn
  refine wpAny_holding (wpAny_bind (wpAny_setState_of g d T.fit ?_))
  dsimp only
  rw [byScan_of scn small els, if_pos rfl]
  unfold setAddByScan
  refine wpAny_bind (wpAny_bind (wpAny_rule (wpAny_bind (wpAny_setScan_of key g d T.fit els ?_))))
  cases look : List.findIdx? (fun e => (PySem.strKind P w).is k e.2) fs.toList with
  | some j =>
    obtain ⟨hj, pj, _⟩ := List.findIdx?_eq_some_iff_getElem.mp look
    have kin : k ∈ zs := (T.mem (P := P) k).mpr ⟨fs.toList[j], List.getElem_mem hj, pj⟩
    have q := fun b => fin b s.heap (Heap.SameBut.refl a s.heap)
    rw [if_pos kin] at q
    exact wpAny_pure (wpAny_pure (q _ ⟨ob, fs, ep, u, g, x, d, T⟩))
  | none =>
    have kout : k ∉ zs := fun z => by
      obtain ⟨e, he, q⟩ := (T.mem (P := P) k).mp z
      have c := List.findIdx?_eq_none_iff.mp look e he
      rw [q] at c
      cases c
    rw [if_neg kout] at fin
    dsimp only
    have y1 := layNew_perm u fs ((PySem.strKind P w).hash k) (.str k tk)
    have y2 := layNew_fits u fs ((PySem.strKind P w).hash k) (.str k tk)
    have y3 := layNew_ris u fs ((PySem.strKind P w).hash k) (.str k tk) T.ris
    have y4 := layNew_led u fs ((PySem.strKind P w).hash k) (.str k tk)
    generalize layNew u fs ((PySem.strKind P w).hash k) (.str k tk) = rr at y1 y2 y3 y4 ⊢
    obtain ⟨gs, v, dummy, gave⟩ := rr
    dsimp only at y1 y2 y3 y4 ⊢
    rw [Array.toList_push] at y1
    have pc : gs.toList.Perm (((PySem.strKind P w).hash k, Value.str k tk) :: fs.toList) := y1.trans (List.perm_append_singleton _ _)
    have T1 : TxAt w (k :: zs) gs v := ⟨fun e he => by
      rcases List.mem_cons.mp (pc.mem_iff.mp he) with z | z
      · exact ⟨k, tk, z⟩
      · exact T.each e z, (pc.map txOf).trans (List.Perm.cons k T.perm), List.nodup_cons.mpr ⟨kout, T.nd⟩, room, y2, y3, T.led.imp id fun z => y4.trans z⟩
    have quiet : ∀ (b : Bool) (t : Shared) (R' : Unit → Shared → Prop), R' () t → wpAny (model P w) A (match b with | true => rule "set.scan.the-table-gave-way" | false => pure ()) R' E t := fun b t R' q => by
      cases b
      · exact wpAny_pure q
      · exact wpAny_rule q
    refine wpAny_bind (quiet _ _ _ ?_)
    split
    · refine wpAny_bind ?_
      rw [hashByValue_scannable 8 scn]
      refine wpAny_pure (tx_tail quiet g x d (ys := k :: zs) ?_ fun h' sb r => wpAny_pure (fin _ h' sb r))
      first
        | exact ⟨T1.each, T1.perm, T1.nd, T1.few, SetTable.fits_plain_off T1.fit, T1.ris, T1.led⟩
        | (split <;> first | exact T1 | exact ⟨T1.each, T1.perm, T1.nd, T1.few, SetTable.fits_plain_off T1.fit, T1.ris, T1.led⟩)
    · refine wpAny_bind (wpAny_pure ?_)
      rw [if_pos rfl]
      exact tx_tail quiet g x d T1 fun h' sb r => wpAny_pure (fin _ h' sb r)
end
end Q
namespace Q
open PySem PySem.Spec PyProof.Rows L2
section
variable {P : Program} {w : World} {A : Around} {E : Value → Shared → Prop} {s : Shared}
theorem tx_new {h : Heap} {a : Addr} (g : h.get? a = some (newS w)) : TxSet w h a [] :=
  ⟨_, #[], 0, _, g, ⟨rfl, rfl, rfl⟩, rfl, ⟨fun e he => (by simp at he), .refl _, List.nodup_nil, (by decide), rfl, List.Pairwise.nil, by
    show _ ∨ (!w.params.followText "set-order") = true
    cases w.params.followText "set-order"
    · exact .inr rfl
    · exact .inl rfl⟩⟩
theorem tx_update {I : Addr} {fp wr : List Addr} {G : Array GenState → Array GenState → Prop} {n : Nat} {Pv : Nat → Value → Prop} {St : Nat → Shared → Prop} {R : Result → Shared → Prop} (W : WalksS P w A.in1 I fp wr G n Pv St) (B : Addr) (off : B ∉ fp) (xs : List Str) (hn : n = xs.length)
    (hb : xs.length + 1 < scanBound) (val : ∀ i v, Pv i v → ∃ z t, xs[i]? = some z ∧ v = .str z t) :
    ∀ (d i : Nat) (s : Shared), n - i = d → i ≤ n → St i s → (∃ zs, TxSet w s.heap B zs ∧ (∀ z, z ∈ zs ↔ z ∈ xs.take i) ∧ zs.length ≤ i) →
      (∀ t zs, Moved (B :: wr) G s t → TxSet w t.heap B zs → (∀ z, z ∈ zs ↔ z ∈ xs) → zs.length ≤ n → R (.ok (.ret .none)) t) → codeAny (model P w) A (.builtin "set.update.loop" ⟨[.ref B, .ref I], []⟩) R s := by
  have out : B ∉ wr := fun m => off (W.sub _ m)
  have more : ∀ b ∈ wr, b ∈ B :: wr := fun b m => List.mem_cons_of_mem _ m
  intro d
  induction d with
  | zero =>
    intro i s hd hi st ⟨zs, hz, mem, len⟩ fin
    obtain rfl : i = n := by omega
    refine codeAny_builtin F.entry_set_update_loop ?_
    rw [Around.under_plainId (A := A) F.plain_set_update_loop _]
    show wpAny _ A.in1 (pyNext (.ref I) >>= _) _ _ _
    refine wpAny_bind (W.done s _ _ st fun t mv => ?_)
    rw [List.take_of_length_le (by omega)] at mem
    show wpAny _ A.in1 (ret Value.none) _ _ t
    exact wpAny_pure (fin t zs (mv.mono more) (hz.keep fun ob e => mv.heap B ob out e) mem len)
  | succ d ih =>
    intro i s hd hi st ⟨zs, hz, mem, len⟩ fin
    have lt : i < n := by omega
    refine codeAny_builtin F.entry_set_update_loop ?_
    rw [Around.under_plainId (A := A) F.plain_set_update_loop _]
    show wpAny _ A.in1 (pyNext (.ref I) >>= _) _ _ _
    refine wpAny_bind (W.item i s _ _ lt st fun v t pv st' mv => ?_)
    obtain ⟨z, tk, ez, rfl⟩ := val i v pv
    have hz1 : TxSet w t.heap B zs := hz.keep fun ob e => mv.heap B ob out e
    show wpAny _ A.in1 (holding [Value.str z tk] (setAdd B (.str z tk)) >>= _) _ _ t
    refine wpAny_bind (wpAny_holding ?_)
    unfold setAdd
    have isz : (PySem.strKind P w).is z (.str z tk) = true := by
      show Value.isStrOf z (.str z tk) = true
      simp [Value.isStrOf]
    refine wpAny_holding (wpAny_bind ((PySem.strKind P w).pyHash (k := z) isz ?_))
    refine tx_hashed (s := { t with toks := t.toks + 1 }) hz1 (by omega) fun b h' sb hz2 => ?_
    have mem2 : ∀ y, y ∈ (if z ∈ zs then zs else z :: zs) ↔ y ∈ xs.take (i + 1) := fun y => by
      rw [List.take_add_one, ez]
      by_cases c : z ∈ zs
      · rw [if_pos c, mem y]
        simp only [Option.toList_some, List.mem_append, List.mem_singleton]
        refine ⟨.inl, fun q => q.elim id fun e => ?_⟩
        rw [e]
        exact (mem z).mp c
      · rw [if_neg c, List.mem_cons, mem y]
        simp only [Option.toList_some, List.mem_append, List.mem_singleton]
        exact Or.comm
    have len2 : (if z ∈ zs then zs else z :: zs).length ≤ i + 1 := by
      split
      · omega
      · rw [List.length_cons]; omega
    refine wpAny_pure ⟨plainId_quiet F.plain_set_update_loop _, ih (i + 1) _ (by omega) lt (W.frame _ t _ _ st' (Nat.le_succ _) fun b hb ob e => ?_) ⟨_, hz2, mem2, len2⟩ fun t2 ys mv2 hy my ly => ?_⟩
    · rw [sb.2 b fun e2 => off (e2 ▸ hb)]
      exact e
    · refine fin t2 ys (Moved.trans W.gtrans ((mv.mono more).then_heap (Nat.le_succ _) fun b ob hb e => ?_) mv2) hy my ly
      rw [sb.2 b fun e2 => hb (e2 ▸ List.mem_cons_self)]
      exact e
def MadeT (w : World) (s : Shared) (xs : List Str) (t : Shared) : Prop := ∃ (g : Heap) (k : Nat) (zs : List Str), t = { s with heap := g, toks := k } ∧ TxSet w g s.heap.objs.size zs ∧ (∀ z, z ∈ zs ↔ z ∈ xs) ∧ zs.length ≤ xs.length ∧ ∀ b o, s.heap.get? b = some o → g.get? b = some o
theorem tx_fill {l : Addr} {its : Array Value} {xs : List Str} {R : Result → Shared → Prop} (nh : A.handled = none) (hl : s.heap.IsList l its) (hi : StrsAre its.toList xs) (hb : xs.length + 1 < scanBound) (hR : ∀ t, MadeT w s xs t → R (.ok (.ret .none)) t) :
    wpAny (model P w) A.in1 (Builtin.«set.__init__» ⟨[.ref s.heap.objs.size, .ref l], []⟩) (fun fin t => match fin with | .done f => R (.ok f) t | .again c' => c'.quiet = true ∧ codeAny (model P w) A c' R t) (fun e t => R (.error e) t) { s with heap := s.heap.push (newS w) } := by
  have sz : its.size = xs.length := by
    have q := StrsAre.length hi
    rw [Array.length_toList] at q
    exact q
  have z0 : (s.heap.push (newS w)).get? s.heap.objs.size = some (newS w) := Heap.get?_push_size _ rfl
  have tS : Shared.TypeIs { s with heap := s.heap.push (newS w) } (.ref s.heap.objs.size) "set" := ⟨newS w, z0, rfl⟩
  have ll : l < s.heap.objs.size := by obtain ⟨_, e, _⟩ := id hl; exact Heap.lt_size e
  have l1 : (s.heap.push (newS w)).IsList l its := hl.push _
  obtain ⟨ol, e1, e2, nl, e3⟩ := id l1
  have y1 := PySem.F.sub_list_set; have y2 := PySem.F.sub_list_frozenset
  have y3 : (Value.type "list" == Value.type "dict") = false := by decide
  have tL : Shared.TypeIs { s with heap := s.heap.push (newS w) } (.ref l) "list" := ⟨ol, e1, e2⟩
  unfold Builtin.«set.__init__» noKeywords Builtin.Frozenset.updateFrom
  generalize hp : pyIter = PI
  wp_walk
  subst hp
  refine wpAny_pyIter_list l1 (wpAny_bind (wpAny_runValue ?_))
  have n3 : A.in1.in1.handled = none := by simp [nh]
  have zs : (s.heap.push (newS w)).objs.size = s.heap.objs.size + 1 := Heap.size_push ..
  have lI : l ≠ (s.heap.push (newS w)).objs.size := by
    rw [zs]
    exact Nat.ne_of_lt (Nat.lt_succ_of_lt ll)
  have sf : s.heap.objs.size ∉ [(s.heap.push (newS w)).objs.size, l] := by
    rw [zs]
    intro m
    rcases List.mem_cons.mp m with m | m
    · exact Nat.ne_of_lt (Nat.lt_succ_self _) m
    · exact Nat.ne_of_gt ll (List.mem_singleton.mp m)
  have z1 : ((s.heap.push (newS w)).push { cls := .type "list_iterator", data := .fields #[.ref l, .int 0 0] }).get? s.heap.objs.size = some (newS w) := Heap.get?_push_of_some _ z0
  have val : ∀ (i : Nat) (v : Value), its[i]? = some v → ∃ z t, xs[i]? = some z ∧ v = .str z t := fun i v hv => by
    have key : ∀ {vs : List Value} {ys : List Str}, StrsAre vs ys → ∀ (i : Nat) (v : Value), vs[i]? = some v → ∃ z t, ys[i]? = some z ∧ v = Value.str z t := by
      intro vs ys r
      induction r with
      | nil => intro i v h; simp at h
      | cons z t _ ih =>
        intro i v h
        cases i with
        | zero => exact ⟨_, _, rfl, (Option.some.inj h).symm⟩
        | succ i => exact ih i v (by simpa using h)
    exact key hi i v (by rw [Array.getElem?_toList, hv])
  refine tx_update ((Walks.list n3 _ l lI its).toS) s.heap.objs.size sf xs sz hb val its.size 0 _ ?bk (Nat.zero_le _) ?bs ?b0 ?bR
  case bk => omega
  case bs => exact ⟨⟨_, Heap.get?_push_size _ rfl, rfl, rfl⟩, l1.push _⟩
  case b0 => exact ⟨[], tx_new z1, fun z => by simp, Nat.le_refl 0⟩
  rintro ⟨g, gn, dr, tk, os⟩ ys mv hS mem len
  obtain rfl : gn = s.gens := mv.gens
  obtain rfl : dr = s.drawn := mv.drawn
  obtain rfl : os = s.os := mv.os
  refine wpAny_pure (wpAny_pure (hR _ ⟨g, tk, ys, rfl, hS, mem, by omega, fun b o e => ?_⟩))
  have b0 := Heap.lt_size e
  refine mv.heap b o (fun m => ?_) (Heap.get?_push_of_some _ (Heap.get?_push_of_some _ e))
  rcases List.mem_cons.mp m with m | m
  · exact Nat.ne_of_lt b0 m
  · exact Nat.ne_of_lt (Nat.lt_succ_of_lt b0) ((List.mem_singleton.mp m).trans zs)
theorem tx_list {l : Addr} {its : Array Value} {xs : List Str} {Q : Value → Shared → Prop} (nh : A.handled = none) (hl : s.heap.IsList l its) (hi : StrsAre its.toList xs) (hb : xs.length + 1 < scanBound)
    (hQ : ∀ t, MadeT w s xs t → Q (.ref s.heap.objs.size) t) : wpAny (model P w) A (call (.type "set") [.ref l]) Q E s := by
  refine made_by PySem.F.called_set (PySem.F.typeCall_set_1 (.ref l)) (Q1 := fun o t => o = .ref s.heap.objs.size ∧ t = { s with heap := s.heap.push (newS w) }) (code_set_led1 (.ref l) ⟨rfl, rfl⟩) ?_
  rintro _ _ ⟨rfl, rfl⟩
  have tS : Shared.TypeIs { s with heap := s.heap.push (newS w) } (.ref s.heap.objs.size) "set" := ⟨newS w, Heap.get?_push_size _ rfl, rfl⟩
  exact ⟨tS, codeAny_call_builtin PySem.F.called_set.init.plain PySem.F.entry_set_init (check_set_init_1 tS (tx_fill (A := A.in1) nh hl hi hb fun t m => ⟨rfl, hQ t m⟩))⟩
theorem tx_sorted {a : Addr} {zs : List Str} {Q : Value → Shared → Prop} (R : TxSet w s.heap a zs) (nh : A.handled = none)
    (hQ : ∀ t p (out : Array Value) (c : Nat) (ys : List Str), (∀ b o, s.heap.get? b = some o → t.heap.get? b = some o) → t.gens = s.gens → t.os = s.os → s.heap.objs.size ≤ p → t.heap.get? p = some (seqObj "list" out c) → StrsAre out.toList ys → ys.Perm zs → sortedS ys = true → Q (.ref p) t) :
    wpAny (model P w) A (call (.builtin "sorted") [.ref a]) Q E s := by
  obtain ⟨ob, fs, ep, u, g, x, d, T⟩ := R
  have small : fs.size < scanBound := by rw [T.size]; exact T.few
  refine Calls.call_function_entry kind_sorted plain_sorted entry_sorted (args_sorted1 _) ?_
  unfold Builtin.«sorted»
  refine wpAny_bind (m := checkCount "sorted" 1 1 _) (wpAny_pure (wpAny_bind (collect_set (A := A.in1) nh ⟨ob, g, x.1, d⟩ T.fit small T.ris T.led fun t vs k1 z1 g1 o1 pm => ?_)))
  have vl : vs.length = zs.length := by rw [pm.length_eq, List.length_map, Array.length_toList, T.size]
  have big : vs.length ≤ sizeLine := by
    rw [vl]
    exact Nat.le_trans (Nat.le_of_lt T.few) (by decide)
  have allT : ∀ l : List Value, (∀ v ∈ l, ∃ z t, v = Value.str z t) → ∃ ys, StrsAre l ys ∧ ys = l.map fun v => match v with | .str z _ => z | _ => Str.empty := by
    intro l
    induction l with
    | nil => exact fun _ => ⟨[], .nil, rfl⟩
    | cons v l ih =>
      intro hl
      obtain ⟨ys, h1, h2⟩ := ih fun y hy => hl y (List.mem_cons_of_mem _ hy)
      obtain ⟨z, t, rfl⟩ := hl v List.mem_cons_self
      exact ⟨z :: ys, .cons z t h1, by rw [h2] <;> rfl⟩
  obtain ⟨ys, hy, ey⟩ := allT vs fun v hv => by
    obtain ⟨e, he, q⟩ := List.mem_map.mp (pm.mem_iff.mp hv)
    obtain ⟨z, t, rfl⟩ := T.each e he
    exact ⟨z, t, q.symm⟩
  have py : ys.Perm zs := by
    have q := pm.map fun v : Value => match v with | .str z _ => z | _ => Str.empty
    rw [← ey, List.map_map] at q
    exact q.trans T.perm
  refine wpAny_bind (wpAny_newList ?_ big)
  have hL : (t.heap.push (seqObj "list" vs.toArray 0)).get? t.heap.objs.size = some (seqObj "list" vs.toArray 0) := Heap.get?_push_size _ rfl
  refine wpAny_bind (wpAny_holding (wpAny_call_entry slot_list_sort ⟨_, hL, rfl⟩ entry_list_sort (list_sort_treeKAny strKind_oneLt hL hy.keysOf (fun v1 v2 rest e => keyKind_strs (by rw [← e]; exact hy)) big fun st' hp hs => ⟨_, rfl, ?_⟩) (args_list_sort _)))
  obtain ⟨ws, h1, h2, h3⟩ := sorted_out_str hy hp hs
  obtain ⟨c, hc⟩ := sortedHeap_at (vs := vs) (out := (arrOf st').map (·.2)) hL
  refine wpAny_pure ⟨_, rfl, hQ _ t.heap.objs.size _ c ws (fun b o e => ?_) g1 o1 z1 hc h1 (h2.trans py) h3⟩
  have q := k1 b o e
  have lt := Heap.lt_size q
  show (sortedHeap (t.heap.push (seqObj "list" vs.toArray 0)) t.heap.objs.size vs ((arrOf st').map (·.2))).get? b = some o
  rw [sortedHeap_old (Nat.ne_of_lt lt) (by rw [size_push']; exact Nat.lt_succ_of_lt lt)]
  exact Heap.get?_push_of_some _ q
end
def SetS (w : World) (a : Addr) (zs : List Str) : HO := .ext fun h => TxSet w h a zs
theorem setS_new {w : World} {P : Program} {H : Hp} {h : Heap} {a : Addr} {zs : List Str} (R : TxSet w h a zs) : ObjOk P w H h a (SetS w a zs) := by
  have ⟨ob, _, _, _, g, _⟩ := R
  exact ⟨R, ⟨ob, g⟩, fun h1 h2 p k => TxSet.keep p k⟩
theorem setS_nt {w : World} {a : Addr} {zs : List Str} : NoT (SetS w a zs) := fun ps z => by
  have y : HO.ext _ = HO.tbl ps := z
  cases y
/-- set(l), l a list of texts -/
def rSetLS (K : PySem.W.Frag) (w : World) : List V → Hp → VK → Prop := fun xs H Q => ∃ (l : Addr) (zs : List Str), xs = [.ref l] ∧ SqL K H l (zs.map V.str) ∧ zs.length ≤ 1000 ∧ ∀ ys a, (∀ z, z ∈ ys ↔ z ∈ zs) → ys.Nodup → H a = none → Q (.ref a) (upd H a (SetS w a ys))
theorem cr_setLS {X : Cx} (hc : X.calm = true) : CallR X (.type "set") (rSetLS X.K X.w) := by
  intro pins s σ H xs us Q I r h
  obtain ⟨l, zs, rfl, hs, hn, q⟩ := h
  obtain ⟨its, rv, hli, _⟩ := I.list hs
  rw [Vals.ref1 r]
  refine tx_list (I.ok.hd hc) hli.isList (by simpa using rv.strs) (Nat.lt_of_le_of_lt (Nat.add_le_add_right hn 1) (by decide)) fun t m => ?_
  obtain ⟨g, k, ys, rfl, hS, mem, len, keep⟩ := m
  have nd : ys.Nodup := by
    obtain ⟨_, _, _, _, _, _, _, T⟩ := hS
    exact T.nd
  exact ⟨.ref _, _, I.laid (t' := k) keep (Nat.le_refl _) (setS_new hS), rfl, q ys _ mem nd (I.hok.fresh (Nat.le_refl _))⟩
/-- sorted(x), x such a set -/
def rSortS (w : World) : List V → Hp → VK → Prop := fun vs H Q => ∃ (a : Addr) (zs : List Str), vs = [.ref a] ∧ H a = some (SetS w a zs) ∧ ∀ (ys : List Str) (p : Addr), ys.Perm zs → ys.Pairwise leS → H p = none → Q (.ref p) (upd H p (.lst (ys.map V.str)))
theorem cr_sortS {X : Cx} (hc : X.calm = true) : CallR X (.builtin "sorted") (rSortS X.w) := by
  intro pins s σ H vs us Q I r h
  obtain ⟨a, zs, rfl, ha, q⟩ := h
  have R : TxSet X.w s.heap a zs := (I.hok a _ ha).1
  have few : zs.length ≤ sizeLine := by
    obtain ⟨_, _, _, _, _, _, _, T⟩ := R
    exact Nat.le_trans (Nat.le_of_lt T.few) (by decide)
  rw [Vals.ref1 r]
  refine tx_sorted R (I.ok.hd hc) fun t p out c ys k g o hp hg hi h2 h3 => ?_
  have len : (ys.map V.str).length ≤ sizeLine := by rw [List.length_map, h2.length_eq]; exact few
  have new : H p = none := I.hok.fresh hp
  have J : Inv X pins σ (upd H p (.lst (ys.map V.str))) { s with heap := t.heap, gens := t.gens, drawn := t.drawn, toks := t.toks } :=
    I.call (ch := []) (Un.laid k hp new) (I.hok.laid k hp ⟨len, out.toList, c, vals_of_strs hi, hg⟩) (by rw [g]; exact I.bare) (fun _ z => nomatch z)
  have e : t = { s with heap := t.heap, gens := t.gens, drawn := t.drawn, toks := t.toks } := by
    cases t; cases s; cases o
    rfl
  rw [e]
  exact ⟨.ref p, _, J, rfl, q ys p h2 (sortedS_pw h3) new⟩
/-- sorted(set(l)), l a list of texts -/
theorem r_ssT {K : PySem.W.Frag} {wd : World} {l : Addr} {zs : List Str} {e : En} {G H : Hp} {M : List Addr} {Qv R : VK} (w : Wd e G H M) (h : SqL K H l (zs.map V.str)) (hn : zs.length ≤ 60) (hR : ∀ a H1, rSortS wd [.ref a] H1 Qv → R (.ref a) H1)
    (k : ∀ (ys : List Str) p G' H', ys.Pairwise leS → ys.Nodup → (∀ z, z ∈ ys ↔ z ∈ zs) → Wd e G' H' M → Same G G' → Same H H' → G' p = some (.lst (ys.map V.str)) → Qv (.ref p) H') : rSetLS K wd [.ref l] H R := by
  refine ⟨l, zs, rfl, h, by omega, fun us sa mem nd hsa => hR _ _ ?_⟩
  have w1 := wd_lay (o := SetS wd sa us) w hsa setS_nt
  refine ⟨sa, us, rfl, upd_same, fun ys p h1 h2 h3 => ?_⟩
  have w2 := wd_lay (o := .lst (ys.map V.str)) w1 h3 (by intro ps z; cases z)
  exact k ys p _ _ h2 (h1.nodup_iff.mpr nd) (fun z => by rw [h1.mem_iff, mem z]) w2 ((same_upd (w.g hsa)).trans (same_upd (w1.g h3))) ((same_upd hsa).trans (same_upd h3)) upd_same
/-- two rising lists of the same texts are equal -/
theorem leS_set {xs ys : List Str} (h1 : xs.Pairwise leS) (h2 : ys.Pairwise leS) (n1 : xs.Nodup) (n2 : ys.Nodup) (h : ∀ z, z ∈ xs ↔ z ∈ ys) : xs = ys := leS_one ((List.perm_ext_iff_of_nodup n1 n2).mpr h) h1 h2
end Q
namespace Q
open PySem PySem.Spec PyProof.Rows L2
end Q
namespace Q
open PySem PySem.Spec PyProof.Rows L2
def propAllB (K : PySem.W.Frag) (CL : Nat → Addr) (C : Addr) (f : Str) : Bool := propB K C f && (List.range 10).all fun i => He.eqO (PySem.W.findIn K (.ref (CL i)) f) (some (some (.ref (He.ma K C f))))
theorem propAll_ok {K : PySem.W.Frag} {CL : Nat → Addr} {C : Addr} {f : Str} (h : propAllB K CL C f = true) : ∀ i, i < 10 → PropOf K (CL i) f (He.ma K C f) (getterOf K (He.ma K C f)) := by
  obtain ⟨h1, h2⟩ := He.ba h
  have p := propB_ok h1
  exact fun i hi => ⟨He.eqO_ok (List.all_eq_true.mp h2 i (List.mem_range.mpr hi)), p.get, p.tak, p.rec_⟩
/-- the tools of a row, ascending -/
def ToolsOf (i : Nat) (as : List V) (ys : List Str) : Prop := ys.Pairwise leS ∧ ys.Nodup ∧ ∀ z, z ∈ ys ↔ V.str z ∈ rowNamed (sgN i) as
theorem tools_one {i : Nat} {as : List V} {xs ys : List Str} (h1 : ToolsOf i as xs) (h2 : ToolsOf i as ys) : xs = ys := leS_set h1.1 h2.1 h1.2.1 h2.2.1 fun z => (h1.2.2 z).trans (h2.2.2 z).symm
def spRowTools (K : PySem.W.Frag) (CL : Nat → Addr) : Sp := fun vs H Q _ => ∃ (G : Hp) (a : Addr) (i : Nat) (as : List V), vs = [.ref a] ∧ Gh G H ∧ RowOf K CL G a i as ∧ Ret G H (fun v G' => ∃ p ys, v = .ref p ∧ G' p = some (.tup (ys.map V.str)) ∧ ToolsOf i as ys) Q
section
variable {K : PySem.W.Frag} {CL : Nat → Addr} {e : En} {G H : Hp} {M : List Addr} {a t : Addr} {i : Nat} {as : List V} {Q : VK} {E : XK}
theorem u_rowTools (w : Wd e G H M) (h : RowOf K CL G a i as) (k : ∀ p ys G' H', Wd e G' H' M → Same G G' → Same H H' → G' p = some (.tup (ys.map V.str)) → ToolsOf i as ys → Q (.ref p) H') : spRowTools K CL [.ref a] H Q E :=
  ⟨G, a, i, as, rfl, w.gh, h, ret_use w fun v G' H' w' s1 s2 ⟨p, ys, e1, h1, h2⟩ => by subst e1; exact k p ys G' H' w' s1 s2 h1 h2⟩
end
theorem named_in {i : Nat} {as : List V} (sg : SgAll (sgN i) as) : ∃ zs : List Str, rowNamed (sgN i) as = zs.map V.str ∧ ∀ z, z ∈ zs ↔ V.str z ∈ rowNamed (sgN i) as := by
  have key : ∀ l : List V, (∀ v ∈ l, ∃ z, v = V.str z ∧ nmOk z = true) → ∃ zs : List Str, l = zs.map V.str := by
    intro l
    induction l with
    | nil => exact fun _ => ⟨[], rfl⟩
    | cons v l ih =>
      intro h
      obtain ⟨z, rfl, _⟩ := h v List.mem_cons_self
      obtain ⟨zs, rfl⟩ := ih fun v hv => h v (List.mem_cons_of_mem _ hv)
      exact ⟨z :: zs, rfl⟩
  obtain ⟨zs, e⟩ := key _ (named_strs sg)
  refine ⟨zs, e, fun z => ?_⟩
  rw [e, List.mem_map]
  exact ⟨fun h => ⟨z, h, rfl⟩, fun ⟨y, h, q⟩ => by cases q; exact h⟩
end Q
namespace Q
open PySem PySem.Spec PyProof.Rows L2
end Q
namespace Q
open PySem PySem.Spec PyProof.Rows L2
section
variable {K : PySem.W.Frag} {G : Hp} {as : List V}
theorem tools_few {i : Nat} {ys : List Str} (hi : i < 10) (sg : SgAll (sgN i) as) (h : ToolsOf i as ys) : (ys.map V.str).length ≤ 60 := by
  obtain ⟨zs, ez, mz⟩ := named_in sg
  have few := named_few hi sg
  rw [ez, List.length_map] at few
  rw [List.length_map]
  have := nd_len h.2.1 (ys := zs) fun x hx => (mz x).mpr ((h.2.2 x).mp hx)
  omega
end
end Q
namespace Q
open PySem PySem.Spec PyProof.Rows L2
end Q
namespace Q
open PySem PySem.Spec PyProof.Rows L2
end Q
namespace Q
open PySem PySem.Spec PyProof.Rows L2
def tAnyR (f : Nat → TE) : TE := fun σ H Q => ∃ i, i < 10 ∧ f i σ H Q
theorem pe_anyR {X : Cx} {e : Expr} {f : Nat → TE} (h : ∀ i, i < 10 → PE X e (f i)) : PE X e (tAnyR f) := by
  refine ⟨fun pins s σ H Q I q => ?_⟩
  obtain ⟨i, hi, q⟩ := q
  exact (h i hi).run pins s σ H Q I q
abbrev Tri := Str × Int × Bool
def rowPairs (i : Nat) (as : List V) (ls : List Int) : List (Tri × Tri) := match i, as with
  | 1, [.str t, .int m, .str b] => [((t, m, true), (b, m, false))]
  | 2, [.str t, .int m, .bl s] => [((t, m, !s), (t, m, !s))]
  | 3, [.str t] => ls.map fun l => ((t, l, false), (t, l, false))
  | 4, [.str t, .int m, .str b] => [((b, m, true), (t, m, false))]
  | 5, [.str t, .int m, .str b] => [((b, m, true), (t, m, true))]
  | 6, [.str x, .int m, .str y, .int l] => [((x, m, true), (y, l, false)), ((x, m, false), (y, l, true))]
  | 7, [.str x, .int m, .str y, .int l] => [((x, m, true), (y, l, true))]
  | 8, [.str x, .int m, .str y, .int l] => [((x, m, false), (y, l, false))]
  | 9, [.str x, .int m, .str y, .int l] => [((x, m, true), (y, l, false))]
  | _, _ => []
def lastsT (bt : List (Str × List Int)) (as : List V) : List Int := match as with
  | .str t :: _ => ((nsOf bt t).map lastsOf).getD []
  | _ => []
def goneOf (ys : List Str) (bt : List (Str × List Int)) : Option Str := ys.find? fun z => !decide (z ∈ bt.map (·.1))
def TwoOf (C : Addr) (G : Hp) (p : Addr) (t : Tri × Tri) : Prop := ∃ a b, G p = some (.tup [.ref a, .ref b]) ∧ SayAt C G a t.1.1 t.1.2.1 t.1.2.2 ∧ SayAt C G b t.2.1 t.2.2.1 t.2.2.2
theorem TwoOf.same {C p : Addr} {G G' : Hp} {t : Tri × Tri} (h : TwoOf C G p t) (s : Same G G') : TwoOf C G' p t := by
  obtain ⟨a, b, h1, h2, h3⟩ := h
  exact ⟨a, b, s _ _ h1, h2.same s, h3.same s⟩
def TwoAt (C : Addr) (G : Hp) (ps : List Addr) (ts : List (Tri × Tri)) : Prop := ps.length = ts.length ∧ ∀ (k : Nat) (p : Addr) (t : Tri × Tri), ps[k]? = some p → ts[k]? = some t → TwoOf C G p t
theorem TwoAt.same {C : Addr} {G G' : Hp} {ps : List Addr} {ts : List (Tri × Tri)} (h : TwoAt C G ps ts) (s : Same G G') : TwoAt C G' ps ts := ⟨h.1, fun k p t h1 h2 => (h.2 k p t h1 h2).same s⟩
theorem TwoAt.nil {C : Addr} {G : Hp} : TwoAt C G [] [] := ⟨rfl, fun k p t h => by simp at h⟩
theorem TwoAt.snoc {C p : Addr} {G : Hp} {ps : List Addr} {ts : List (Tri × Tri)} {t : Tri × Tri} (h : TwoAt C G ps ts) (q : TwoOf C G p t) : TwoAt C G (ps ++ [p]) (ts ++ [t]) := by
  refine ⟨by simp [h.1], fun k p' t' h1 h2 => ?_⟩
  rcases Nat.lt_or_ge k ps.length with c | c
  · rw [List.getElem?_append_left c] at h1
    rw [List.getElem?_append_left (by rw [← h.1]; exact c)] at h2
    exact h.2 k p' t' h1 h2
  · rw [List.getElem?_append_right c] at h1
    rw [List.getElem?_append_right (by rw [← h.1]; exact c)] at h2
    have : k - ps.length = 0 := by
      have := (List.getElem?_eq_some_iff.mp h1).1
      simp at this
      omega
    rw [this] at h1
    rw [← h.1, this] at h2
    cases h1
    cases h2
    exact q
theorem TwoAt.one {C p : Addr} {G : Hp} {t : Tri × Tri} (q : TwoOf C G p t) : TwoAt C G [p] [t] := TwoAt.nil.snoc q
theorem TwoAt.two {C p q : Addr} {G : Hp} {t u : Tri × Tri} (h1 : TwoOf C G p t) (h2 : TwoOf C G q u) : TwoAt C G [p, q] [t, u] := (TwoAt.one h1).snoc h2
def BtFine (bt : List (Str × List Int)) : Prop := ∀ p ∈ bt, p.2.length ≤ 1000 ∧ p.2 ≠ [] ∧ p.2.Pairwise (· < ·) ∧ ∀ k ∈ p.2, 0 ≤ k ∧ k ≤ 1000000000000000000000000000000
def spNeedTools (K : PySem.W.Frag) (CL : Nat → Addr) (C Ct : Addr) : Sp := fun vs H Q E => ∃ (G : Hp) (a : Addr) (i : Nat) (as : List V) (lv : Addr) (bt : List (Str × List Int)) (ys : List Str), vs = [.ref a, .ref lv] ∧ Gh G H ∧ RowOf K CL G a i as ∧ LivesAt C G lv bt ∧ ToolsOf i as ys ∧
  (goneOf ys bt = none → Ret G H (fun v _ => v = .non) Q) ∧ ∀ z, goneOf ys bt = some z → RetX G H Ct "tool" (.str z) E
def spExcl : Sp := fun vs H Q _ => ∃ (G : Hp) (a : Addr), vs = [.ref a] ∧ Gh G H ∧ Ret G H (fun v G' => ∃ p, v = .ref p ∧ G' p = some (.tup [.ref a, .ref a])) Q
def spTwo (K : PySem.W.Frag) (CL : Nat → Addr) (C Cy Ct : Addr) : Sp := fun vs H Q E => ∃ (G : Hp) (a : Addr) (i : Nat) (as : List V) (lv : Addr) (bt : List (Str × List Int)) (ys : List Str) (b1 b2 : Bool), vs = [.ref a, .ref lv, .bl b1, .bl b2] ∧ 6 ≤ i ∧ Gh G H ∧ RowOf K CL G a i as ∧ LivesAt C G lv bt ∧ ToolsOf i as ys ∧
  (goneOf ys bt = none → ∀ x m y l, as = [.str x, .int m, .str y, .int l] → Ret G H (fun v G' => ∃ p, v = .ref p ∧ TwoOf Cy G' p ((x, m, b1), (y, l, b2))) Q) ∧ ∀ z, goneOf ys bt = some z → RetX G H Ct "tool" (.str z) E
def spPairs (K : PySem.W.Frag) (CL : Nat → Addr) (C Cy Ct : Addr) (i : Nat) : Sp := fun vs H Q E => ∃ (G : Hp) (a : Addr) (as : List V) (lv : Addr) (bt : List (Str × List Int)) (ys : List Str), vs = [.ref a, .ref lv] ∧ Gh G H ∧ RowOf K CL G a i as ∧ LivesAt C G lv bt ∧ ToolsOf i as ys ∧ BtFine bt ∧
  (goneOf ys bt = none → Ret G H (fun v G' => ∃ p ps, v = .ref p ∧ G' p = some (.tup (ps.map V.ref)) ∧ TwoAt Cy G' ps (rowPairs i as (lastsT bt as))) Q) ∧ ∀ z, goneOf ys bt = some z → RetX G H Ct "tool" (.str z) E
section
variable {K : PySem.W.Frag} {CL : Nat → Addr} {C Cy Ct : Addr} {e : En} {G H : Hp} {M : List Addr} {a lv : Addr} {i : Nat} {as : List V} {bt : List (Str × List Int)} {ys : List Str} {b1 b2 : Bool} {Q : VK} {E : XK}
theorem u_needTools (w : Wd e G H M) (h : RowOf K CL G a i as) (hL : LivesAt C G lv bt) (ht : ToolsOf i as ys) (good : goneOf ys bt = none → ∀ G' H', Wd e G' H' M → Same G G' → Same H H' → Q .non H')
    (bad : ∀ z, goneOf ys bt = some z → ∀ d G' H', Wd e G' H' M → Same G G' → Same H H' → G' d = some (.xd [("tool", .str z)]) → E (.ref Ct) (some d) H') : spNeedTools K CL C Ct [.ref a, .ref lv] H Q E :=
  ⟨G, a, i, as, lv, bt, ys, rfl, w.gh, h, hL, ht, fun n => ret_use w fun v G' H' w' s1 s2 e1 => by subst e1; exact good n G' H' w' s1 s2, fun z hz => retX_use w (bad z hz)⟩
theorem u_excl (w : Wd e G H M) (k : ∀ p G' H', Wd e G' H' M → Same G G' → Same H H' → G' p = some (.tup [.ref a, .ref a]) → Q (.ref p) H') : spExcl [.ref a] H Q E :=
  ⟨G, a, rfl, w.gh, ret_use w fun v G' H' w' s1 s2 ⟨p, e1, h1⟩ => by subst e1; exact k p G' H' w' s1 s2 h1⟩
theorem u_two {x y : Str} {m l : Int} (w : Wd e G H M) (hi : 6 ≤ i) (h : RowOf K CL G a i [.str x, .int m, .str y, .int l]) (hL : LivesAt C G lv bt) (ht : ToolsOf i [.str x, .int m, .str y, .int l] ys) (good : goneOf ys bt = none → ∀ p G' H', Wd e G' H' M → Same G G' → Same H H' → TwoOf Cy G' p ((x, m, b1), (y, l, b2)) → Q (.ref p) H')
    (bad : ∀ z, goneOf ys bt = some z → ∀ d G' H', Wd e G' H' M → Same G G' → Same H H' → G' d = some (.xd [("tool", .str z)]) → E (.ref Ct) (some d) H') : spTwo K CL C Cy Ct [.ref a, .ref lv, .bl b1, .bl b2] H Q E :=
  ⟨G, a, i, _, lv, bt, ys, b1, b2, rfl, hi, w.gh, h, hL, ht, fun n x' m' y' l' e0 => by
    cases e0
    exact ret_use w fun v G' H' w' s1 s2 ⟨p, e1, h1⟩ => by subst e1; exact good n p G' H' w' s1 s2 h1, fun z hz => retX_use w (bad z hz)⟩
theorem u_pairs (w : Wd e G H M) (h : RowOf K CL G a i as) (hL : LivesAt C G lv bt) (ht : ToolsOf i as ys) (hb : BtFine bt) (good : goneOf ys bt = none → ∀ p ps G' H', Wd e G' H' M → Same G G' → Same H H' → G' p = some (.tup (ps.map V.ref)) → TwoAt Cy G' ps (rowPairs i as (lastsT bt as)) → Q (.ref p) H')
    (bad : ∀ z, goneOf ys bt = some z → ∀ d G' H', Wd e G' H' M → Same G G' → Same H H' → G' d = some (.xd [("tool", .str z)]) → E (.ref Ct) (some d) H') : spPairs K CL C Cy Ct i [.ref a, .ref lv] H Q E :=
  ⟨G, a, as, lv, bt, ys, rfl, w.gh, h, hL, ht, hb, fun n => ret_use w fun v G' H' w' s1 s2 ⟨p, ps, e1, h1, h2⟩ => by subst e1; exact good n p ps G' H' w' s1 s2 h1 h2, fun z hz => retX_use w (bad z hz)⟩
end
theorem flat_strs : ∀ l : List Str, (l.map V.str).all flatV = true
  | [] => rfl
  | z :: l => by rw [List.map_cons, List.all_cons, flat_strs l]; rfl
theorem sg_t {as : List V} (h : SgAll (sgN 3) as) : ∃ t, as = [.str t] ∧ nmOk t = true := by
  obtain ⟨a, rfl⟩ := len_1 h.1
  have h1 := h.2 (.n, a) (by simp [sgN, sgsT])
  obtain ⟨t, rfl⟩ := name_text h1
  exact ⟨t, rfl, h1⟩
theorem sg_tmt {i : Nat} {as : List V} (hi : i = 1 ∨ i = 4 ∨ i = 5) (h : SgAll (sgN i) as) : ∃ t m b, as = [.str t, .int m, .str b] ∧ Right t m ∧ Right b m := by
  have e : ∃ l : Int, 0 ≤ l ∧ sgN i = [.n, .m l, .n] := by
    rcases hi with rfl | rfl | rfl
    · exact ⟨1, by decide, rfl⟩
    · exact ⟨0, by decide, rfl⟩
    · exact ⟨0, by decide, rfl⟩
  obtain ⟨l, l0, e⟩ := e
  rw [e] at h
  obtain ⟨a, b, c, rfl⟩ := lk_3 h.1
  have h1 := h.2 (.n, a) (by simp)
  have h2 := h.2 (.m l, b) (by simp)
  have h3 := h.2 (.n, c) (by simp)
  obtain ⟨t, rfl⟩ := name_text h1
  obtain ⟨m, rfl, m0, m1⟩ := mom_num h2
  obtain ⟨u, rfl⟩ := name_text h3
  exact ⟨t, m, u, rfl, ⟨h1, by omega, m1⟩, ⟨h3, by omega, m1⟩⟩
theorem sg_tms {as : List V} (h : SgAll (sgN 2) as) : ∃ t m b, as = [.str t, .int m, .bl b] ∧ Right t m := by
  obtain ⟨a, b, c, rfl⟩ := lk_3 h.1
  have h1 := h.2 (.n, a) (by simp [sgN, sgsT])
  have h2 := h.2 (.m 0, b) (by simp [sgN, sgsT])
  have h3 := h.2 (.t, c) (by simp [sgN, sgsT])
  obtain ⟨t, rfl⟩ := name_text h1
  obtain ⟨m, rfl, m0, m1⟩ := mom_num h2
  obtain ⟨u, rfl⟩ := bool_is h3
  exact ⟨t, m, u, rfl, ⟨h1, m0, m1⟩⟩
theorem sg_tm {as : List V} (h : SgAll (sgN 0) as) : ∃ t m, as = [.str t, .int m] ∧ Right t m := by
  have hl : as.length = 2 := h.1
  match as, hl with
  | [a, b], _ =>
    have h1 := h.2 (.n, a) (by simp [sgN, sgsT])
    have h2 := h.2 (.m 1, b) (by simp [sgN, sgsT])
    obtain ⟨t, rfl⟩ := name_text h1
    obtain ⟨m, rfl, m0, m1⟩ := mom_num h2
    exact ⟨t, m, rfl, ⟨h1, by omega, m1⟩⟩
theorem sg_tmtm {i : Nat} {as : List V} (h6 : 6 ≤ i) (hi : i < 10) (h : SgAll (sgN i) as) : ∃ x m y l, as = [.str x, .int m, .str y, .int l] ∧ Right x m ∧ Right y l := by
  have e : sgN i = [.n, .m 0, .n, .m 0] := by rcases (by omega : i = 6 ∨ i = 7 ∨ i = 8 ∨ i = 9) with rfl | rfl | rfl | rfl <;> rfl
  rw [e] at h
  obtain ⟨a, b, c, d, rfl⟩ := lk_4 h.1
  have h1 := h.2 (.n, a) (by simp)
  have h2 := h.2 (.m 0, b) (by simp)
  have h3 := h.2 (.n, c) (by simp)
  have h4 := h.2 (.m 0, d) (by simp)
  obtain ⟨t, rfl⟩ := name_text h1
  obtain ⟨m, rfl, m0, m1⟩ := mom_num h2
  obtain ⟨u, rfl⟩ := name_text h3
  obtain ⟨l, rfl, l0, l1⟩ := mom_num h4
  exact ⟨t, m, u, l, rfl, ⟨h1, m0, m1⟩, ⟨h3, l0, l1⟩⟩
theorem tools_t {t : Str} {ys : List Str} (h : ToolsOf 3 [.str t] ys) : ys = [t] := by
  refine tools_one h ⟨List.pairwise_singleton _ _, by simp, fun z => ?_⟩
  show z ∈ [t] ↔ V.str z ∈ [V.str t]
  simp
theorem gone_t {t : Str} {bt : List (Str × List Int)} (h : nsOf bt t = none) : goneOf [t] bt = some t := by
  unfold goneOf
  rw [List.find?_cons_of_pos]
  rw [decide_eq_false]
  · rfl
  · intro m
    obtain ⟨ns, e⟩ := nsOf_in m
    rw [h] at e
    cases e
theorem gone_n {t : Str} {bt : List (Str × List Int)} {ns : List Int} (h : nsOf bt t = some ns) : goneOf [t] bt = none := by
  unfold goneOf
  rw [List.find?_eq_none]
  intro y hy
  rw [List.mem_singleton.mp hy, decide_eq_true (List.mem_map.mpr ⟨_, nsOf_mem h, rfl⟩)]
  decide
theorem lasts_bd {ns : List Int} (asc : ns.Pairwise (· < ·)) (bd : ∀ k ∈ ns, 0 ≤ k ∧ k ≤ 1000000000000000000000000000000) : ∀ l ∈ lastsOf ns, 0 ≤ l ∧ l ≤ 1000000000000000000000000000000 := by
  intro l hl
  unfold lastsOf at hl
  rcases List.mem_append.mp hl with hl | hl
  · obtain ⟨k, hk, rfl⟩ := List.mem_map.mp hl
    cases ns with
    | nil => simp at hk
    | cons a r =>
      have hk : k ∈ r := hk
      have h1 := (List.pairwise_cons.mp asc).1 k hk
      have h2 := bd a List.mem_cons_self
      have h3 := bd k (List.mem_cons_of_mem _ hk)
      omega
  · rw [List.mem_singleton.mp hl]
    omega
end Q
namespace Q
open PySem PySem.Spec PyProof.Rows L2
def TriAt (G : Hp) (a : Addr) (t : Tri) : Prop := G a = some (.tup [.str t.1, .int t.2.1, .bl t.2.2])
def DuoAt (G : Hp) (p : Addr) (t : Tri × Tri) : Prop := ∃ a b, G p = some (.tup [.ref a, .ref b]) ∧ TriAt G a t.1 ∧ TriAt G b t.2
theorem DuoAt.same {G G' : Hp} {p : Addr} {t : Tri × Tri} (h : DuoAt G p t) (s : Same G G') : DuoAt G' p t := by
  obtain ⟨a, b, h1, h2, h3⟩ := h
  exact ⟨a, b, s _ _ h1, s _ _ h2, s _ _ h3⟩
inductive DuosAt (G : Hp) : List Addr → List (Tri × Tri) → Prop
  | nil : DuosAt G [] []
  | cons {p : Addr} {t : Tri × Tri} {ps : List Addr} {ts : List (Tri × Tri)} (h : DuoAt G p t) (r : DuosAt G ps ts) : DuosAt G (p :: ps) (t :: ts)
section
variable {G G' : Hp} {ps : List Addr} {ts : List (Tri × Tri)} {p : Addr} {t : Tri × Tri}
theorem DuosAt.same (h : DuosAt G ps ts) (s : Same G G') : DuosAt G' ps ts := by
  induction h with
  | nil => exact .nil
  | cons h _ ih => exact .cons (h.same s) ih
theorem DuosAt.snoc (r : DuosAt G ps ts) (h : DuoAt G p t) : DuosAt G (ps ++ [p]) (ts ++ [t]) := by
  induction r with
  | nil => exact .cons h .nil
  | cons h2 _ ih => exact .cons h2 ih
theorem DuosAt.len (h : DuosAt G ps ts) : ps.length = ts.length := by
  induction h with
  | nil => rfl
  | cons _ _ ih => simp [ih]
end
def triD (t : Tri) : PyData := .tuple [.str t.1, .int t.2.1, .bool t.2.2]
def duoD (t : Tri × Tri) : PyData := .tuple [triD t.1, triD t.2]
theorem tri_dq {K : PySem.W.Frag} {G : Hp} {a : Addr} {t : Tri} (h : TriAt G a t) : Dq K G (.ref a) (triD t) := .tup (SqT.of h) (.cons (.str _) (.cons (.int _) (.cons (.bl _) .nil)))
theorem duos_dq {K : PySem.W.Frag} {G : Hp} {ps : List Addr} {ts : List (Tri × Tri)} (h : DuosAt G ps ts) : DqAll K G (ps.map V.ref) (ts.map duoD) := by
  induction h with
  | nil => exact .nil
  | cons h _ ih =>
    obtain ⟨a, b, h1, h2, h3⟩ := h
    exact .cons (.tup (SqT.of h1) (.cons (tri_dq h2) (.cons (tri_dq h3) .nil))) ih
theorem tup_sh (ds : List PyData) : (PyData.tuple ds).showable = PyData.showableAll ds := by simp only [PyData.showable]
theorem tri_sh {t : Tri} (h : Right t.1 t.2.1) : (triD t).showable = true ∧ (triD t).depth ≤ 1 ∧ (triD t).shown.length ≤ 3010 := by
  obtain ⟨z, i, b⟩ := t
  obtain ⟨h1, h2, h3⟩ : nmOk z = true ∧ 0 ≤ i ∧ i ≤ 1000000000000000000000000000000 := h
  have o1 : Odd default (fun _ => none) (V.str z) (.str z) := odd_name h1
  have o2 : Odd default (fun _ => none) (V.int i) (.int i) := odd_num (by omega)
  have o3 : Odd default (fun _ => none) (V.bl b) (.bool b) := odd_bl
  have a1 := o1.sh; have a2 := o2.sh; have a3 := o3.sh
  have c1 := o1.sz; have c2 := o2.sz; have c3 := o3.sz
  have e := sh_tup [PyData.str z, .int i, .bool b] (m := 3000) (by simp only [List.map_cons, List.map_nil, List.sum_cons, List.sum_nil]; omega)
  refine ⟨by rw [triD, tup_sh]; simp only [PyData.showableAll, a1, a2, a3, Bool.and_true], by simp [triD, PyData.depth, PyData.depthAll], ?_⟩
  simp only [List.length_cons, List.length_nil] at e
  show (PyData.tuple [PyData.str z, .int i, .bool b]).shown.length ≤ 3010
  omega
def DuoOk (t : Tri × Tri) : Prop := Right t.1.1 t.1.2.1 ∧ Right t.2.1 t.2.2.1
theorem duo_sh {t : Tri × Tri} (h : DuoOk t) : (duoD t).showable = true ∧ (duoD t).depth ≤ 2 ∧ (duoD t).shown.length ≤ 6040 := by
  obtain ⟨a1, a2, a3⟩ := tri_sh h.1
  obtain ⟨b1, b2, b3⟩ := tri_sh h.2
  have e := sh_tup [triD t.1, triD t.2] (m := 6020) (by simp only [List.map_cons, List.map_nil, List.sum_cons, List.sum_nil]; omega)
  refine ⟨by simp [duoD, PyData.showable, PyData.showableAll, a1, b1], by simp only [duoD, PyData.depth, PyData.depthAll]; omega, ?_⟩
  simp only [List.length_cons, List.length_nil] at e
  show (PyData.tuple [triD t.1, triD t.2]).shown.length ≤ 6040
  omega
theorem duos_sums : ∀ {ts : List (Tri × Tri)}, (∀ t ∈ ts, DuoOk t) → PyData.showableAll (ts.map duoD) = true ∧ PyData.depthAll (ts.map duoD) ≤ 10 ∧ ((ts.map duoD).map fun d => d.shown.length).sum ≤ 6040 * ts.length
  | [], _ => ⟨by simp [PyData.showableAll], by simp [PyData.depthAll], by simp⟩
  | t :: r, h => by
    obtain ⟨i1, i2, i3⟩ := duos_sums (ts := r) fun y hy => h y (List.mem_cons_of_mem _ hy)
    obtain ⟨a, b, c⟩ := duo_sh (h t List.mem_cons_self)
    refine ⟨by simp [PyData.showableAll, a, i1], ?_, ?_⟩
    · simp only [List.map_cons, PyData.depthAll]
      omega
    · simp only [List.map_cons, List.sum_cons, List.length_cons]
      omega
theorem duos_show {ts : List (Tri × Tri)} (h : ∀ t ∈ ts, DuoOk t) (hl : ts.length ≤ 60) : (PyData.list (ts.map duoD)).showable = true ∧ (PyData.list (ts.map duoD)).depth ≤ 60 ∧ (PyData.list (ts.map duoD)).shown.length ≤ sizeLine := by
  obtain ⟨i1, i2, i3⟩ := duos_sums h
  have f1 := sh_list (ts.map duoD) i3
  rw [List.length_map] at f1
  exact ⟨by simp only [PyData.showable]; exact i1, by simp only [PyData.depth]; omega, sz_m (by omega)⟩
/-- the last moments of a tool's lives, by the beginnings that were drawn -/
def LastsB (bt : List (Str × List Int)) (u : Str) (ls : List Int) : Prop := ∃ ns ms : List Int, nsOf bt u = some ns ∧ ls = ms.map (· - 1) ++ [1000000000000000000000000000000] ∧ ms.Pairwise (· < ·) ∧ ∀ k, k ∈ ms ↔ k ∈ ns
def spLasts13 : Sp := fun vs H Q _ => ∃ (G : Hp) (d : Addr) (u : Str) (bt : List (Str × List Int)), vs = [.ref d, .str u] ∧ Gh G H ∧ BgnAt G d bt ∧ u ∈ bt.map (·.1) ∧ Ret G H (fun v G' => ∃ l ls, v = .ref l ∧ G' l = some (.lst (ls.map V.int)) ∧ LastsB bt u ls) Q
def spPairsD : Sp := fun vs H Q _ => ∃ (G : Hp) (t d : Addr) (i : Nat) (as : List V) (bt : List (Str × List Int)), vs = [.ref t, .ref d] ∧ Gh G H ∧ TupRow G t i as ∧ BgnAt G d bt ∧ (∀ u, as = [.str u] → u ∈ bt.map (·.1)) ∧
  Ret G H (fun v G' => ∃ l ps ls, v = .ref l ∧ G' l = some (.lst (ps.map V.ref)) ∧ DuosAt G' ps (rowPairs i as ls) ∧ ∀ u, as = [.str u] → LastsB bt u ls) Q
def spStarts13 : Sp := fun vs H Q _ => ∃ (G : Hp) (p c l : Addr) (n : Nat) (ns : List Str), vs = [.ref p, .ref l] ∧ Gh G H ∧ G p = none ∧ Cells c G ∧ PenAt p c n H ∧ n ≤ 1040000 ∧ G l = some (.lst (ns.map V.str)) ∧ ns.length ≤ 3 ∧ (∀ z ∈ ns, nmOk z = true) ∧
  RetP p c (n + 100) G H (fun v G' => ∃ d bt, v = .ref d ∧ BgnAt G' d bt ∧ (∀ q ∈ bt, q.2.length ≤ 4) ∧ ∀ z ∈ ns, z ∈ bt.map (·.1)) Q
def spTold13 (C : Addr) : Sp := fun vs H Q _ => ∃ (G : Hp) (q : Addr) (ps : List Addr) (ts : List (Tri × Tri)), vs = [.ref q] ∧ Gh G H ∧ G q = some (.tup (ps.map V.ref)) ∧ TwoAt C G ps ts ∧ ts.length ≤ 60 ∧ Ret G H (fun v G' => ∃ l qs, v = .ref l ∧ G' l = some (.lst (qs.map V.ref)) ∧ DuosAt G' qs ts) Q
section
variable {e : En} {G H : Hp} {M : List Addr} {p c l t d q C : Addr} {n i : Nat} {as : List V} {bt : List (Str × List Int)} {ns : List Str} {u : Str} {ps : List Addr} {ts : List (Tri × Tri)} {Q : VK} {E : XK}
theorem u_lasts13 (w : Wd e G H M) (h : BgnAt G d bt) (hu : u ∈ bt.map (·.1)) (k : ∀ l ls G' H', Wd e G' H' M → Same G G' → Same H H' → G' l = some (.lst (ls.map V.int)) → LastsB bt u ls → Q (.ref l) H') : spLasts13 [.ref d, .str u] H Q E :=
  ⟨G, d, u, bt, rfl, w.gh, h, hu, ret_use w fun v G' H' w' s1 s2 ⟨l, ls, e1, h1, h2⟩ => by subst e1; exact k l ls G' H' w' s1 s2 h1 h2⟩
theorem u_pairsD (w : Wd e G H M) (ht : TupRow G t i as) (h : BgnAt G d bt) (hu : ∀ u, as = [.str u] → u ∈ bt.map (·.1)) (k : ∀ l ps ls G' H', Wd e G' H' M → Same G G' → Same H H' → G' l = some (.lst (ps.map V.ref)) → DuosAt G' ps (rowPairs i as ls) → (∀ u, as = [.str u] → LastsB bt u ls) → Q (.ref l) H') : spPairsD [.ref t, .ref d] H Q E :=
  ⟨G, t, d, i, as, bt, rfl, w.gh, ht, h, hu, ret_use w fun v G' H' w' s1 s2 ⟨l, ps, ls, e1, h1, h2, h3⟩ => by subst e1; exact k l ps ls G' H' w' s1 s2 h1 h2 h3⟩
theorem u_starts13 (w : Wd e G H M) (hm : p ∈ M) (hc : Cells c G) (P : PenAt p c n H) (hn : n ≤ 1040000) (hl : G l = some (.lst (ns.map V.str))) (h3 : ns.length ≤ 3) (ok : ∀ z ∈ ns, nmOk z = true)
    (k : ∀ d bt G' H', Wd e G' H' M → Same G G' → But p H H' → PenAt p c (n + 100) H' → BgnAt G' d bt → (∀ q ∈ bt, q.2.length ≤ 4) → (∀ z ∈ ns, z ∈ bt.map (·.1)) → Q (.ref d) H') : spStarts13 [.ref p, .ref l] H Q E :=
  ⟨G, p, c, l, n, ns, rfl, w.gh, (w.mu p hm).1, hc, P, hn, hl, h3, ok, retP_use w hm fun v G' H' w' s b P' ⟨d, bt, e1, h1, h2, h3⟩ => by subst e1; exact k d bt G' H' w' s b P' h1 h2 h3⟩
theorem u_told13 (w : Wd e G H M) (hq : G q = some (.tup (ps.map V.ref))) (ht : TwoAt C G ps ts) (hl : ts.length ≤ 60) (k : ∀ l qs G' H', Wd e G' H' M → Same G G' → Same H H' → G' l = some (.lst (qs.map V.ref)) → DuosAt G' qs ts → Q (.ref l) H') : spTold13 C [.ref q] H Q E :=
  ⟨G, q, ps, ts, rfl, w.gh, hq, ht, hl, ret_use w fun v G' H' w' s1 s2 ⟨l, qs, e1, h1, h2⟩ => by subst e1; exact k l qs G' H' w' s1 s2 h1 h2⟩
end
theorem u_livesB {K : PySem.W.Frag} {C Cn Cm d : Addr} {bt : List (Str × List Int)} {e : En} {G H : Hp} {M : List Addr} {Qv : VK} {E : XK} (w : Wd e G H M) (h : BgnAt G d bt)
    (k : ∀ a G' H' bL, Wd e G' H' M → Same G G' → Same H H' → LivesAt C G' a bL → LvOf bt bL → Qv (.ref a) H') : MakeGo C (spLives K C Cn Cm) [.ref d] E H Qv := by
  obtain ⟨od, kvs, hd, ls⟩ := h.ex
  have ok := h.ok
  have ek : kvs.map (fun kv => kV kv.1) = (bt.map (·.1)).map V.str := ls.keysL
  have bg : BegAt K G kvs (rowsB bt) := ls.beg
  refine u_lives w hd bg ok.rw.rowsOk ?_ (by rw [ls.len]; have := ok.few; omega) (fun ts p pw cls f v hf => ?_) fun ts p pw _ a G' H' bL w' s1 s2 hL hb => ?_
  · rw [bg.keysR, rowsB_fst]
    exact nodup_inr ok.nd
  · rw [ok.rw.fault p] at hf
    cases hf
  · exact k a G' H' bL w' s1 s2 hL (lvOf_rows ok.rw (by rw [rowsB_fst]) (rowsB_has ok.nd) p pw hb)
theorem lasts_one {bt bL : List (Str × List Int)} {u : Str} {ls : List Int} (h : LvOf bt bL) (hl : LastsB bt u ls) : ls = ((nsOf bL u).map lastsOf).getD [] := by
  obtain ⟨ns, ms, e, rfl, asc, mem⟩ := hl
  have m : u ∈ bL.map (·.1) := h.1.mem_iff.mpr (List.mem_map.mpr ⟨_, nsOf_mem e, rfl⟩)
  obtain ⟨ns', e'⟩ := nsOf_in m
  obtain ⟨ms', e2, asc', mem'⟩ := h.2.2 _ (nsOf_mem e')
  have e2 : ns' = 0 :: ms' := e2
  have mem' : ∀ k : Int, k ∈ ms' ↔ V.int k ∈ (((nsOf bt u).getD []).map V.int) := mem'
  rw [e] at mem'
  have : ms = ms' := ltI_one asc asc' fun k => by
    rw [mem, mem']
    show k ∈ ns ↔ V.int k ∈ ns.map V.int
    rw [List.mem_map]
    exact ⟨fun h => ⟨k, h, rfl⟩, fun ⟨y, h, q⟩ => by cases q; exact h⟩
  rw [e', e2, this]
  rfl
theorem pairs_one {bt bL : List (Str × List Int)} {i : Nat} {as : List V} {ls : List Int} (h : LvOf bt bL) (hl : ∀ u, as = [.str u] → LastsB bt u ls) : rowPairs i as ls = rowPairs i as (lastsT bL as) := by
  by_cases c : ∃ u, as = [.str u]
  · obtain ⟨u, rfl⟩ := c
    rw [lasts_one h (hl u rfl)]
    rfl
  · unfold rowPairs
    split <;> first | rfl | exact absurd ⟨_, rfl⟩ c
theorem lv_fine {bt bL : List (Str × List Int)} (h : LvOf bt bL) (ok : BgnOk bt) : BtFine bL := by
  intro q hq
  have lk := h.lvOk ok
  obtain ⟨j, hj⟩ := List.getElem?_of_mem hq
  obtain ⟨ms, e, asc, mem⟩ := h.2.2 q hq
  refine ⟨Nat.le_trans (lk.ks q hq).1 (by decide), by rw [e]; simp, ?_, (lk.ks q hq).2⟩
  rw [e]
  refine List.pairwise_cons.mpr ⟨fun k hk => ?_, asc⟩
  have m : q.1 ∈ bt.map (·.1) := h.1.mem_iff.mp (List.mem_map.mpr ⟨q, hq, rfl⟩)
  obtain ⟨ns, e'⟩ := nsOf_in m
  have z := (mem k).mp hk
  rw [e'] at z
  obtain ⟨y, hy, e2⟩ := List.mem_map.mp (show V.int k ∈ ns.map V.int from z)
  cases e2
  have := ((ok.ks _ (nsOf_mem e')).2 k hy).1
  omega
theorem putB_keys {bt : List (Str × List Int)} {s : Str} {ns : List Int} {z : Str} : z ∈ (putB bt s ns).map (·.1) ↔ z ∈ bt.map (·.1) ∨ z = s := by
  unfold putB
  split
  · rename_i h
    have e : (bt.map fun r => if r.1 = s then (r.1, ns) else r).map (·.1) = bt.map (·.1) := by
      rw [List.map_map]
      refine List.map_congr_left fun r _ => ?_
      show (if r.1 = s then (r.1, ns) else r).1 = r.1
      split <;> rfl
    rw [e]
    refine ⟨.inl, fun h2 => h2.elim id fun e => ?_⟩
    obtain ⟨r, hr, er⟩ := List.any_eq_true.mp h
    rw [e]
    exact List.mem_map.mpr ⟨r, hr, of_decide_eq_true er⟩
  · rw [List.map_append, List.mem_append]
    show _ ∨ z ∈ [s] ↔ _
    rw [List.mem_singleton]
theorem putB_old {bt : List (Str × List Int)} {s : Str} {ns : List Int} {z : Str} (h : z ∈ bt.map (·.1)) : z ∈ (putB bt s ns).map (·.1) := putB_keys.mpr (.inl h)
theorem putB_new {bt : List (Str × List Int)} {s : Str} {ns : List Int} : s ∈ (putB bt s ns).map (·.1) := putB_keys.mpr (.inr rfl)
theorem lasts_few {bt : List (Str × List Int)} {u : Str} {ls : List Int} (ok : BgnOk bt) (h : LastsB bt u ls) : ls.length ≤ 7 := by
  obtain ⟨ns, ms, e, rfl, asc, mem⟩ := h
  have lk := (ok.ks _ (nsOf_mem e)).1
  have lk : ns.length ≤ 6 := lk
  have := nd_len (asc.imp fun h => by omega) (ys := ns) fun x hx => (mem x).mp hx
  rw [List.length_append, List.length_map, List.length_singleton]
  omega
theorem dget_dk {H : Hp} {a : Addr} {kvs : List (Key × V)} {k : Key} {o : Option V} (e : H a = some (.dK kvs)) (h : valV kvs k = o) : DGet H a (kV k) o := by
  rw [← h]
  exact DGet.k e
def spDrawnN : Sp := fun vs H Q _ => ∃ (G : Hp) (p c cr lk : Addr) (n : Nat) (ns ks : List Str), vs = [.ref p, .ref cr, .ref lk] ∧ Gh G H ∧ G p = none ∧ Cells c G ∧ PenAt p c n H ∧ n ≤ 1040000 ∧ G cr = some (.lst (ns.map V.str)) ∧ ns ≠ [] ∧ ns.length ≤ 1000 ∧ (∀ z ∈ ns, nmOk z = true) ∧ G lk = some (.lst (ks.map V.str)) ∧ ks ≠ [] ∧ ks.length ≤ 1000 ∧ (∀ z ∈ ks, ∃ i, i < 10 ∧ z = kindN i) ∧
  RetP p c (n + 12) G H (fun v G' => ∃ (t : Addr) (i : Nat) (as : List V), v = .ref t ∧ i < 10 ∧ kindN i ∈ ks ∧ G' t = some (.tup (.str (kindN i) :: as)) ∧ SgAll (sgN i) as ∧ ∀ z, V.str z ∈ as → z ∈ ns) Q
theorem u_drawnN {e : En} {G H : Hp} {M : List Addr} {p c : Addr} {n : Nat} {Q : VK} {E : XK} {cr lk : Addr} {ns ks : List Str} (w : Wd e G H M) (hm : p ∈ M) (hc : Cells c G) (P : PenAt p c n H) (hn : n ≤ 1040000) (h1 : G cr = some (.lst (ns.map V.str))) (h2 : ns ≠ []) (h3 : ns.length ≤ 1000) (h4 : ∀ z ∈ ns, nmOk z = true) (h5 : G lk = some (.lst (ks.map V.str))) (h6 : ks ≠ []) (h7 : ks.length ≤ 1000) (h8 : ∀ z ∈ ks, ∃ i, i < 10 ∧ z = kindN i)
    (k : ∀ (t : Addr) (i : Nat) (as : List V) (G' H' : Hp), Wd e G' H' M → Same G G' → But p H H' → PenAt p c (n + 12) H' → i < 10 → kindN i ∈ ks → G' t = some (.tup (.str (kindN i) :: as)) → SgAll (sgN i) as → (∀ z, V.str z ∈ as → z ∈ ns) → Q (.ref t) H') : spDrawnN [.ref p, .ref cr, .ref lk] H Q E :=
  ⟨G, p, c, cr, lk, n, ns, ks, rfl, w.gh, (w.mu p hm).1, hc, P, hn, h1, h2, h3, h4, h5, h6, h7, h8, retP_use w hm fun v G' H' w' s b P' ⟨t, i, as, e1, e2, e3, e4, e5, e6⟩ => by subst e1; exact k t i as G' H' w' s b P' e2 e3 e4 e5 e6⟩
theorem in_crew {as : List V} {ns : List Str} {z1 z2 : Str} (h1 : z1 ∈ ns) (h2 : z2 ∈ ns) (h : ∀ z, V.str z ∈ as → z = z1 ∨ z = z2) : ∀ z, V.str z ∈ as → z ∈ ns := fun z hz => (h z hz).elim (fun e => by rw [e]; exact h1) fun e => by rw [e]; exact h2
theorem gone_none {ys : List Str} {bt bL : List (Str × List Int)} (h : LvOf bt bL) (hy : ∀ y ∈ ys, y ∈ bt.map (·.1)) : goneOf ys bL = none := by
  unfold goneOf
  rw [List.find?_eq_none]
  intro y hm
  rw [decide_eq_true (h.1.mem_iff.mpr (hy y hm))]
  decide
theorem leS_or {a b : Str} (h : ¬ leS a b) : leS b a := by
  rw [leS_k] at h ⊢
  have h : strKind.blt b.cps.toList a.cps.toList = true := by
    cases z : strKind.blt b.cps.toList a.cps.toList with
    | true => rfl
    | false => exact absurd z h
  exact KeyOrd.kle_of_klt h
open Classical in
theorem sorted_ex : ∀ zs : List Str, ∃ ys : List Str, ys.Pairwise leS ∧ ys.Nodup ∧ ∀ z, z ∈ ys ↔ z ∈ zs
  | [] => ⟨[], .nil, .nil, fun z => Iff.rfl⟩
  | z :: zs => by
    obtain ⟨ys, h1, h2, h3⟩ := sorted_ex zs
    by_cases m : z ∈ ys
    · exact ⟨ys, h1, h2, fun y => by rw [h3, List.mem_cons]; exact ⟨.inr, fun h => h.elim (fun e => by rw [e]; exact (h3 z).mp m) id⟩⟩
    · have f1 : ∀ y, y ∈ ys.filter (fun y => decide (leS y z)) ↔ y ∈ ys ∧ leS y z := fun y => by rw [List.mem_filter, decide_eq_true_iff]
      have f2 : ∀ y, y ∈ ys.filter (fun y => !decide (leS y z)) ↔ y ∈ ys ∧ ¬ leS y z := fun y => by rw [List.mem_filter]; simp
      refine ⟨ys.filter (fun y => decide (leS y z)) ++ z :: ys.filter (fun y => !decide (leS y z)), ?_, ?_, fun y => ?_⟩
      · refine List.pairwise_append.mpr ⟨h1.filter _, List.pairwise_cons.mpr ⟨fun y hy => leS_or ((f2 y).mp hy).2, h1.filter _⟩, fun x hx y hy => ?_⟩
        have hxz := ((f1 x).mp hx).2
        rcases List.mem_cons.mp hy with rfl | hy
        · exact hxz
        · exact leS_trans hxz (leS_or ((f2 y).mp hy).2)
      · refine List.pairwise_append.mpr ⟨h2.filter _, List.pairwise_cons.mpr ⟨fun y hy e => m (by rw [e]; exact ((f2 y).mp hy).1), h2.filter _⟩, fun x hx y hy e => ?_⟩
        rcases List.mem_cons.mp hy with rfl | hy
        · exact m (by rw [← e]; exact ((f1 x).mp hx).1)
        · exact ((f2 y).mp hy).2 (by rw [← e]; exact ((f1 x).mp hx).2)
      · rw [List.mem_append, List.mem_cons, f1, f2, List.mem_cons, ← h3]
        refine ⟨fun h => ?_, fun h => ?_⟩
        · rcases h with h | h | h
          · exact .inr h.1
          · exact .inl h
          · exact .inr h.1
        · rcases h with h | h
          · exact .inr (.inl h)
          · by_cases c : leS y z
            · exact .inl ⟨h, c⟩
            · exact .inr (.inr ⟨h, c⟩)
theorem tools_ex {i : Nat} {as : List V} (sg : SgAll (sgN i) as) : ∃ ys, ToolsOf i as ys := by
  obtain ⟨zs, _, mz⟩ := named_in sg
  obtain ⟨ys, a, b, c⟩ := sorted_ex zs
  exact ⟨ys, a, b, fun z => (c z).trans (mz z)⟩
theorem named_sub {i : Nat} {as : List V} (sg : SgAll (sgN i) as) {z : Str} (h : V.str z ∈ rowNamed (sgN i) as) : V.str z ∈ as := by
  rw [← named_filter sg] at h
  exact (List.mem_filter.mp h).1
theorem lastsB_fine {bt : List (Str × List Int)} {u : Str} {ls : List Int} (ok : BgnOk bt) (h : LastsB bt u ls) : ls.length ≤ 60 ∧ ∀ l ∈ ls, 0 ≤ l ∧ l ≤ 1000000000000000000000000000000 := by
  refine ⟨Nat.le_trans (lasts_few ok h) (by decide), fun l hl => ?_⟩
  obtain ⟨ns, ms, e, rfl, asc, mem⟩ := h
  rcases List.mem_append.mp hl with hl | hl
  · obtain ⟨k, hk, rfl⟩ := List.mem_map.mp hl
    have := (ok.ks _ (nsOf_mem e)).2 k ((mem k).mp hk)
    omega
  · rw [List.mem_singleton.mp hl]
    omega
theorem pairs_fine {i : Nat} {as : List V} {ls : List Int} (hi : i < 10) (sg : SgAll (sgN i) as) (hl : ∀ u, as = [.str u] → ls.length ≤ 60 ∧ ∀ l ∈ ls, 0 ≤ l ∧ l ≤ 1000000000000000000000000000000) : (rowPairs i as ls).length ≤ 60 ∧ ∀ t ∈ rowPairs i as ls, DuoOk t := by
  rcases (by omega : i = 0 ∨ i = 1 ∨ i = 2 ∨ i = 3 ∨ i = 4 ∨ i = 5 ∨ i = 6 ∨ i = 7 ∨ i = 8 ∨ i = 9) with rfl | rfl | rfl | rfl | rfl | rfl | rfl | rfl | rfl | rfl
  · obtain ⟨t, m, rfl, r1⟩ := sg_tm sg
    exact ⟨by simp [rowPairs], fun t ht => by simp [rowPairs] at ht⟩
  · obtain ⟨t, m, b, rfl, r1, r2⟩ := sg_tmt (by decide) sg
    exact ⟨by simp [rowPairs], fun t ht => by simp [rowPairs] at ht; rw [ht]; exact ⟨r1, r2⟩⟩
  · obtain ⟨t, m, b, rfl, r1⟩ := sg_tms sg
    exact ⟨by simp [rowPairs], fun t ht => by simp [rowPairs] at ht; rw [ht]; exact ⟨r1, r1⟩⟩
  · obtain ⟨t, rfl, r1⟩ := sg_t sg
    obtain ⟨h1, h2⟩ := hl t rfl
    refine ⟨by simp only [rowPairs, List.length_map]; exact h1, fun q hq => ?_⟩
    simp only [rowPairs] at hq
    obtain ⟨l, hl, rfl⟩ := List.mem_map.mp hq
    exact ⟨⟨r1, h2 l hl⟩, ⟨r1, h2 l hl⟩⟩
  · obtain ⟨t, m, b, rfl, r1, r2⟩ := sg_tmt (by decide) sg
    exact ⟨by simp [rowPairs], fun t ht => by simp [rowPairs] at ht; rw [ht]; exact ⟨r2, r1⟩⟩
  · obtain ⟨t, m, b, rfl, r1, r2⟩ := sg_tmt (by decide) sg
    exact ⟨by simp [rowPairs], fun t ht => by simp [rowPairs] at ht; rw [ht]; exact ⟨r2, r1⟩⟩
  · obtain ⟨x, m, y, l, rfl, r1, r2⟩ := sg_tmtm (by decide) (by decide) sg
    exact ⟨by simp [rowPairs], fun t ht => by simp [rowPairs] at ht; rcases ht with rfl | rfl <;> exact ⟨r1, r2⟩⟩
  · obtain ⟨x, m, y, l, rfl, r1, r2⟩ := sg_tmtm (by decide) (by decide) sg
    exact ⟨by simp [rowPairs], fun t ht => by simp [rowPairs] at ht; rw [ht]; exact ⟨r1, r2⟩⟩
  · obtain ⟨x, m, y, l, rfl, r1, r2⟩ := sg_tmtm (by decide) (by decide) sg
    exact ⟨by simp [rowPairs], fun t ht => by simp [rowPairs] at ht; rw [ht]; exact ⟨r1, r2⟩⟩
  · obtain ⟨x, m, y, l, rfl, r1, r2⟩ := sg_tmtm (by decide) (by decide) sg
    exact ⟨by simp [rowPairs], fun t ht => by simp [rowPairs] at ht; rw [ht]; exact ⟨r1, r2⟩⟩
theorem flN_pairs : ∀ i, i < 10 → ("pairs" : Str) ∉ flN i := by decide +kernel
def wideB (bt : List (Str × List Int)) : List (Str × List Int) := bt.map fun q => (q.1, q.2 ++ [3])
theorem wide_keys {bt : List (Str × List Int)} : (wideB bt).map (·.1) = bt.map (·.1) := by
  unfold wideB
  rw [List.map_map]
  rfl
theorem wide_ok {bt : List (Str × List Int)} (ok : BgnOk bt) (h4 : ∀ q ∈ bt, q.2.length ≤ 4) : BgnOk (wideB bt) := by
  refine ⟨fun q hq => ?_, fun q hq => ?_, by rw [wide_keys]; exact ok.nd, by unfold wideB; rw [List.length_map]; exact ok.few⟩
  · obtain ⟨r, hr, rfl⟩ := List.mem_map.mp hq
    exact ok.nm r hr
  · obtain ⟨r, hr, rfl⟩ := List.mem_map.mp hq
    refine ⟨by have := h4 r hr; show (r.2 ++ [3]).length ≤ 6; rw [List.length_append, List.length_singleton]; omega, fun k hk => ?_⟩
    rcases List.mem_append.mp hk with hk | hk
    · exact (ok.ks r hr).2 k hk
    · rw [List.mem_singleton.mp hk]
      omega
theorem bgn_nd {G : Hp} {kvs : List (Key × V)} {bt : List (Str × List Int)} (ls : LsAt G kvs bt) (nd : (bt.map (·.1)).Nodup) : (kvs.map (·.1)).Nodup := by
  have bg : BegAt default G kvs (rowsB bt) := ls.beg
  rw [bg.keysR, rowsB_fst]
  exact nodup_inr nd
theorem ls_val {G : Hp} {kvs : List (Key × V)} {bt : List (Str × List Int)} {s : Str} {ns : List Int} (ls : LsAt G kvs bt) (nd : (bt.map (·.1)).Nodup) (h : (s, ns) ∈ bt) : ∃ ra, valV kvs (.inr s) = some (.ref ra) ∧ G ra = some (.lst (ns.map V.int)) := by
  have hns := nsOf_at nd h
  rcases ls.val s with ⟨e, _⟩ | ⟨ra, ns', e1, e2, e3⟩
  · rw [hns] at e; cases e
  · rw [hns] at e1
    cases e1
    exact ⟨ra, e2, e3⟩
theorem lastsT_fine {bt bL : List (Str × List Int)} {u : Str} {as : List V} (h : LvOf bt bL) (ok : BgnOk bt) (hu : u ∈ bt.map (·.1)) (e : as = [.str u]) : (lastsT bL as).length ≤ 60 ∧ ∀ l ∈ lastsT bL as, 0 ≤ l ∧ l ≤ 1000000000000000000000000000000 := by
  subst e
  obtain ⟨ns, hns⟩ := nsOf_in (h.1.mem_iff.mpr hu)
  obtain ⟨f1, f2, f3, f4⟩ := lv_fine h ok _ (nsOf_mem hns)
  have k7 := ((h.lvOk ok).ks _ (nsOf_mem hns)).1
  have k7 : ns.length ≤ 7 := k7
  have e : lastsT bL [.str u] = lastsOf ns := by
    show ((nsOf bL u).map lastsOf).getD [] = _
    rw [hns]
    rfl
  rw [e]
  refine ⟨?_, lasts_bd f3 f4⟩
  rw [lasts_len f2]
  omega
def left13 (gs : List Str) (bt : List (Str × List Int)) : List (Str × List Int) := bt.filter fun q => !decide (q.1 ∈ gs)
theorem left13_sub {gs : List Str} {bt : List (Str × List Int)} : (left13 gs bt).Sublist bt := List.filter_sublist
theorem left13_ok {gs : List Str} {bt : List (Str × List Int)} (ok : BgnOk bt) : BgnOk (left13 gs bt) :=
  ⟨fun q hq => ok.nm q (left13_sub.subset hq), fun q hq => ok.ks q (left13_sub.subset hq), ok.nd.sublist (left13_sub.map _), Nat.le_trans left13_sub.length_le ok.few⟩
theorem left13_keys {gs : List Str} {bt : List (Str × List Int)} {z : Str} : z ∈ (left13 gs bt).map (·.1) ↔ z ∈ bt.map (·.1) ∧ z ∉ gs := by
  unfold left13
  constructor
  · intro h
    obtain ⟨q, hq, rfl⟩ := List.mem_map.mp h
    obtain ⟨h1, h2⟩ := List.mem_filter.mp hq
    exact ⟨List.mem_map.mpr ⟨q, h1, rfl⟩, by simpa using h2⟩
  · rintro ⟨h, n⟩
    obtain ⟨q, hq, rfl⟩ := List.mem_map.mp h
    exact List.mem_map.mpr ⟨q, List.mem_filter.mpr ⟨hq, by simpa using n⟩, rfl⟩
theorem find_sub : ∀ {gs ys : List Str}, gs.Sublist ys → ys.Nodup → ys.find? (fun z => decide (z ∈ gs)) = gs.head?
  | [], ys, _, _ => by
    rw [List.find?_eq_none.mpr]
    · rfl
    · intro y _
      simp
  | g :: gs, [], h, _ => by cases h
  | g :: gs, y :: ys, h, nd => by
    obtain ⟨n1, n2⟩ := List.nodup_cons.mp nd
    cases h with
    | cons _ h =>
      have hy : y ∉ g :: gs := fun m => n1 (h.subset m)
      rw [List.find?_cons_of_neg (by simpa using hy)]
      exact find_sub h n2
    | cons_cons _ h =>
      rw [List.find?_cons_of_pos (by simp)]
      rfl
theorem gone_head {gs ys : List Str} {bt bL : List (Str × List Int)} (h : LvOf (left13 gs bt) bL) (hy : ∀ y ∈ ys, y ∈ bt.map (·.1)) (sub : gs.Sublist ys) (nd : ys.Nodup) : goneOf ys bL = gs.head? := by
  rw [← find_sub sub nd]
  unfold goneOf
  have key : ∀ l : List Str, (∀ y ∈ l, y ∈ bt.map (·.1)) → l.find? (fun z => !decide (z ∈ bL.map (·.1))) = l.find? (fun z => decide (z ∈ gs)) := by
    intro l
    induction l with
    | nil => exact fun _ => rfl
    | cons y l ih =>
      intro hl
      have e : (!decide (y ∈ bL.map (·.1))) = decide (y ∈ gs) := by
        have k := (h.1.mem_iff (a := y)).trans (left13_keys (gs := gs) (bt := bt) (z := y))
        have hm := hl y List.mem_cons_self
        by_cases c : y ∈ gs
        · rw [decide_eq_true c, decide_eq_false fun m => (k.mp m).2 c]
          rfl
        · rw [decide_eq_false c, decide_eq_true (k.mpr ⟨hm, c⟩)]
          rfl
      rw [List.find?_cons, List.find?_cons, e, ih fun z hz => hl z (List.mem_cons_of_mem _ hz)]
  exact key ys hy
theorem two_show13 {K : PySem.W.Frag} {G : Hp} {x y : V} {dx dy : PyData} (o1 : Odd K G x dx) (o2 : Odd K G y dy) : (PyData.tuple [dx, dy]).showable = true ∧ (PyData.tuple [dx, dy]).depth ≤ 60 ∧ (PyData.tuple [dx, dy]).shown.length ≤ sizeLine := by
  have a1 := o1.sh; have a2 := o2.sh; have b1 := o1.dp; have b2 := o2.dp; have c1 := o1.sz; have c2 := o2.sz
  have e := sh_tup [dx, dy] (m := 2000) (by simp only [List.map_cons, List.map_nil, List.sum_cons, List.sum_nil]; omega)
  simp only [List.length_cons, List.length_nil] at e
  refine ⟨by rw [tup_sh]; simp only [PyData.showableAll, a1, a2, Bool.and_true], ?_, sz_m (by omega)⟩
  simp only [PyData.depth, PyData.depthAll]
  omega
theorem left_nil {bt : List (Str × List Int)} : left13 [] bt = bt := by
  unfold left13
  rw [List.filter_eq_self]
  intro q _
  simp
end Q
namespace Q
open PySem PySem.Spec PyProof.Rows L2
def meFourB (K : PySem.W.Frag) (CL : Nat → Addr) (m : Str) (f : Addr) : Bool := PySem.W.isFn K (.ref f) && (PySem.W.keepIn K (.ref f) && (List.range 4).all fun i => He.eqO (PySem.W.findIn K (.ref (CL (i + 6))) m) (some (some (.ref f))))
theorem meFour_ok {K : PySem.W.Frag} {CL : Nat → Addr} {m : Str} {f : Addr} (h : meFourB K CL m f = true) : ∀ i, 6 ≤ i → i < 10 → Meth K (CL i) m f := by
  obtain ⟨h1, h⟩ := He.ba h
  obtain ⟨h2, h3⟩ := He.ba h
  intro i h6 hi
  obtain ⟨j, rfl⟩ : ∃ j, i = j + 6 := ⟨i - 6, by omega⟩
  exact ⟨He.eqO_ok (List.all_eq_true.mp h3 j (List.mem_range.mpr (by omega))), h1, h2⟩
end Q
namespace Q
open PySem PySem.Spec PyProof.Rows L2
def top (i : Nat) : Stmt := PySem.Challenge.pw_soundtill_k13_pairs_of_rows.main.body.getD i (.Pass ⟨0, 0, 0, 0⟩)
abbrev sDraw : Stmt := top 53
abbrev sPen : Stmt := top 52
abbrev sPick : Stmt := top 54
abbrev sIsInt : Stmt := top 16
abbrev sMoment : Stmt := top 17
abbrev sIsName : Stmt := top 18
abbrev sErrT : Stmt := inClass (top 6) 0
abbrev sErrL : Stmt := inClass (top 7) 0
abbrev sErrN : Stmt := inClass (top 3) 0
abbrev sErrM : Stmt := inClass (top 4) 0
abbrev sErrS : Stmt := inClass (top 5) 0
abbrev sSayInit : Stmt := inClass (top 23) 1
abbrev sNeedN : Stmt := top 27
abbrev sNeedM : Stmt := top 28
abbrev sRowI : Stmt := inClass (top 30) 1
abbrev sBegunI : Stmt := inClass (top 34) 0
abbrev sSetByI : Stmt := inClass (top 35) 0
abbrev sFoundI : Stmt := inClass (top 36) 0
abbrev sTrustedI : Stmt := inClass (top 37) 0
abbrev sPassedI : Stmt := inClass (top 38) 0
abbrev sFailedI : Stmt := inClass (top 39) 0
abbrev sMeetingI : Stmt := inClass (top 33) 0
abbrev sAgreedI : Stmt := inClass (top 40) 0
abbrev sDifferedI : Stmt := inClass (top 41) 0
abbrev sServedI : Stmt := inClass (top 42) 0
abbrev sBackedI : Stmt := inClass (top 43) 0
abbrev sTick : Stmt := top 55
abbrev sKinds : Stmt := top 57
abbrev sDrawn : Stmt := top 58
abbrev sMade : Stmt := top 61
abbrev sLvInit : Stmt := inClass (top 50) 0
abbrev sLvTools : Stmt := inClass (top 50) 1
abbrev sLvBeg : Stmt := inClass (top 50) 3
abbrev sLvHas : Stmt := inClass (top 50) 6
abbrev sLvLast : Stmt := inClass (top 50) 5
abbrev sCrewR : Stmt := top 56
abbrev sNamedL : Stmt := top 59
abbrev sTools : Stmt := inClass (top 30) 4
abbrev sNeedT : Stmt := inClass (top 30) 6
abbrev sExcl : Stmt := top 29
abbrev sTwo : Stmt := inClass (top 33) 1
abbrev sPBegun : Stmt := inClass (top 34) 1
abbrev sPSetBy : Stmt := inClass (top 35) 1
abbrev sPFound : Stmt := inClass (top 36) 1
abbrev sPTrusted : Stmt := inClass (top 37) 1
abbrev sPPassed : Stmt := inClass (top 38) 1
abbrev sPFailed : Stmt := inClass (top 39) 1
abbrev sPAgreed : Stmt := inClass (top 40) 1
abbrev sPDiffered : Stmt := inClass (top 41) 1
abbrev sPServed : Stmt := inClass (top 42) 1
abbrev sPBacked : Stmt := inClass (top 43) 1
abbrev sStarts13 : Stmt := top 65
abbrev sLasts13 : Stmt := top 62
abbrev sTold13 : Stmt := top 66
abbrev sPairsD : Stmt := top 63
abbrev sHeard : Stmt := top 64
abbrev sLaw : Stmt := top 67
instance : Inhabited DefS := ⟨⟨fun _ => 0, fun _ => 0, "", "", .Pass ⟨0, 0, 0, 0⟩⟩⟩
abbrev fileL : Str := PySem.Challenge.pw_soundtill_k13_pairs_of_rows.main.file
def dsL : List DefS := [⟨fun K => He.ma K (He.ga K "Meeting") "__init__", fun K => He.ga K "Meeting", "__init__", "Meeting.__init__", sMeetingI⟩, ⟨fun K => He.ma K (He.ga K "Begun") "__init__", fun K => He.ga K "Begun", "__init__", "Begun.__init__", sBegunI⟩, ⟨fun K => He.ma K (He.ga K "SetBy") "__init__", fun K => He.ga K "SetBy", "__init__", "SetBy.__init__", sSetByI⟩, ⟨fun K => He.ma K (He.ga K "Found") "__init__", fun K => He.ga K "Found", "__init__", "Found.__init__", sFoundI⟩, ⟨fun K => He.ma K (He.ga K "Trusted") "__init__", fun K => He.ga K "Trusted", "__init__", "Trusted.__init__", sTrustedI⟩, ⟨fun K => He.ma K (He.ga K "Passed") "__init__", fun K => He.ga K "Passed", "__init__", "Passed.__init__", sPassedI⟩, ⟨fun K => He.ma K (He.ga K "Failed") "__init__", fun K => He.ga K "Failed", "__init__", "Failed.__init__", sFailedI⟩, ⟨fun K => He.ma K (He.ga K "Agreed") "__init__", fun K => He.ga K "Agreed", "__init__", "Agreed.__init__", sAgreedI⟩, ⟨fun K => He.ma K (He.ga K "Differed") "__init__", fun K => He.ga K "Differed", "__init__", "Differed.__init__", sDifferedI⟩, ⟨fun K => He.ma K (He.ga K "Served") "__init__", fun K => He.ga K "Served", "__init__", "Served.__init__", sServedI⟩, ⟨fun K => He.ma K (He.ga K "Backed") "__init__", fun K => He.ga K "Backed", "__init__", "Backed.__init__", sBackedI⟩]
def fnL : List He5.DefA := [⟨fun K => He.ga K "law", "law", "law", defArgs sLaw, defBody sLaw, defScope sLaw, [], []⟩,
  ⟨fun K => He.ga K "is_integer", "is_integer", "is_integer", defArgs sIsInt, defBody sIsInt, defScope sIsInt, [], []⟩,
  ⟨fun K => He.ga K "is_moment", "is_moment", "is_moment", defArgs sMoment, defBody sMoment, defScope sMoment, [.int 0], []⟩,
  ⟨fun K => He.ga K "is_name", "is_name", "is_name", defArgs sIsName, defBody sIsName, defScope sIsName, [], []⟩,
  ⟨fun K => He.ma K (He.ga K "BadName") "__init__", "__init__", "BadName.__init__", defArgs sErrN, defBody sErrN, defScope sErrN, [], []⟩,
  ⟨fun K => He.ma K (He.ga K "BadMoment") "__init__", "__init__", "BadMoment.__init__", defArgs sErrM, defBody sErrM, defScope sErrM, [], []⟩,
  ⟨fun K => He.ma K (He.ga K "BadSaying") "__init__", "__init__", "BadSaying.__init__", defArgs sErrS, defBody sErrS, defScope sErrS, [], []⟩,
  ⟨fun K => He.ma K (He.ga K "NoTool") "__init__", "__init__", "NoTool.__init__", defArgs sErrT, defBody sErrT, defScope sErrT, [], []⟩,
  ⟨fun K => He.ma K (He.ga K "NoLife") "__init__", "__init__", "NoLife.__init__", defArgs sErrL, defBody sErrL, defScope sErrL, [], []⟩,
  ⟨fun K => He.ma K (He.ga K "Saying") "__init__", "__init__", "Saying.__init__", defArgs sSayInit, defBody sSayInit, defScope sSayInit, [], []⟩,
  ⟨fun K => He.ga K "need_name", "need_name", "need_name", defArgs sNeedN, defBody sNeedN, defScope sNeedN, [], []⟩,
  ⟨fun K => He.ga K "need_moment", "need_moment", "need_moment", defArgs sNeedM, defBody sNeedM, defScope sNeedM, [.int 0], []⟩,
  ⟨fun K => He.ma K (He.ga K "Row") "__init__", "__init__", "Row.__init__", defArgs sRowI, defBody sRowI, defScope sRowI, [], []⟩,
  ⟨fun K => He.ma K (He.ga K "Lives") "__init__", "__init__", "Lives.__init__", defArgs sLvInit, defBody sLvInit, defScope sLvInit, [], []⟩,
  ⟨fun K => He.ma K (He.ga K "Lives") "beginnings", "beginnings", "Lives.beginnings", defArgs sLvBeg, defBody sLvBeg, defScope sLvBeg, [], []⟩,
  ⟨fun K => He.ma K (He.ga K "Lives") "__contains__", "__contains__", "Lives.__contains__", defArgs sLvHas, defBody sLvHas, defScope sLvHas, [], []⟩,
  ⟨fun K => He.ma K (He.ga K "Lives") "last_of", "last_of", "Lives.last_of", defArgs sLvLast, defBody sLvLast, defScope sLvLast, [], []⟩,
  ⟨fun K => getterOf K (He.ma K (He.ga K "Lives") "tools"), "tools", "Lives.tools", defArgs sLvTools, defBody sLvTools, defScope sLvTools, [], []⟩,
  ⟨fun K => getterOf K (He.ma K (He.ga K "Row") "tools"), "tools", "Row.tools", defArgs sTools, defBody sTools, defScope sTools, [], []⟩,
  ⟨fun K => He.ma K (He.ga K "Row") "need_tools", "need_tools", "Row.need_tools", defArgs sNeedT, defBody sNeedT, defScope sNeedT, [], []⟩,
  ⟨fun K => He.ga K "excluded", "excluded", "excluded", defArgs sExcl, defBody sExcl, defScope sExcl, [], []⟩,
  ⟨fun K => He.ma K (He.ga K "Meeting") "two", "two", "Meeting.two", defArgs sTwo, defBody sTwo, defScope sTwo, [], []⟩,
  ⟨fun K => He.ma K (He.ga K "Begun") "pairs", "pairs", "Begun.pairs", defArgs sPBegun, defBody sPBegun, defScope sPBegun, [], []⟩,
  ⟨fun K => He.ma K (He.ga K "SetBy") "pairs", "pairs", "SetBy.pairs", defArgs sPSetBy, defBody sPSetBy, defScope sPSetBy, [], []⟩,
  ⟨fun K => He.ma K (He.ga K "Found") "pairs", "pairs", "Found.pairs", defArgs sPFound, defBody sPFound, defScope sPFound, [], []⟩,
  ⟨fun K => He.ma K (He.ga K "Trusted") "pairs", "pairs", "Trusted.pairs", defArgs sPTrusted, defBody sPTrusted, defScope sPTrusted, [], []⟩,
  ⟨fun K => He.ma K (He.ga K "Passed") "pairs", "pairs", "Passed.pairs", defArgs sPPassed, defBody sPPassed, defScope sPPassed, [], []⟩,
  ⟨fun K => He.ma K (He.ga K "Failed") "pairs", "pairs", "Failed.pairs", defArgs sPFailed, defBody sPFailed, defScope sPFailed, [], []⟩,
  ⟨fun K => He.ma K (He.ga K "Agreed") "pairs", "pairs", "Agreed.pairs", defArgs sPAgreed, defBody sPAgreed, defScope sPAgreed, [], []⟩,
  ⟨fun K => He.ma K (He.ga K "Differed") "pairs", "pairs", "Differed.pairs", defArgs sPDiffered, defBody sPDiffered, defScope sPDiffered, [], []⟩,
  ⟨fun K => He.ma K (He.ga K "Served") "pairs", "pairs", "Served.pairs", defArgs sPServed, defBody sPServed, defScope sPServed, [], []⟩,
  ⟨fun K => He.ma K (He.ga K "Backed") "pairs", "pairs", "Backed.pairs", defArgs sPBacked, defBody sPBacked, defScope sPBacked, [], []⟩,
  ⟨fun K => He.ga K "_law_pen", "_law_pen", "_law_pen", defArgs sPen, defBody sPen, defScope sPen, [], []⟩,
  ⟨fun K => He.ga K "_law_draw", "_law_draw", "_law_draw", defArgs sDraw, defBody sDraw, defScope sDraw, [], []⟩,
  ⟨fun K => He.ga K "_law_pick", "_law_pick", "_law_pick", defArgs sPick, defBody sPick, defScope sPick, [], []⟩,
  ⟨fun K => He.ga K "_law_tick", "_law_tick", "_law_tick", defArgs sTick, defBody sTick, defScope sTick, [], []⟩,
  ⟨fun K => He.ga K "_law_crew", "_law_crew", "_law_crew", defArgs sCrewR, defBody sCrewR, defScope sCrewR, [], []⟩,
  ⟨fun K => He.ga K "_law_kinds", "_law_kinds", "_law_kinds", defArgs sKinds, defBody sKinds, defScope sKinds, [], []⟩,
  ⟨fun K => He.ga K "_law_drawn", "_law_drawn", "_law_drawn", defArgs sDrawn, defBody sDrawn, defScope sDrawn, [], []⟩,
  ⟨fun K => He.ga K "_law_starts", "_law_starts", "_law_starts", defArgs sStarts13, defBody sStarts13, defScope sStarts13, [], []⟩,
  ⟨fun K => He.ga K "_law_made", "_law_made", "_law_made", defArgs sMade, defBody sMade, defScope sMade, [], []⟩,
  ⟨fun K => He.ga K "_law_lasts", "_law_lasts", "_law_lasts", defArgs sLasts13, defBody sLasts13, defScope sLasts13, [], []⟩,
  ⟨fun K => He.ga K "_law_pairs", "_law_pairs", "_law_pairs", defArgs sPairsD, defBody sPairsD, defScope sPairsD, [], []⟩,
  ⟨fun K => He.ga K "_law_told", "_law_told", "_law_told", defArgs sTold13, defBody sTold13, defScope sTold13, [], []⟩,
  ⟨fun K => He.ga K "_law_named", "_law_named", "_law_named", defArgs sNamedL, defBody sNamedL, defScope sNamedL, [], []⟩,
  ⟨fun K => He.ga K "_law_heard", "_law_heard", "_law_heard", defArgs sHeard, defBody sHeard, defScope sHeard, [], []⟩]
def faL : List He.Fa := [.free "int", .free "len", .free "abs", .free "list", .free "range", .free "repr", .free "str", .free "isinstance", .free "all", .free "any", .free "bool", .free "tuple", .free "sorted", .free "set", .free "dict", .free "enumerate", .free "zip", .free "min", .free "max", .free "ValueError", .glo "law", .glo "is_integer", .glo "is_moment", .glo "is_name", .glo "RESERVED", .str "LETTERS" zLetters, .str "FIGURES" zFigures, .int "MOST_SIGNS" 8, .int "MOST_MOMENT" 1000000000000000000000000000000, .meth "BadName" "__init__", .glo "BadName", .meth "BadMoment" "__init__", .glo "BadMoment", .meth "BadSaying" "__init__", .glo "BadSaying", .meth "NoTool" "__init__", .glo "NoTool", .meth "NoLife" "__init__", .glo "NoLife", .glo "Saying", .cls "Saying", .mkr "Saying", .noat "Saying" "tool", .noat "Saying" "moment", .noat "Saying" "is_sound", .noat "Saying" "face", .meth "Saying" "__init__", .free "super", .glo "need_name", .glo "need_moment", .meth "Row" "__init__", .meth "Meeting" "__init__", .glo "Begun", .cls "Begun", .mkr "Begun", .noat "Begun" "kind", .noat "Begun" "words", .noat "Begun" "named", .noat "Begun" "told_at", .noat "Begun" "tool", .noat "Begun" "moment", .meth "Begun" "__init__", .glo "SetBy", .cls "SetBy", .mkr "SetBy", .noat "SetBy" "kind", .noat "SetBy" "words", .noat "SetBy" "named", .noat "SetBy" "told_at", .noat "SetBy" "tool", .noat "SetBy" "moment", .noat "SetBy" "by", .meth "SetBy" "__init__", .glo "Found", .cls "Found", .mkr "Found", .noat "Found" "kind", .noat "Found" "words", .noat "Found" "named", .noat "Found" "told_at", .noat "Found" "tool", .noat "Found" "moment", .noat "Found" "is_sound", .meth "Found" "__init__", .glo "Trusted", .cls "Trusted", .mkr "Trusted", .noat "Trusted" "kind", .noat "Trusted" "words", .noat "Trusted" "named", .noat "Trusted" "told_at", .noat "Trusted" "tool", .meth "Trusted" "__init__", .glo "Passed", .cls "Passed", .mkr "Passed", .noat "Passed" "kind", .noat "Passed" "words", .noat "Passed" "named", .noat "Passed" "told_at", .noat "Passed" "tool", .noat "Passed" "moment", .noat "Passed" "by", .meth "Passed" "__init__", .glo "Failed", .cls "Failed", .mkr "Failed", .noat "Failed" "kind", .noat "Failed" "words", .noat "Failed" "named", .noat "Failed" "told_at", .noat "Failed" "tool", .noat "Failed" "moment", .noat "Failed" "by", .meth "Failed" "__init__", .glo "Agreed", .cls "Agreed", .mkr "Agreed", .noat "Agreed" "kind", .noat "Agreed" "words", .noat "Agreed" "named", .noat "Agreed" "told_at", .noat "Agreed" "one", .noat "Agreed" "moment", .noat "Agreed" "other", .noat "Agreed" "later", .meth "Agreed" "__init__", .glo "Differed", .cls "Differed", .mkr "Differed", .noat "Differed" "kind", .noat "Differed" "words", .noat "Differed" "named", .noat "Differed" "told_at", .noat "Differed" "one", .noat "Differed" "moment", .noat "Differed" "other", .noat "Differed" "later", .meth "Differed" "__init__", .glo "Served", .cls "Served", .mkr "Served", .noat "Served" "kind", .noat "Served" "words", .noat "Served" "named", .noat "Served" "told_at", .noat "Served" "one", .noat "Served" "moment", .noat "Served" "other", .noat "Served" "later", .meth "Served" "__init__", .glo "Backed", .cls "Backed", .mkr "Backed", .noat "Backed" "kind", .noat "Backed" "words", .noat "Backed" "named", .noat "Backed" "told_at", .noat "Backed" "one", .noat "Backed" "moment", .noat "Backed" "other", .noat "Backed" "later", .meth "Backed" "__init__", .glo "Lives", .cls "Lives", .mkr "Lives", .noat "Lives" "by_tool", .meth "Lives" "__init__", .int "PAIR" 2, .meth "Lives" "beginnings", .meth "Lives" "__contains__", .meth "Lives" "last_of", .glo "Row", .cls "Row", .glo "Meeting", .meth "Row" "need_tools", .glo "excluded", .meth "Meeting" "two", .meth "Begun" "pairs", .meth "SetBy" "pairs", .meth "Found" "pairs", .meth "Trusted" "pairs", .meth "Passed" "pairs", .meth "Failed" "pairs", .meth "Agreed" "pairs", .meth "Differed" "pairs", .meth "Served" "pairs", .meth "Backed" "pairs", .glo "_law_pen", .glo "_law_draw", .glo "_law_pick", .glo "_law_tick", .glo "_law_crew", .glo "_law_kinds", .glo "_law_drawn", .glo "_law_starts", .glo "_law_made", .glo "_law_lasts", .glo "_law_pairs", .glo "_law_told", .glo "_law_named", .glo "_law_heard", .glo "TillError"]
def exL (K : PySem.W.Frag) : Bool := He.tupB K "RESERVED" [.str "begun", .str "setby", .str "found", .str "trusted", .str "passed", .str "failed", .str "agreed", .str "differed", .str "served", .str "backed", .str "sound", .str "unsound", .str "sure", .str "never", .str "open", .str "none", .str "record", .str "lot", .str "menu", .str "wanted"] &&
  (oexB K (He.ga K "BadName") &&
  (hdB K (He.ga K "BadName") "name" &&
  (oexB K (He.ga K "BadMoment") &&
  (hdB K (He.ga K "BadMoment") "moment" &&
  (oexB K (He.ga K "BadSaying") &&
  (hdB K (He.ga K "BadSaying") "value" &&
  (oexB K (He.ga K "NoTool") &&
  (hdB K (He.ga K "NoTool") "tool" &&
  (oexB K (He.ga K "NoLife") &&
  (hdB K (He.ga K "NoLife") "value" &&
  (He.eqO (PySem.W.findIn K (.ref (He.ga K "Saying")) "__class__") (some (some (.builtin "object.__class__"))) &&
  (He.eqO (PySem.W.findIn K (.ref (He.ga K "Saying")) "__ne__") (some (some (.builtin "object.__ne__"))) &&
  (eqS K (He.ga K "Saying") &&
  (DefS.ok fileL K (dsL.getD 0 default) &&
  (DefS.ok fileL K (dsL.getD 1 default) &&
  (supB K (He.ga K "Begun") (He.ga K "Begun") (He.ma K (He.ga K "Row") "__init__") &&
  (DefS.ok fileL K (dsL.getD 2 default) &&
  (supB K (He.ga K "SetBy") (He.ga K "SetBy") (He.ma K (He.ga K "Row") "__init__") &&
  (DefS.ok fileL K (dsL.getD 3 default) &&
  (supB K (He.ga K "Found") (He.ga K "Found") (He.ma K (He.ga K "Row") "__init__") &&
  (DefS.ok fileL K (dsL.getD 4 default) &&
  (supB K (He.ga K "Trusted") (He.ga K "Trusted") (He.ma K (He.ga K "Row") "__init__") &&
  (DefS.ok fileL K (dsL.getD 5 default) &&
  (supB K (He.ga K "Passed") (He.ga K "Passed") (He.ma K (He.ga K "Row") "__init__") &&
  (DefS.ok fileL K (dsL.getD 6 default) &&
  (supB K (He.ga K "Failed") (He.ga K "Failed") (He.ma K (He.ga K "Row") "__init__") &&
  (DefS.ok fileL K (dsL.getD 7 default) &&
  (supB K (He.ga K "Agreed") (He.ga K "Agreed") (He.ma K (He.ga K "Meeting") "__init__") &&
  (supB K (He.ga K "Agreed") (He.ga K "Meeting") (He.ma K (He.ga K "Row") "__init__") &&
  (DefS.ok fileL K (dsL.getD 8 default) &&
  (supB K (He.ga K "Differed") (He.ga K "Differed") (He.ma K (He.ga K "Meeting") "__init__") &&
  (supB K (He.ga K "Differed") (He.ga K "Meeting") (He.ma K (He.ga K "Row") "__init__") &&
  (DefS.ok fileL K (dsL.getD 9 default) &&
  (supB K (He.ga K "Served") (He.ga K "Served") (He.ma K (He.ga K "Meeting") "__init__") &&
  (supB K (He.ga K "Served") (He.ga K "Meeting") (He.ma K (He.ga K "Row") "__init__") &&
  (DefS.ok fileL K (dsL.getD 10 default) &&
  (supB K (He.ga K "Backed") (He.ga K "Backed") (He.ma K (He.ga K "Meeting") "__init__") &&
  (supB K (He.ga K "Backed") (He.ga K "Meeting") (He.ma K (He.ga K "Row") "__init__") &&
  (propB K (He.ga K "Lives") "tools" &&
  (propAllB K (clsR K) (He.ga K "Row") "tools" &&
  (meAllB K (clsR K) "need_tools" (He.ma K (He.ga K "Row") "need_tools") &&
  (meFourB K (clsR K) "two" (He.ma K (He.ga K "Meeting") "two") &&
  (smB K &&
  (decide (PySem.W.exmOne K (.ref (He.ga K "NoTool")) (.ref (He.ga K "TillError")) = some true ∧ PySem.W.exmOne K (.ref (He.ga K "BadName")) (.ref (He.ga K "TillError")) = some true ∧ PySem.W.exmOne K (.ref (He.ga K "BadMoment")) (.ref (He.ga K "TillError")) = some true ∧ PySem.W.kitOne K (.ref (He.ga K "NoTool")) (.ref (He.ga K "NoTool")) = some true ∧ PySem.W.kitOne K (.ref (He.ga K "NoTool")) (.ref (He.ga K "BadName")) = some false ∧ PySem.W.kitOne K (.ref (He.ga K "NoTool")) (.ref (He.ga K "BadMoment")) = some false ∧ PySem.W.kitOne K (.ref (He.ga K "BadName")) (.ref (He.ga K "NoTool")) = some false ∧ PySem.W.kitOne K (.ref (He.ga K "BadName")) (.ref (He.ga K "BadName")) = some true ∧ PySem.W.kitOne K (.ref (He.ga K "BadName")) (.ref (He.ga K "BadMoment")) = some false ∧ PySem.W.kitOne K (.ref (He.ga K "BadMoment")) (.ref (He.ga K "NoTool")) = some false ∧ PySem.W.kitOne K (.ref (He.ga K "BadMoment")) (.ref (He.ga K "BadName")) = some false ∧ PySem.W.kitOne K (.ref (He.ga K "BadMoment")) (.ref (He.ga K "BadMoment")) = some true)))))))))))))))))))))))))))))))))))))))))))))
abbrev tfL : List (PySem.W.Frag → Addr) := [fun K => He.ga K "law"]
abbrev RL : PySem.W.OpenRow := PySem.W.OpenLaw.row PySem.Challenge.rw_soundtill_k13_pairs_of_rows
abbrev nsL : List Str := (("Agreed" : PySem.Str) :: ("Backed" : PySem.Str) :: ("BadMoment" : PySem.Str) :: ("BadName" : PySem.Str) :: ("BadSaying" : PySem.Str) :: ("Begun" : PySem.Str) :: ("Differed" : PySem.Str) :: ("Failed" : PySem.Str) :: ("Found" : PySem.Str) :: ("Lives" : PySem.Str) :: ("Meeting" : PySem.Str) :: ("NoLife" : PySem.Str) :: ("NoTool" : PySem.Str) :: ("Passed" : PySem.Str) :: ("RESERVED" : PySem.Str) :: ("Row" : PySem.Str) :: ("Saying" : PySem.Str) :: ("Served" : PySem.Str) :: ("SetBy" : PySem.Str) :: ("TillError" : PySem.Str) :: ("Trusted" : PySem.Str) :: ("_law_crew" : PySem.Str) :: ("_law_draw" : PySem.Str) :: ("_law_drawn" : PySem.Str) :: ("_law_heard" : PySem.Str) :: ("_law_kinds" : PySem.Str) :: ("_law_lasts" : PySem.Str) :: ("_law_made" : PySem.Str) :: ("_law_named" : PySem.Str) :: ("_law_pairs" : PySem.Str) :: ("_law_pen" : PySem.Str) :: ("_law_pick" : PySem.Str) :: ("_law_starts" : PySem.Str) :: ("_law_tick" : PySem.Str) :: ("_law_told" : PySem.Str) :: ("excluded" : PySem.Str) :: ("is_integer" : PySem.Str) :: ("is_moment" : PySem.Str) :: ("is_name" : PySem.Str) :: ("law" : PySem.Str) :: ("need_moment" : PySem.Str) :: ("need_name" : PySem.Str) :: [])
abbrev tsL : List He.Tab := []
abbrev hkL : PySem.W.Hook := hookS nsL 6 faL fnL tfL exL tsL dsL
def obL (s : PySem.W.SharedT) : AlD3 := obsS nsL 6 faL fnL tfL exL tsL dsL (HandSHeadRun.getT s)
theorem obL_eq (s : PySem.W.SharedT) : obL s = hkL.obs s.abs := obsS_eq (HandSHeadRun.getT_eq s)
theorem runA (w : World) : HandSHeadRun.RunEq RL (PySem.W.view RL.prog [67]) hkL obL 12000 (("_wall" : PySem.Str) :: ("__name__" : PySem.Str) :: ("TillError" : PySem.Str) :: ("BadName" : PySem.Str) :: ("BadMoment" : PySem.Str) :: ("BadSaying" : PySem.Str) :: ("NoTool" : PySem.Str) :: ("NoLife" : PySem.Str) :: ("BadText" : PySem.Str) :: ("RESERVED" : PySem.Str) :: ("LETTERS" : PySem.Str) :: ("FIGURES" : PySem.Str) :: ("MOST_SIGNS" : PySem.Str) :: ("MOST_FIGURES" : PySem.Str) :: ("MOST_MOMENT" : PySem.Str) :: ("is_integer" : PySem.Str) :: ("is_moment" : PySem.Str) :: ("is_name" : PySem.Str) :: ("moment_in" : PySem.Str) :: ("TRUTHS" : PySem.Str) :: ("MANY_WORDS" : PySem.Str) :: ("Saying" : PySem.Str) :: ("FORMS" : PySem.Str) :: ("BEGINNINGS" : PySem.Str) :: ("need_name" : PySem.Str) :: ("need_moment" : PySem.Str) :: ("excluded" : PySem.Str) :: ("Row" : PySem.Str) :: ("Beginning" : PySem.Str) :: ("Check" : PySem.Str) :: ("Meeting" : PySem.Str) :: ("Begun" : PySem.Str) :: ("SetBy" : PySem.Str) :: ("Found" : PySem.Str) :: ("Trusted" : PySem.Str) :: ("Passed" : PySem.Str) :: ("Failed" : PySem.Str) :: ("Agreed" : PySem.Str) :: ("Differed" : PySem.Str) :: ("Served" : PySem.Str) :: ("Backed" : PySem.Str) :: ("made_meeting" : PySem.Str) :: ("made_row" : PySem.Str) :: ("fits" : PySem.Str) :: ("row_in" : PySem.Str) :: ("PAIR" : PySem.Str) :: ("Lives" : PySem.Str) :: ("_law_pen" : PySem.Str) :: ("_law_draw" : PySem.Str) :: ("_law_pick" : PySem.Str) :: ("_law_tick" : PySem.Str) :: ("_law_crew" : PySem.Str) :: ("_law_kinds" : PySem.Str) :: ("_law_drawn" : PySem.Str) :: ("_law_named" : PySem.Str) :: ("_law_ticks" : PySem.Str) :: ("_law_made" : PySem.Str) :: ("_law_lasts" : PySem.Str) :: ("_law_pairs" : PySem.Str) :: ("_law_heard" : PySem.Str) :: ("_law_starts" : PySem.Str) :: ("_law_told" : PySem.Str) :: []) (w.withFollow "special-get-raises" false) := by
  intro os
  kernel_rfl
theorem runB (w : World) : HandSHeadRun.RunEq RL (PySem.W.view RL.prog [67]) hkL obL 12000 (("_wall" : PySem.Str) :: ("__name__" : PySem.Str) :: ("TillError" : PySem.Str) :: ("BadName" : PySem.Str) :: ("BadMoment" : PySem.Str) :: ("BadSaying" : PySem.Str) :: ("NoTool" : PySem.Str) :: ("NoLife" : PySem.Str) :: ("BadText" : PySem.Str) :: ("RESERVED" : PySem.Str) :: ("LETTERS" : PySem.Str) :: ("FIGURES" : PySem.Str) :: ("MOST_SIGNS" : PySem.Str) :: ("MOST_FIGURES" : PySem.Str) :: ("MOST_MOMENT" : PySem.Str) :: ("is_integer" : PySem.Str) :: ("is_moment" : PySem.Str) :: ("is_name" : PySem.Str) :: ("moment_in" : PySem.Str) :: ("TRUTHS" : PySem.Str) :: ("MANY_WORDS" : PySem.Str) :: ("Saying" : PySem.Str) :: ("FORMS" : PySem.Str) :: ("BEGINNINGS" : PySem.Str) :: ("need_name" : PySem.Str) :: ("need_moment" : PySem.Str) :: ("excluded" : PySem.Str) :: ("Row" : PySem.Str) :: ("Beginning" : PySem.Str) :: ("Check" : PySem.Str) :: ("Meeting" : PySem.Str) :: ("Begun" : PySem.Str) :: ("SetBy" : PySem.Str) :: ("Found" : PySem.Str) :: ("Trusted" : PySem.Str) :: ("Passed" : PySem.Str) :: ("Failed" : PySem.Str) :: ("Agreed" : PySem.Str) :: ("Differed" : PySem.Str) :: ("Served" : PySem.Str) :: ("Backed" : PySem.Str) :: ("made_meeting" : PySem.Str) :: ("made_row" : PySem.Str) :: ("fits" : PySem.Str) :: ("row_in" : PySem.Str) :: ("PAIR" : PySem.Str) :: ("Lives" : PySem.Str) :: ("_law_pen" : PySem.Str) :: ("_law_draw" : PySem.Str) :: ("_law_pick" : PySem.Str) :: ("_law_tick" : PySem.Str) :: ("_law_crew" : PySem.Str) :: ("_law_kinds" : PySem.Str) :: ("_law_drawn" : PySem.Str) :: ("_law_named" : PySem.Str) :: ("_law_ticks" : PySem.Str) :: ("_law_made" : PySem.Str) :: ("_law_lasts" : PySem.Str) :: ("_law_pairs" : PySem.Str) :: ("_law_heard" : PySem.Str) :: ("_law_starts" : PySem.Str) :: ("_law_told" : PySem.Str) :: []) (w.withFollow "special-get-raises" true) := by
  intro os
  kernel_rfl
theorem runL (w : World) : HandSHeadRun.RunEq RL (PySem.W.view RL.prog [67]) hkL obL 12000 (("_wall" : PySem.Str) :: ("__name__" : PySem.Str) :: ("TillError" : PySem.Str) :: ("BadName" : PySem.Str) :: ("BadMoment" : PySem.Str) :: ("BadSaying" : PySem.Str) :: ("NoTool" : PySem.Str) :: ("NoLife" : PySem.Str) :: ("BadText" : PySem.Str) :: ("RESERVED" : PySem.Str) :: ("LETTERS" : PySem.Str) :: ("FIGURES" : PySem.Str) :: ("MOST_SIGNS" : PySem.Str) :: ("MOST_FIGURES" : PySem.Str) :: ("MOST_MOMENT" : PySem.Str) :: ("is_integer" : PySem.Str) :: ("is_moment" : PySem.Str) :: ("is_name" : PySem.Str) :: ("moment_in" : PySem.Str) :: ("TRUTHS" : PySem.Str) :: ("MANY_WORDS" : PySem.Str) :: ("Saying" : PySem.Str) :: ("FORMS" : PySem.Str) :: ("BEGINNINGS" : PySem.Str) :: ("need_name" : PySem.Str) :: ("need_moment" : PySem.Str) :: ("excluded" : PySem.Str) :: ("Row" : PySem.Str) :: ("Beginning" : PySem.Str) :: ("Check" : PySem.Str) :: ("Meeting" : PySem.Str) :: ("Begun" : PySem.Str) :: ("SetBy" : PySem.Str) :: ("Found" : PySem.Str) :: ("Trusted" : PySem.Str) :: ("Passed" : PySem.Str) :: ("Failed" : PySem.Str) :: ("Agreed" : PySem.Str) :: ("Differed" : PySem.Str) :: ("Served" : PySem.Str) :: ("Backed" : PySem.Str) :: ("made_meeting" : PySem.Str) :: ("made_row" : PySem.Str) :: ("fits" : PySem.Str) :: ("row_in" : PySem.Str) :: ("PAIR" : PySem.Str) :: ("Lives" : PySem.Str) :: ("_law_pen" : PySem.Str) :: ("_law_draw" : PySem.Str) :: ("_law_pick" : PySem.Str) :: ("_law_tick" : PySem.Str) :: ("_law_crew" : PySem.Str) :: ("_law_kinds" : PySem.Str) :: ("_law_drawn" : PySem.Str) :: ("_law_named" : PySem.Str) :: ("_law_ticks" : PySem.Str) :: ("_law_made" : PySem.Str) :: ("_law_lasts" : PySem.Str) :: ("_law_pairs" : PySem.Str) :: ("_law_heard" : PySem.Str) :: ("_law_starts" : PySem.Str) :: ("_law_told" : PySem.Str) :: []) w :=
  PySem.W.byRow2 "special-get-raises" (P := fun w => HandSHeadRun.RunEq RL (PySem.W.view RL.prog [67]) hkL obL 12000 (("_wall" : PySem.Str) :: ("__name__" : PySem.Str) :: ("TillError" : PySem.Str) :: ("BadName" : PySem.Str) :: ("BadMoment" : PySem.Str) :: ("BadSaying" : PySem.Str) :: ("NoTool" : PySem.Str) :: ("NoLife" : PySem.Str) :: ("BadText" : PySem.Str) :: ("RESERVED" : PySem.Str) :: ("LETTERS" : PySem.Str) :: ("FIGURES" : PySem.Str) :: ("MOST_SIGNS" : PySem.Str) :: ("MOST_FIGURES" : PySem.Str) :: ("MOST_MOMENT" : PySem.Str) :: ("is_integer" : PySem.Str) :: ("is_moment" : PySem.Str) :: ("is_name" : PySem.Str) :: ("moment_in" : PySem.Str) :: ("TRUTHS" : PySem.Str) :: ("MANY_WORDS" : PySem.Str) :: ("Saying" : PySem.Str) :: ("FORMS" : PySem.Str) :: ("BEGINNINGS" : PySem.Str) :: ("need_name" : PySem.Str) :: ("need_moment" : PySem.Str) :: ("excluded" : PySem.Str) :: ("Row" : PySem.Str) :: ("Beginning" : PySem.Str) :: ("Check" : PySem.Str) :: ("Meeting" : PySem.Str) :: ("Begun" : PySem.Str) :: ("SetBy" : PySem.Str) :: ("Found" : PySem.Str) :: ("Trusted" : PySem.Str) :: ("Passed" : PySem.Str) :: ("Failed" : PySem.Str) :: ("Agreed" : PySem.Str) :: ("Differed" : PySem.Str) :: ("Served" : PySem.Str) :: ("Backed" : PySem.Str) :: ("made_meeting" : PySem.Str) :: ("made_row" : PySem.Str) :: ("fits" : PySem.Str) :: ("row_in" : PySem.Str) :: ("PAIR" : PySem.Str) :: ("Lives" : PySem.Str) :: ("_law_pen" : PySem.Str) :: ("_law_draw" : PySem.Str) :: ("_law_pick" : PySem.Str) :: ("_law_tick" : PySem.Str) :: ("_law_crew" : PySem.Str) :: ("_law_kinds" : PySem.Str) :: ("_law_drawn" : PySem.Str) :: ("_law_named" : PySem.Str) :: ("_law_ticks" : PySem.Str) :: ("_law_made" : PySem.Str) :: ("_law_lasts" : PySem.Str) :: ("_law_pairs" : PySem.Str) :: ("_law_heard" : PySem.Str) :: ("_law_starts" : PySem.Str) :: ("_law_told" : PySem.Str) :: []) w) runA runB w
end Q
open PySem PySem.Spec PyProof.Rows L2 Q
local macro_rules | `(tactic| walk_at "ne") => `(tactic| first
  | assumption
  | (refine' Ne.symm ?h; (case h => assumption))
  | (refine' (by assumption : ∀ m ∈ _, _ ≠ m) _ ?h; (case h => simp))
  | (refine' Ne.symm ((by assumption : ∀ m ∈ _, _ ≠ m) _ ?h); (case h => simp)))
local macro_rules | `(tactic| walk_at "atg") => `(tactic| first
  | assumption
  | (refine' same_at ?s ?h; (case s => assumption); (case h => walk_at "atg")))
local macro_rules | `(tactic| walk_at "at") => `(tactic| first
  | assumption
  | exact upd_same
  | (refine' wd_at ?w ?h; (case w => assumption); (case h => walk_at "atg"))
  | (refine' same_at ?s ?h; (case s => assumption); (case h => walk_at "at"))
  | (refine' but_at ?b ?n ?h; (case b => assumption); (case h => walk_at "at"); (case n => walk_at "ne")))
local macro_rules | `(tactic| walk_at "sqg") => `(tactic| first
  | assumption
  | (refine' SqL.of ?h; (case h => walk_at "atg"))
  | (refine' SqT.of ?h; (case h => walk_at "atg"))
  | (refine' same_sqL ?s ?h; (case s => assumption); (case h => walk_at "sqg"))
  | (refine' same_sqT ?s ?h; (case s => assumption); (case h => walk_at "sqg")))
local macro_rules | `(tactic| walk_at "sq") => `(tactic| first
  | assumption
  | (refine' SqL.of ?h; (case h => walk_at "at"))
  | (refine' SqT.of ?h; (case h => walk_at "at"))
  | (refine' wd_sqL ?w ?h; (case w => assumption); (case h => walk_at "sqg"))
  | (refine' wd_sqT ?w ?h; (case w => assumption); (case h => walk_at "sqg")))
local macro_rules | `(tactic| walk_at "dpaG") => `(tactic| first
  | exact DpAll.nil
  | (refine' DpAll.cons ?a ?b; (case a => walk_at "dpG"); (case b => walk_at "dpaG"))
  | exact dpa_ints _
  | assumption
  | (refine' same_dpa ?s ?h; (case s => assumption); (case h => assumption)))
local macro_rules | `(tactic| walk_at "dpG") => `(tactic| first
  | exact Dp.bl _ | exact Dp.int _ | exact Dp.str _ | exact Dp.non
  | assumption
  | (refine' Dp.lst ?h ?a; (case h => walk_at "sqg"); (case a => walk_at "dpaG"))
  | (refine' Dp.tup ?h ?a; (case h => walk_at "sqg"); (case a => walk_at "dpaG"))
  | (refine' same_dp ?s ?h; (case s => assumption); (case h => walk_at "dpG")))
local macro_rules | `(tactic| walk_at "dpa") => `(tactic| first
  | exact DpAll.nil
  | (refine' DpAll.cons ?a ?b; (case a => walk_at "dp"); (case b => walk_at "dpa"))
  | exact dpa_ints _
  | assumption)
local macro_rules | `(tactic| walk_at "dp") => `(tactic| first
  | exact Dp.bl _ | exact Dp.int _ | exact Dp.str _ | exact Dp.non
  | assumption
  | (refine' wd_dp ?w ?h; (case w => assumption); (case h => walk_at "dpG"))
  | (refine' Dp.lst ?h ?a; (case h => walk_at "sq"); (case a => walk_at "dpa"))
  | (refine' Dp.tup ?h ?a; (case h => walk_at "sq"); (case a => walk_at "dpa")))
local macro_rules | `(tactic| walk_at "pen") => `(tactic| first
  | assumption
  | (refine' PenAt.same ?P ?s; (case s => assumption); (case P => walk_at "pen"))
  | (refine' PenAt.but ?P ?b ?n; (case b => assumption); (case P => walk_at "pen"); (case n => walk_at "ne")))
local macro_rules | `(tactic| walk_at "cells") => `(tactic| first
  | assumption
  | (refine' Cells.same ?P ?s; (case s => assumption); (case P => walk_at "cells")))
local macro_rules | `(tactic| walk_at "cond") => `(tactic| first | omega | decide | with_reducible assumption | (simp; done))
local macro_rules | `(tactic| walk_at "size") => `(tactic| first | decide | (refine' sz_m ?h; (case h => first | omega | exact Nat.le_of_ble_eq_true rfl | (simp; done) | (simp; omega))))
local macro_rules | `(tactic| walk_at "js") => `(tactic| (refine' sz_m ?h; (case h => (simp only [Str.length_append]; first | omega | (simp; omega) | (simp [Str.length, Str.empty]; omega)))))
local macro_rules | `(tactic| walk_at "lsz") => `(tactic| first | assumption | (refine' Nat.lt_of_lt_of_le (m := 1000000) ?h ?g; (case g => decide); (case h => first | exact Nat.le_of_ble_eq_true rfl | omega | (simp; done) | (simp; omega))))
local macro_rules | `(tactic| walk_at "say") => `(tactic| first
  | assumption
  | (refine' SayAt.same ?h ?s; (case s => assumption); (case h => walk_at "say")))
local macro_rules | `(tactic| walk_at "qu") => `(tactic| fail "no user step")
local macro_rules | `(tactic| walk_at "q") => `(tactic| first
  | with_reducible refine' r_seq ?_ | with_reducible refine' r_asg ?_ | with_reducible refine' r_name ?_ | with_reducible refine' r_op ?_
  | ((with_reducible refine' r_var ?h ?_); (case h => exact rfl))
  | with_reducible refine' r_c ?_ | with_reducible refine' r_cb ?_ | with_reducible refine' r_cons ?_ | with_reducible refine' r_nil ?_
  | with_reducible refine' r_call0 ?_ | with_reducible refine' r_call ?_ | with_reducible refine' r_ret ?_ | with_reducible refine' r_next ?_ | with_reducible refine' r_drop ?_ | with_reducible refine' r_ifS ?_
  | with_reducible refine' r_test ?_ | with_reducible refine' r_tB ?_ | with_reducible refine' r_exb ?_ | with_reducible refine' r_and ?_ | with_reducible refine' r_or ?_ | with_reducible refine' r_not ?_
  | with_reducible refine' r_andV ?_ | with_reducible refine' r_orV ?_ | with_reducible refine' r_notV ?_ | with_reducible refine' r_ifE ?_ | with_reducible refine' r_chain ?_ | with_reducible refine' r_un ?_
  | with_reducible refine' r_tup ?_ | with_reducible refine' r_lst ?_ | with_reducible refine' r_lstM ?_ | with_reducible refine' r_gSub ?_ | with_reducible refine' r_sl ?_ | with_reducible refine' r_noPart ?_ | with_reducible refine' r_part ?_ | with_reducible refine' r_exi ?_
  | with_reducible refine' iteT ?_ | with_reducible refine' iteF ?_ | with_reducible refine' ite_nt ?_ | with_reducible refine' ite_nf ?_
  | with_reducible refine' r_addI ?_ | with_reducible refine' r_sub ?_ | with_reducible refine' r_lt ?_ | with_reducible refine' r_le ?_ | with_reducible refine' r_gt ?_ | with_reducible refine' r_ge ?_ | with_reducible refine' r_ltS ?_
  | with_reducible refine' r_isN ?_ | with_reducible refine' r_notN ?_
  | with_reducible refine' r_int ?_ | with_reducible refine' r_intB ?_ | with_reducible refine' r_abs ?_
  | ((with_reducible refine' r_addS ?h ?_); (case h => first | walk_at "size" | walk_at "cond"))
  | ((with_reducible refine' r_mul ?h ?_); (case h => first | (exact Or.inl ⟨by walk_at "cond", by walk_at "cond"⟩) | (exact Or.inr ⟨by walk_at "cond", by walk_at "cond"⟩)))
  | ((with_reducible refine' r_mod ?h ?_); (case h => walk_at "cond"))
  | ((with_reducible refine' r_fdiv ?h ?_); (case h => first | with_reducible assumption | exact cdiv_lit (by decide) (by decide) | (refine ‹∀ x : Int, CDivW x _› _)))
  | ((with_reducible refine' r_pow ?h ?_); (case h => exact ⟨by walk_at "cond", by walk_at "cond", by walk_at "cond"⟩))
  | ((with_reducible refine' r_ixL ?h ?e ?_); (case h => walk_at "sq"); (case e => first | exact rfl | assumption))
  | ((with_reducible refine' r_ixT ?h ?e ?_); (case h => walk_at "sq"); (case e => first | exact rfl | assumption))
  | ((with_reducible refine' r_setM ?w ?m ?h ?e ?_); (case w => assumption); (case m => simp; done); (case h => walk_at "at"); (case e => exact rfl); intro H' w' h' b')
  | ((with_reducible refine' r_lenL ?h ?_); (case h => walk_at "sq"))
  | ((with_reducible refine' r_lenT ?h ?_); (case h => walk_at "sq"))
  | ((with_reducible refine' r_lenS ?h ?_); (case h => walk_at "size"))
  | ((with_reducible refine' r_ixS ?h ?e ?_); (case h => walk_at "size"); (case e => first | assumption | exact rfl))
  | ((with_reducible refine' r_ixA ?h ?e ?_); (case h => assumption); (case e => first | assumption | exact rfl))
  | ((with_reducible refine' r_listL ?h ?_); (case h => walk_at "sq"))
  | ((with_reducible refine' r_listT ?h ?_); (case h => walk_at "sq"))
  | ((with_reducible refine' r_slS ?h ?_); (case h => walk_at "size"))
  | ((with_reducible refine' r_addL ?h1 ?h2 ?_); (case h1 => walk_at "at"); (case h2 => walk_at "at"))
  | ((with_reducible refine' r_slL ?h ?_); (case h => walk_at "sq"))
  | ((with_reducible refine' r_eq ?h ?_); (case h => exact rfl))
  | with_reducible refine' r_tFldX ?_ | ((with_reducible refine' r_tyL ?h ?_); (case h => walk_at "sq"))
  | ((with_reducible refine' r_eqS ?h ?_); (case h => exact rfl))
  | ((with_reducible refine' r_neS ?h ?_); (case h => exact rfl))
  | ((with_reducible refine' r_eqD ?h1 ?h2 ?s1 ?s2 ?_); (case h1 => walk_at "dp"); (case h2 => walk_at "dp"); (case s1 => walk_at "shp"); (case s2 => walk_at "shp"))
  | ((with_reducible refine' r_neD ?h1 ?h2 ?s1 ?s2 ?_); (case h1 => walk_at "dp"); (case h2 => walk_at "dp"); (case s1 => walk_at "shp"); (case s2 => walk_at "shp"))
  | ((with_reducible refine' r_repr ?h ?s ?d ?z ?_); (case h => walk_at "dp"); (case s => walk_at "shw"); (case d => walk_at "shw"); (case z => walk_at "shw"))
  | ((with_reducible refine' r_layM ?w ?l ?n ?_); (case w => assumption); (case l => walk_at "size"); (case n => rfl); intro p' H' n' w' h' s' d')
  | ((with_reducible refine' r_lay ?w ?l ?n ?_); (case w => assumption); (case l => walk_at "size"); (case n => (intro ps z; cases z)); intro p' G' H' n' w' s' h' t')
  | with_reducible refine' r_for ?_ | with_reducible refine' r_lc ?_ | with_reducible refine' r_iList ?_ | with_reducible refine' r_iTup ?_ | with_reducible refine' r_iStr ?_ | with_reducible refine' r_exs ?_
  | with_reducible refine' r_rng1 ?_ | with_reducible refine' r_rng2 ?_ | with_reducible refine' r_iEnum ?_ | with_reducible refine' r_yes ?_ | with_reducible refine' r_inSign ?_
  | ((with_reducible refine' r_rng1R ?a ?b ?_); (case a => walk_at "cond"); (case b => walk_at "cond"))
  | ((with_reducible refine' r_rng2R ?a ?_); (case a => exact ⟨by walk_at "cond", by walk_at "cond", by walk_at "cond", by walk_at "cond"⟩))
  | ((with_reducible refine' r_iListR ?h ?_); (case h => walk_at "sq"))
  | ((with_reducible refine' r_iTupR ?h ?_); (case h => walk_at "sq"))
  | ((with_reducible refine' r_iEnumR ?h ?_); (case h => walk_at "sq"))
  | ((with_reducible refine' r_lcT ?h ?_); (case h => exact rfl))
  | ((with_reducible refine' r_all ?h ?_); (case h => walk_at "sq"))
  | with_reducible refine' r_isi_int_int ?_ | with_reducible refine' r_isi_int_bool ?_ | with_reducible refine' r_isi_int_str ?_ | with_reducible refine' r_isi_int_list ?_ | with_reducible refine' r_isi_int_tuple ?_ | with_reducible refine' r_isi_int_dict ?_ | with_reducible refine' r_isi_bl_int ?_ | with_reducible refine' r_isi_bl_bool ?_ | with_reducible refine' r_isi_bl_str ?_ | with_reducible refine' r_isi_bl_list ?_ | with_reducible refine' r_isi_bl_tuple ?_ | with_reducible refine' r_isi_bl_dict ?_ | with_reducible refine' r_isi_str_int ?_ | with_reducible refine' r_isi_str_bool ?_ | with_reducible refine' r_isi_str_str ?_ | with_reducible refine' r_isi_str_list ?_ | with_reducible refine' r_isi_str_tuple ?_ | with_reducible refine' r_isi_str_dict ?_ | with_reducible refine' r_isi_non_int ?_ | with_reducible refine' r_isi_non_bool ?_ | with_reducible refine' r_isi_non_str ?_ | with_reducible refine' r_isi_non_list ?_ | with_reducible refine' r_isi_non_tuple ?_ | with_reducible refine' r_isi_non_dict ?_
  | ((with_reducible refine' r_isi ?h ?e ?_); (case h => walk_at "ty"); (case e => first | assumption | exact kt_list_int | exact kt_list_bool | exact kt_list_str | exact kt_list_list | exact kt_list_tuple | exact kt_list_dict | exact kt_tuple_int | exact kt_tuple_bool | exact kt_tuple_str | exact kt_tuple_list | exact kt_tuple_tuple | exact kt_tuple_dict | exact kt_dict_int | exact kt_dict_bool | exact kt_dict_str | exact kt_dict_list | exact kt_dict_tuple | exact kt_dict_dict))
  | ((with_reducible refine' r_isiC ?h ?e ?_); (case h => walk_at "ty"); (case e => assumption))
  | ((with_reducible refine' r_inL ?h ?f ?g ?_); (case h => walk_at "sq"); (case f => exact rfl); (case g => first | exact rfl | assumption))
  | ((with_reducible refine' r_inT ?h ?f ?g ?_); (case h => walk_at "sq"); (case f => exact rfl); (case g => first | exact rfl | assumption))
  | ((with_reducible refine' r_ninL ?h ?f ?g ?_); (case h => walk_at "sq"); (case f => exact rfl); (case g => first | exact rfl | assumption))
  | ((with_reducible refine' r_ninT ?h ?f ?g ?_); (case h => walk_at "sq"); (case f => exact rfl); (case g => first | exact rfl | assumption))
  | ((with_reducible refine' r_lcAdd ?w ?s ?h ?l ?i ?_); (case w => assumption); (case s => walk_at "sg"); (case h => walk_at "at"); (case l => assumption); (case i => omega); intro H' w' b')
  | with_reducible refine' r_tFld ?_ | with_reducible refine' r_sFld ?_ | with_reducible refine' r_tProp ?_ | with_reducible refine' r_tMeth ?_ | with_reducible refine' r_tMethK ?_ | with_reducible refine' r_tMake ?_
  | with_reducible refine' r_tBM ?_ | ((with_reducible refine' r_tyL ?h ?_); (case h => walk_at "sq"))
  | ((with_reducible refine' r_appM ?w ?m ?h ?l ?_); (case w => assumption); (case m => simp; done); (case h => walk_at "at"); (case l => walk_at "lsz"); intro H' w' h' b')
  | with_reducible refine' r_tRaise ?_
  | with_reducible refine' r_dnewK ?_ | with_reducible refine' r_un ?_ | with_reducible refine' r_neg ?_ | with_reducible refine' r_tStat ?_ | with_reducible refine' r_tStatK ?_ | with_reducible refine' r_stat ?_ | with_reducible refine' r_tMakeK ?_
  | ((with_reducible refine' r_rep ?h ?a ?b ?z ?_); (case h => walk_at "at"); (case a => decide); (case b => decide); (case z => first | decide | exact Nat.le_trans (Nat.le_of_ble_eq_true rfl : _ ≤ 1000000) (by decide)))
  | with_reducible refine' r_tFmt ?_ | with_reducible refine' r_jnil ?_ | with_reducible refine' r_jcons ?_
  | ((with_reducible refine' r_fld ?h ?c ?n ?l ?_); (case h => walk_at "at"); (case c => assumption); (case n => assumption); (case l => exact rfl))
  | ((with_reducible refine' r_setF ?w ?m ?h ?c ?n ?l ?_); (case w => assumption); (case m => simp; done); (case h => walk_at "at"); (case c => assumption); (case n => assumption); (case l => first | decide | exact Nat.le_of_ble_eq_true rfl); intro H' w' h' b')
  | ((with_reducible refine' r_prop ?h ?_); (case h => walk_at "at"))
  | ((with_reducible refine' r_meth ?h ?l ?_); (case h => walk_at "at"); (case l => exact rfl))
  | ((with_reducible refine' r_methK ?h ?l ?_); (case h => walk_at "at"); (case l => exact rfl))
  | ((with_reducible refine' r_fmtS ?h ?_); (case h => walk_at "size"))
  | ((with_reducible refine' r_fmtI ?h ?_); (case h => assumption))
  | ((with_reducible refine' r_jk ?h ?_); (case h => walk_at "js"))
  | ((with_reducible refine' u_isInt ?w ?h ?_); (case w => assumption); (case h => walk_at "kd"); intro G' H' w' s' t')
  | ((with_reducible refine' u_moment ?w ?h ?_); (case w => assumption); (case h => walk_at "kd"); intro G' H' w' s' t')
  | ((with_reducible refine' u_moment0 ?w ?h ?_); (case w => assumption); (case h => walk_at "kd"); intro G' H' w' s' t')
  | ((with_reducible refine' u_isName ?w ?h ?z ?_); (case w => assumption); (case h => walk_at "kd"); (case z => assumption); intro G' H' w' s' t')
  | with_reducible refine' r_par ?_ | with_reducible refine' r_parK ?_ | with_reducible refine' r_dnewM ?_ | with_reducible refine' r_sDPut ?_ | with_reducible refine' r_tDGet ?_ | with_reducible refine' r_strS ?_ | with_reducible refine' r_iKeys ?_ | with_reducible refine' r_tDGet2 ?_
  | with_reducible refine' r_notInSign ?_ | with_reducible refine' r_tFrzV ?_ | with_reducible refine' r_iSeq ?_ | with_reducible refine' r_dc ?_ | ((with_reducible refine' r_dcT ?h ?_); (case h => exact rfl)) | with_reducible refine' r_tStar ?_
  | ((with_reducible refine' r_dcAdd ?w ?s ?h ?l ?i ?_); (case w => assumption); (case s => walk_at "sg"); (case h => walk_at "at"); (case l => assumption); (case i => omega); intro H' w' b')
  | ((with_reducible refine' r_starL ?h ?_); (case h => walk_at "sq"))
  | with_reducible refine' r_dt ?_ | ((with_reducible refine' r_dtT ?h ?_); (case h => exact rfl)) | with_reducible refine' r_lc2 ?_ | ((with_reducible refine' r_l2T ?h ?_); (case h => exact rfl))
  | ((with_reducible refine' r_dtAdd ?w ?s ?h ?l ?i ?b ?_); (case w => assumption); (case s => walk_at "sg"); (case h => walk_at "at"); (case l => assumption); (case i => omega); (case b => walk_at "at"); intro H' w' b')
  | ((with_reducible refine' r_l2Add ?w ?s ?h ?l ?_); (case w => assumption); (case s => walk_at "sg"); (case h => walk_at "at"); (case l => first | assumption | omega); intro H' w' b')
  | with_reducible refine' r_gNil ?_ | with_reducible refine' r_gCons ?_ | ((with_reducible refine' r_gTupR ?h ?l ?_); (case h => walk_at "sq"); (case l => exact rfl))
  | ((with_reducible refine' r_strN ?h ?_); (case h => assumption))
  | with_reducible refine' r_tRev ?_ | ((with_reducible refine' r_revL ?h ?_); (case h => walk_at "sq")) | with_reducible refine' r_par3 ?_ | with_reducible refine' r_par3K ?_
  | with_reducible refine' r_tM1 ?_ | with_reducible refine' r_strAnd ?_ | with_reducible refine' r_tOrT ?_
  | ((with_reducible refine' r_lenF ?h ?_); (case h => walk_at "at")) | ((with_reducible refine' r_isiF ?h ?_); (case h => walk_at "at"))
  | with_reducible refine' r_iEnumT ?_ | ((with_reducible refine' r_iEnumTR ?h ?_); (case h => walk_at "sq"))
  | walk_at "qu")
local macro_rules | `(tactic| walk_at "sg") => `(tactic| first
  | assumption | exact Same.refl _
  | (refine' Same.trans ?a ?b; (case b => assumption); walk_at "sg"))
local macro_rules | `(tactic| walk_at "kd") => `(tactic| first
  | exact kd_int _ | exact kd_bl _ | exact kd_str _ | exact kd_non | assumption
  | (refine' kd_tup ?h; (case h => walk_at "atg"))
  | (refine' kd_lst ?h; (case h => walk_at "atg"))
  | (refine' Kd.same ?h ?s; (case s => assumption); (case h => walk_at "kd")))
local macro_rules | `(tactic| walk_at "ty") => `(tactic| first
  | assumption | exact .base (.int _) | exact .base (.bl _) | exact .base (.str _) | exact .base .non
  | (refine' same_ty ?s ?h; (case s => assumption); (case h => walk_at "ty"))
  | (refine' same_ty ?s ?h; (case s => exact Wd.le (by assumption)); (case h => walk_at "ty")))
local macro_rules | `(tactic| walk_at "shp") => `(tactic| first | assumption | exact shaped_ints _ | exact shaped_nil | decide | (simp [SeqAt.shaped, PyData.canLay0, PyData.canLayAll0, PyData.depth, PyData.depthAll]; done))
local macro_rules | `(tactic| walk_at "shw") => `(tactic| first | assumption | decide | (simp; done))
local macro_rules | `(tactic| walk_at "qq") => `(tactic| repeat walk_at "q")
namespace Q
theorem cut63_len (xs : List V) : (cutV xs none (some 63)).length ≤ 63 := by
  unfold cutV
  rw [List.length_take]
  have : HT.sIx xs.length xs.length (some 63) ≤ 63 := by
    simp only [HT.sIx]
    first | omega | (split <;> omega) | (simp; omega)
  omega
abbrev nDraw : List Str := ["_law_pen_here", "_law_many", "_law_digit", "_law_at", "_law_cell", "_law_great", "_law_mixed"]
theorem scDraw : FnScope nDraw ["_law_pen_here", "_law_many"] (defScope sDraw) := ⟨rfl, rfl, rfl, by decide +kernel, rfl, by decide +kernel, by decide +kernel⟩
section
variable {P : Program} {w : World} {K : PySem.W.Frag} {mg : Str → Option Value} {base : Heap}
theorem ok_draw {f : Addr} {fd : FuncData} (F : FnP K "_law_draw" "_law_draw" sDraw [] f fd) (T : Bi mg) : FnOk P w K mg base CX0 2 f fd ["_law_pen_here", "_law_many"] spDraw := by
  refine fnP_ok F scDraw (fun vs H Q E h => ?_) (fun cdv A outer s H vs Q E hr h => ?_)
  · obtain ⟨G, p, c, n, many, rfl, _⟩ := h
    rfl
  · obtain ⟨G, p, c, n, many, rfl, sG, gp, hc, hp, hn, h0, hb, k⟩ := h
    have hu64 := hr.units
    refine ⟨_, (pss_cons (ps_if (pt_cmpR q_gt (pe_ix q_ix (pv 0) pe_int (fun _ _ => rfl)) pe_int (nomark _)) (pss_cons (ps_set (i := 2) scDraw.nd rfl (Or.inl rfl) (pe_op q_mod (pe_callTy q_int (by rfl) T.int (by decide +kernel) (pa_cons (pe_ix q_ix (pv 0) pe_int (fun _ _ => rfl)) pa_nil)) (pv 1)))
        (pss_cons (ps_asg (pe_op q_fdiv (pe_callTy q_int (by rfl) T.int (by decide +kernel) (pa_cons (pe_ix q_ix (pv 0) pe_int (fun _ _ => rfl)) pa_nil)) (pv 1)) (pg_sub (pv 0) pe_int set_list))
        (pss_one (ps_ret (pv 2))))) pss_nil)
        (pss_cons (ps_set (i := 3) scDraw.nd rfl (Or.inl rfl) (pe_ix q_ix (pv 0) pe_int (fun _ _ => rfl)))
        (pss_cons (ps_asg (pe_op q_add (pv 3) pe_int) (pg_sub (pv 0) pe_int set_list))
        (pss_cons (ps_set (i := 4) scDraw.nd rfl (Or.inl rfl) (pe_op q_add (pe_op q_mul pe_int (pv 3)) pe_int))
        (Evl.pss_cut (ps_if (pt_cmpR (q_ne hu64) (pe_ix q_ix (pv 0) pe_int (fun _ _ => rfl)) (pe_lst pa_nil) (nomark _)) (pss_one (ps_set (i := 4) scDraw.nd rfl (Or.inl rfl) (pe_ix q_ix (pe_ix q_ix (pv 0) pe_int (fun _ _ => rfl)) (pe_op q_mod (pe_callTy q_int (by rfl) T.int (by decide +kernel) (pa_cons (pv 3) pa_nil)) (pe_callB q_len (by rfl) T.len (by decide +kernel) (pa_cons (pe_ix q_ix (pv 0) pe_int (fun _ _ => rfl)) pa_nil))) (fun _ _ => rfl)))) pss_nil)
        (Evl.pss_cut (ps_if (PW.pt (pw_and (pt_cmpR q_lt (pv 3) (pe_callB q_len (by rfl) T.len (by decide +kernel) (pa_cons (pe_ix q_ix (pv 0) pe_int (fun _ _ => rfl)) pa_nil)) (nomark _)) (pw_and1 (pt_cmpR q_ge (pe_callB q_abs (by rfl) T.abs (by decide +kernel) (pa_cons (pv 4) pa_nil)) (pe_op q_pow pe_int pe_int) (nomark _))))) (pss_cons (ps_set (i := 5) scDraw.nd rfl (Or.inl rfl) (pe_op q_add (pe_op q_mul pe_int (pe_op q_sub (pe_callB q_abs (by rfl) T.abs (by decide +kernel) (pa_cons (pv 4) pa_nil)) (pe_op q_pow pe_int pe_int))) (pe_callTy q_int (by rfl) T.int (by decide +kernel) (pa_cons (pe_cmpR q_lt (pv 4) pe_int (nomark _)) pa_nil))))
        (pss_cons (ps_asg (pe_op q_fdiv (pe_callTy q_int (by rfl) T.int (by decide +kernel) (pa_cons (pv 5) pa_nil)) (pv 1)) (pg_sub (pv 0) pe_int set_list))
        (pss_one (ps_ret (pe_op q_mod (pe_callTy q_int (by rfl) T.int (by decide +kernel) (pa_cons (pv 5) pa_nil)) (pv 1)))))) pss_nil)
        (pss_cons (ps_set (i := 6) scDraw.nd rfl (Or.inl rfl) (pe_op q_mod (pe_callTy q_int (by rfl) T.int (by decide +kernel) (pa_cons (pe_op q_pow (pe_op q_add (pe_op q_add (pe_op q_mod (pe_callTy q_int (by rfl) T.int (by decide +kernel) (pa_cons (pv 4) pa_nil)) pe_int) (pe_op q_mul pe_int (pv 3))) pe_int) pe_int) pa_nil)) pe_int))
        (pss_cons (ps_set (i := 6) scDraw.nd rfl (Or.inl rfl) (pe_op q_mod (pe_callTy q_int (by rfl) T.int (by decide +kernel) (pa_cons (pe_op q_pow (pe_op q_add (pe_op q_add (pe_op q_mul (pv 6) (pe_op q_add (pe_op q_mul pe_int (pv 3)) pe_int)) (pe_op q_mul (pe_op q_mul pe_int (pv 3)) (pv 3))) pe_int) pe_int) pa_nil)) pe_int))
        (pss_one (ps_ret (pe_op q_mod (pe_callTy q_int (by rfl) T.int (by decide +kernel) (pa_cons (pe_op q_fdiv (pv 6) pe_int) pa_nil)) (pv 1)))))))))))), ?_⟩
    have hdw : ∀ x : Int, CDivW x many := fun x => wide_div (b := 300) h0 (by omega) (by decide) (by decide)
    have hm2 : ∀ x : Int, 0 ≤ x % many ∧ x % many < many := fun x => ⟨Int.emod_nonneg _ (by omega), Int.emod_lt_of_pos _ h0⟩
    obtain ⟨at_, g, h1, ha, hg⟩ := hp
    obtain ⟨ns, h2, hl⟩ := hc
    have w0 : Wd ⟨H, G, [p], []⟩ G H [p] := wd_start sG (fun a h => by rw [List.mem_singleton.mp h]; exact ⟨gp, _, h1, rfl⟩) (by simp)
    have fin : ∀ (x g' : Int) (m : Nat) (G' H' : Hp) (M : List Addr), Wd ⟨H, G, [p], []⟩ G' H' M → H' p = some (.lst [.ref c, .int m, .int g']) → m ≤ n + 1 → 0 ≤ g' → Q (.int (x % many)) H' := fun x g' m G' H' M w' e1 e2 e3 =>
      retP_of k w' ⟨m, g', e1, e2, e3⟩ ⟨_, rfl, hm2 x⟩
    have hat : (at_ : Int) ≤ 1048576 := by omega
    walk_at "qq"
    refine ite2 (fun hg0 => ?_) (fun hg0 => ?_)
    · walk_at "qq"
      exact fin _ _ at_ G _ [p] (by assumption) (by walk_at "at") (by omega) (Int.ediv_nonneg hg (by omega))
    walk_at "qq"
    refine ⟨fun σ' H' => ∃ (cell : Int) (G' : Hp), σ' = [some (.ref p), some (.int many), none, some (.int at_), some (.int cell), none, none] ∧
      Wd ⟨H, G, [p], []⟩ G' H' [p] ∧ Same G G' ∧ H' p = some (.lst [.ref c, .int (at_ + 1), .int g]), ?_, ?_⟩
    · walk_at "qq"
      rw [eqv_nil]
      cases ns with
      | nil =>
        refine iteF ?_
        walk_at "qq"
        exact ⟨_, _, rfl, by assumption, by assumption, by walk_at "at"⟩
      | cons n0 nr =>
        obtain ⟨z, hz⟩ := at_mod_ints (ns := n0 :: nr) at_ (by simp)
        have hpos : (0 : Int) < ((List.map V.int (n0 :: nr)).length : Int) := by simp
        refine iteT ?_
        walk_at "qq"
        exact ⟨_, _, rfl, by assumption, by assumption, by walk_at "at"⟩
    · rintro σ' H' ⟨cell, G1, rfl, w1, s1, h1⟩
      walk_at "qq"
      refine ⟨fun σ' H2 => σ' = [some (.ref p), some (.int many), none, some (.int at_), some (.int cell), none, none] ∧ H2 = H', ?_, ?_⟩
      · walk_at "qq"
        refine ite2 (fun h3 => ?_) (fun _ => ?_)
        · walk_at "qq"
          refine ite2 (fun h4 => ?_) (fun _ => ?_)
          · walk_at "qq"
            have h5 := of_decide_eq_true h4
            refine fin _ _ (at_ + 1) G1 _ [p] (by assumption) (by walk_at "at") (by omega) (Int.ediv_nonneg ?_ (by omega))
            have e : (10 : Int) ^ Int.toNat 18 = 1000000000000000000 := by decide
            rw [e] at h5 ⊢
            have e2 : (0 : Int) ≤ if decide (cell < 0) = true then 1 else 0 := by split <;> decide
            omega
          · walk_at "qq"
            exact ⟨rfl, rfl⟩
        · walk_at "qq"
          exact ⟨rfl, rfl⟩
      · rintro σ' H2 ⟨rfl, rfl⟩
        walk_at "qq"
        refine r_pow ⟨by decide, by decide, pow_small (by omega) (by omega) (by omega) (by omega) (by decide) (by decide) (by omega) (by omega) (by decide) (by decide)⟩ ?_
        walk_at "qq"
        exact fin _ _ (at_ + 1) G1 _ [p] w1 h1 (by omega) hg
end
section
variable {P : Program} {w : World} {K : PySem.W.Frag} {mg : Str → Option Value} {base : Heap}
abbrev nPen : List Str := ["_law_script"]
theorem scPen : FnScope nPen ["_law_script"] (defScope sPen) := ⟨rfl, rfl, rfl, by decide +kernel, rfl, by decide +kernel, by decide +kernel⟩
theorem ok_pen {f : Addr} {fd : FuncData} (F : FnP K "_law_pen" "_law_pen" sPen [] f fd) (T : Bi mg) : FnOk P w K mg base CX0 1 f fd ["_law_script"] (spPen K) := by
  refine fnP_ok F scPen (fun vs H Q E h => ?_) (fun cdv A outer s H vs Q E hr h => ?_)
  · obtain ⟨G, a, ns, rfl, _⟩ := h
    rfl
  · obtain ⟨G, a, ns, rfl, sG, ha, hl, k⟩ := h
    have hu64 := hr.units
    refine ⟨_, (pss_one (ps_ret (pe_lstM (pa_cons (pe_callTy q_list (by rfl) T.list (by decide +kernel) (pa_cons (pe_slice sl_list (pv 0) po_none (po_some pe_int)) pa_nil)) (pa_cons pe_int (pa_cons pe_int pa_nil)))))), ?_⟩
    have w0 := wd_pure sG
    obtain ⟨ms, hms⟩ := cutV_ints ns none (some 63)
    have hml : ms.length ≤ 63 := by
      have e := congrArg List.length hms
      rw [List.length_map] at e
      rw [← e]
      exact cut63_len _
    walk_at "qq"
    rename_i p3 H3 n3 w3 h3 s3 d3
    have mu := w3.mu p3 List.mem_cons_self
    refine k p3 _ _ H3 (fun a o h => w3.kp a o (by simp) h) w3.gh w3.gr w3.fr mu.1 ?_ ⟨ms, ?_, hml⟩ ⟨0, 0, h3, Nat.le_refl _, Int.le_refl _⟩
    · rcases mu.2.2 with h | h
      · exact h
      · simp at h
    · rw [← hms]
      walk_at "at"
abbrev nPick : List Str := ["_law_pen_here", "_law_some"]
theorem scPick : FnScope nPick ["_law_pen_here", "_law_some"] (defScope sPick) := ⟨rfl, rfl, rfl, by decide +kernel, rfl, by decide +kernel, by decide +kernel⟩
theorem ok_pick {f : Addr} {fd : FuncData} (F : FnP K "_law_pick" "_law_pick" sPick [] f fd) (T : Bi mg) (Dd : Df P w K mg base CX0 2 "_law_draw" [] spDraw) : FnOk P w K mg base CX0 3 f fd ["_law_pen_here", "_law_some"] (spPick K) := by
  refine fnP_ok F scPick (fun vs H Q E h => ?_) (fun cdv A outer s H vs Q E hr h => ?_)
  · obtain ⟨G, p, c, n, z, xs, rfl, _⟩ := h
    rfl
  · obtain ⟨G, p, c, n, z, xs, rfl, sG, gp, hc, hp, hn, hs, h0, hb, k⟩ := h
    have hu64 := hr.units
    refine ⟨_, (pss_one (ps_ret (pe_ix q_ix (pv 1) (pe_callD Dd hr pass0 (pa_cons (pv 0) (pa_cons (pe_callB q_len (by rfl) T.len (by decide +kernel) (pa_cons (pv 1) pa_nil)) pa_nil))) (fun _ _ => rfl)))), ?_⟩
    have w0 : Wd ⟨H, G, [p], []⟩ G H [p] := by
      obtain ⟨a, g, h1, _⟩ := hp
      exact wd_start sG (fun a h => by rw [List.mem_singleton.mp h]; exact ⟨gp, _, h1, rfl⟩) (by simp)
    have hlen : 0 < xs.length := by cases xs with
      | nil => exact absurd rfl h0
      | cons _ _ => simp
    rcases hs with ⟨l, rfl, hl⟩ | ⟨z, rfl, hz, rfl⟩
    · rcases hl with hl | hl
      · walk_at "qq"
        refine u_draw w0 (by simp) hc hp hn (by omega) (by omega) fun d G' H' w' s' b' P' d0 d1 => ?_
        obtain ⟨j, rfl⟩ := Int.eq_ofNat_of_zero_le d0
        have hj : j < xs.length := by omega
        have hx := List.getElem?_eq_getElem hj
        have hat := atI_nat hx
        walk_at "qq"
        exact retP_of k w' P' (List.getElem_mem hj)
      · walk_at "qq"
        refine u_draw w0 (by simp) hc hp hn (by omega) (by omega) fun d G' H' w' s' b' P' d0 d1 => ?_
        obtain ⟨j, rfl⟩ := Int.eq_ofNat_of_zero_le d0
        have hj : j < xs.length := by omega
        have hx := List.getElem?_eq_getElem hj
        have hat := atI_nat hx
        walk_at "qq"
        exact retP_of k w' P' (List.getElem_mem hj)
    · have hzl : z.cps.toList.length = z.length := by simp [Str.length]
      rw [List.length_map, hzl] at hlen
      walk_at "qq"
      refine u_draw w0 (by simp) hc hp hn (by omega) (by omega) fun d G' H' w' s' b' P' d0 d1 => ?_
      obtain ⟨j, rfl⟩ := Int.eq_ofNat_of_zero_le d0
      have hj : j < z.cps.toList.length := by omega
      have hx := List.getElem?_eq_getElem hj
      have hat := atI_nat hx
      walk_at "qq"
      exact retP_of k w' P' (List.mem_map.mpr ⟨_, List.getElem_mem hj, rfl⟩)
end
section
variable {P : Program} {w : World} {K : PySem.W.Frag} {mg : Str → Option Value} {base : Heap}
abbrev nIsInt : List Str := ["thing"]
theorem scIsInt : FnScope nIsInt ["thing"] (defScope sIsInt) := ⟨rfl, rfl, rfl, by decide +kernel, rfl, by decide +kernel, by decide +kernel⟩
theorem ok_isInt {f : Addr} {fd : FuncData} (F : FnP K "is_integer" "is_integer" sIsInt [] f fd) (T : Bi mg) : FnOk P w K mg base CX0 1 f fd ["thing"] (spIsInt K) := by
  refine fnP_ok F scIsInt (fun vs H Q E h => ?_) (fun cdv A outer s H vs Q E hr h => ?_)
  · obtain ⟨G, x, t, rfl, _⟩ := h
    rfl
  · obtain ⟨G, x, t, rfl, sG, hx, k⟩ := h
    have hu64 := hr.units
    refine ⟨_, (pss_one (ps_ret (pe_and (pe_callB call_isi (by rfl) T.isinstance (by decide +kernel) (pa_cons (pv 0) (pa_cons (pe_bltn (v := .ty "int") (by rfl) T.int (by decide +kernel) rfl) pa_nil))) (pe_one (pe_not (pe_callB call_isi (by rfl) T.isinstance (by decide +kernel) (pa_cons (pv 0) (pa_cons (pe_bltn (v := .ty "bool") (by rfl) T.bool (by decide +kernel) rfl) pa_nil)))))))), ?_⟩
    have w0 := wd_pure sG
    have h1 := same_ty sG.1 hx.ty
    have h2 := hx.int
    have h3 := hx.bool
    walk_at "qq"
    cases x <;> first
      | (refine iteF ?_; exact ret_of k w0 rfl)
      | (refine iteT ?_; walk_at "qq"; exact ret_of k (by assumption) rfl)
abbrev nMoment : List Str := ["thing", "least"]
theorem scMoment : FnScope nMoment ["thing", "least"] (defScope sMoment) := ⟨rfl, rfl, rfl, by decide +kernel, rfl, by decide +kernel, by decide +kernel⟩
theorem ok_moment {f : Addr} {fd : FuncData} (F : FnP K "is_moment" "is_moment" sMoment [.int 0] f fd) (T : Bi mg) (C : Nm K mg) (D1 : Df P w K mg base CX0 1 "is_integer" [] (spIsInt K)) : FnOk P w K mg base CX0 2 f fd ["thing", "least"] (spMoment K) := by
  refine fnP_ok F scMoment (fun vs H Q E h => ?_) (fun cdv A outer s H vs Q E hr h => ?_)
  · obtain ⟨G, x, t, l, rfl, _⟩ := h
    rfl
  · obtain ⟨G, x, t, l, rfl, sG, hx, k⟩ := h
    have hu64 := hr.units
    refine ⟨_, (pss_one (ps_ret (pe_and (pe_callD D1 hr pass0 (pa_cons (pv 0) pa_nil)) (pe_one (pe_chain q_le q_le (pv 1) (pv 0) (pe_gc C.MOST_MOMENT)))))), ?_⟩
    have w0 := wd_pure sG
    walk_at "qq"
    cases x <;> first
      | (refine iteF ?_; exact ret_of k (by assumption) rfl)
      | skip
    refine iteT ?_
    walk_at "qq"
    refine ite2 (fun c1 => ?_) (fun c1 => ?_)
    · walk_at "qq"
      refine ret_of k (by assumption) ?_
      show V.bl _ = V.bl (_ && _)
      rw [c1] <;> rfl
    · refine ret_of k (by assumption) ?_
      show V.bl _ = V.bl (_ && _)
      rw [Bool.eq_false_iff.mpr c1] <;> rfl
abbrev nIsName : List Str := ["thing", "sign"]
theorem scIsName : FnScope nIsName ["thing"] (defScope sIsName) := ⟨rfl, rfl, rfl, by decide +kernel, rfl, by decide +kernel, by decide +kernel⟩
theorem ok_isName {f : Addr} {fd : FuncData} (F : FnP K "is_name" "is_name" sIsName [] f fd) (T : Bi mg) (C : Nm K mg) : FnOk P w K mg base CX0 1 f fd ["thing"] (spIsName K) := by
  refine fnP_ok F scIsName (fun vs H Q E h => ?_) (fun cdv A outer s H vs Q E hr h => ?_)
  · obtain ⟨G, x, t, rfl, _⟩ := h
    rfl
  · obtain ⟨G, x, t, rfl, sG, hx, hz, k⟩ := h
    have hu64 := hr.units
    obtain ⟨ar, hres, hresT⟩ := C.RESERVED
    refine ⟨_, (Evl.pss_cut (ps_if (PW.pt (pw_or (pt_not (pt_val (pe_callB call_isi (by rfl) T.isinstance (by decide +kernel) (pa_cons (pv 0) (pa_cons (pe_bltn (v := .ty "str") (by rfl) T.str (by decide +kernel) rfl) pa_nil))))) (pw_or (pt_not (pt_chain q_le q_le pe_int (pe_callB q_len (by rfl) T.len (by decide +kernel) (pa_cons (pv 0) pa_nil)) (pe_gc C.MOST_SIGNS))) (pw_or1 (pt_cmpR op_in_seq (pv 0) (pe_gc hres) (by rfl)))))) (pss_one (ps_ret pe_bl)) pss_nil)
        (pss_one (ps_ret (pe_and (pe_cmpR q_inSign (pe_ix q_ix (pv 0) pe_int (fun _ _ => rfl)) (pe_gc C.LETTERS) (by rfl)) (pe_one (pe_callB (cr_all rfl) (by rfl) T.all (by decide +kernel) (pa_cons (pe_lc (own := [("sign", 1)]) (g := gName 1) (tt := tYes) rfl scIsName.nd (pi_str (pv 0)) (blkOk_by (own := [("sign", 1)]) (N := nIsName) (sc := defScope sIsName) (by decide +kernel)) (fun _ _ _ _ _ => (pg_name (i := 1) scIsName.nd rfl (by first | exact Or.inl rfl | exact Or.inr rfl))) (fun _ _ _ _ _ => pts_nil) (fun _ _ _ _ _ => (pe_or (pe_cmpR q_inSign (pv 1) (pe_gc C.LETTERS) (by rfl)) (pe_one (pe_cmpR q_inSign (pv 1) (pe_gc C.FIGURES) (by rfl)))))) pa_nil))))))), ?_⟩
    have w0 := wd_pure sG
    have h1 := same_ty sG.1 hx.ty
    have h2 := hx.str
    walk_at "qq"
    have no : nameV x = false → ∀ (G' H' : Hp), Wd ⟨H, G, [], []⟩ G' H' [] → Q (.bl false) H' := fun e G' H' w' => ret_of k w' (by rw [e])
    refine ⟨fun σ' H' => ∃ (z : Str) (c : Nat) (r : List Nat), x = .str z ∧ σ' = [some x, none] ∧ H' = H ∧ z.length ≤ 8 ∧ z.cps.toList = c :: r ∧ nameV x = (letB c && z.cps.toList.all fun c => letB c || figB c), ?_, ?_⟩
    · walk_at "qq"
      cases x with
      | str z =>
        refine iteF ?_
        have hz1 : z.length ≤ 1000000 := hz z rfl
        walk_at "qq"
        have hv : nameV (.str z) = nmOk z := rfl
        have hr1 := hresT H
        refine ite_d (fun c1 => ?_) (fun c1 => ?_)
        · walk_at "qq"
          refine ite_nd (fun c2 => ?_) (fun c2 => ?_)
          · walk_at "qq"
            exact no (by rw [hv]; unfold nmOk; rw [decide_eq_false (by omega : ¬ z.length ≤ 8)]; simp) _ _ w0
          · walk_at "qq"
            refine ite_b (fun c3 => ?_) (fun c3 => ?_)
            · walk_at "qq"
              exact no (by rw [hv]; unfold nmOk; rw [c3]; simp) _ _ w0
            · walk_at "qq"
              cases hc : z.cps.toList with
              | nil =>
                have e : z.length = 0 := by
                  have := congrArg List.length hc
                  simpa [Str.length] using this
                omega
              | cons a r =>
                refine ⟨z, a, r, rfl, rfl, rfl, by omega, hc, ?_⟩
                rw [hv]
                unfold nmOk
                rw [c3, decide_eq_true (by omega : 1 ≤ z.length), decide_eq_true (by omega : z.length ≤ 8), hc]
                rfl
        · walk_at "qq"
          exact no (by rw [hv]; unfold nmOk; rw [decide_eq_false (by omega : ¬ 1 ≤ z.length)]; simp) _ _ w0
      | _ =>
        refine iteT ?_
        walk_at "qq"
        exact no rfl _ _ w0
    · rintro σ' H' ⟨z, c, r, rfl, rfl, rfl, hz8, hc, hv⟩
      have hz1 : z.length ≤ 1000000 := by omega
      have h0 : atI z.cps.toList 0 = some c := by rw [hc]; exact atI_0 c r
      have hv : nameV (.str z) = (letB c && z.cps.toList.all fun c => letB c || figB c) := hv
      walk_at "qq"
      refine ite_d (fun c1 => ?_) (fun c1 => ?_)
      · have e1 : letB c = true := decide_eq_true c1
        walk_at "qq"
        refine lc_go w0 walk_str (fun i acc _ _ => acc = ((z.cps.toList.take i).map fun c => letB c || figB c).map V.bl) (fun _ _ _ _ _ => rfl) (fun _ _ _ _ _ _ _ => trivial) ?_ ?_
        · rintro Dd i acc Gi H2 x H3 hi hl w2 s2 hD nm rfl ⟨rfl, c', hc', rfl⟩
          have hi' : i ≤ 1000000 := by have e : z.cps.size = z.length := rfl; omega
          have hc2 : z.cps.toList[i]? = some c' := by simpa using hc'
          have fin : ∀ b : Bool, b = (letB c' || figB c') → ((z.cps.toList.take i).map fun c => letB c || figB c).map V.bl ++ [V.bl b] = ((z.cps.toList.take (i + 1)).map fun c => letB c || figB c).map V.bl := fun b e => by
            rw [take_map_snoc _ hc2, List.map_append, e]
            rfl
          walk_at "qq"
          refine ite_d (fun c2 => ?_) (fun c2 => ?_)
          · walk_at "qq"
            exact fin true (by have e2 : letB c' = true := decide_eq_true c2; rw [e2] <;> rfl)
          · walk_at "qq"
            exact fin _ (by have e2 : letB c' = false := decide_eq_false c2; rw [e2] <;> rfl)
        · rintro p acc Gi Gp H2 hl w2 s2 s3 hp rfl
          walk_at "qq"
          refine ret_of k w2 ?_
          rw [hv, e1, List.take_of_length_le (by simp)]
          simp [List.all_map, Function.comp_def]
      · exact ret_of k w0 (by rw [hv]; have e1 : letB c = false := decide_eq_false c1; rw [e1] <;> rfl)
end
theorem ok_errT {P : Program} {w : World} {K : PySem.W.Frag} {mg : Str → Option Value} {base : Heap} {Ct : Addr} {f : Addr} {fd : FuncData} (F : FnP K "__init__" "NoTool.__init__" sErrT [] f fd) (T : OexC K Ct) (no : PySem.W.findIn K (.ref Ct) "tool" = some none) : FnOk P w K mg base CX0 1 f fd ["self", "tool"] (spErr1 Ct "tool") :=
  ok_err1 F ⟨rfl, rfl, rfl, by decide +kernel, rfl, by decide +kernel, by decide +kernel⟩ T no fun X hN hs => pss_one (ps_ost (pe_var (i := 0) (by rw [hN] <;> rfl) (by rw [hs]; exact .inl rfl)) (pe_var (i := 1) (by rw [hN] <;> rfl) (by rw [hs]; exact .inl rfl)))
theorem ok_errL {P : Program} {w : World} {K : PySem.W.Frag} {mg : Str → Option Value} {base : Heap} {Cl : Addr} {f : Addr} {fd : FuncData} (F : FnP K "__init__" "NoLife.__init__" sErrL [] f fd) (T : OexC K Cl) (no : PySem.W.findIn K (.ref Cl) "value" = some none) : FnOk P w K mg base CX0 1 f fd ["self", "value"] (spErr1 Cl "value") :=
  ok_err1 F ⟨rfl, rfl, rfl, by decide +kernel, rfl, by decide +kernel, by decide +kernel⟩ T no fun X hN hs => pss_one (ps_ost (pe_var (i := 0) (by rw [hN] <;> rfl) (by rw [hs]; exact .inl rfl)) (pe_var (i := 1) (by rw [hN] <;> rfl) (by rw [hs]; exact .inl rfl)))
section
variable {P : Program} {w : World} {K : PySem.W.Frag} {mg : Str → Option Value} {base : Heap} {C Cn Cm Cs : Addr}
theorem ok_errN {f : Addr} {fd : FuncData} (F : FnP K "__init__" "BadName.__init__" sErrN [] f fd) (T : OexC K Cn) (no : PySem.W.findIn K (.ref Cn) "name" = some none) : FnOk P w K mg base CX0 1 f fd ["self", "name"] (spErr1 Cn "name") :=
  ok_err1 F ⟨rfl, rfl, rfl, by decide +kernel, rfl, by decide +kernel, by decide +kernel⟩ T no fun X hN hs => pss_one (ps_ost (pe_var (i := 0) (by rw [hN] <;> rfl) (by rw [hs]; exact .inl rfl)) (pe_var (i := 1) (by rw [hN] <;> rfl) (by rw [hs]; exact .inl rfl)))
theorem ok_errM {f : Addr} {fd : FuncData} (F : FnP K "__init__" "BadMoment.__init__" sErrM [] f fd) (T : OexC K Cm) (no : PySem.W.findIn K (.ref Cm) "moment" = some none) : FnOk P w K mg base CX0 1 f fd ["self", "moment"] (spErr1 Cm "moment") :=
  ok_err1 F ⟨rfl, rfl, rfl, by decide +kernel, rfl, by decide +kernel, by decide +kernel⟩ T no fun X hN hs => pss_one (ps_ost (pe_var (i := 0) (by rw [hN] <;> rfl) (by rw [hs]; exact .inl rfl)) (pe_var (i := 1) (by rw [hN] <;> rfl) (by rw [hs]; exact .inl rfl)))
theorem ok_errS {f : Addr} {fd : FuncData} (F : FnP K "__init__" "BadSaying.__init__" sErrS [] f fd) (T : OexC K Cs) (no : PySem.W.findIn K (.ref Cs) "value" = some none) : FnOk P w K mg base CX0 1 f fd ["self", "value"] (spErr1 Cs "value") :=
  ok_err1 F ⟨rfl, rfl, rfl, by decide +kernel, rfl, by decide +kernel, by decide +kernel⟩ T no fun X hN hs => pss_one (ps_ost (pe_var (i := 0) (by rw [hN] <;> rfl) (by rw [hs]; exact .inl rfl)) (pe_var (i := 1) (by rw [hN] <;> rfl) (by rw [hs]; exact .inl rfl)))
abbrev nSayInit : List Str := ["self", "tool", "moment", "is_sound"]
theorem scSayInit : FnScope nSayInit ["self", "tool", "moment", "is_sound"] (defScope sSayInit) := ⟨rfl, rfl, rfl, by decide +kernel, rfl, by decide +kernel, by decide +kernel⟩
theorem ok_sayInitX {f : Addr} {fd : FuncData} (F : FnP K "__init__" "Saying.__init__" sSayInit [] f fd) (T : Bi mg) (S : SyC K C) (Dn : Df P w K mg base CX0 1 "is_name" [] (spIsName K)) (Dm : Df P w K mg base CX0 2 "is_moment" [.int 0] (spMoment K))
    (EN : ErD P w K mg base "BadName" Cn (spErr1 Cn "name")) (EM : ErD P w K mg base "BadMoment" Cm (spErr1 Cm "moment")) (ES : ErD P w K mg base "BadSaying" Cs (spErr1 Cs "value")) :
    FnOk P w K mg base (L2.CX P w) 3 f fd ["self", "tool", "moment", "is_sound"] (spSayX K C Cn Cm Cs) := by
  refine fnP_okX F scSayInit (fun vs H Q E h => ?_) (fun cdv A outer s H vs Q E hr h => ?_)
  · obtain ⟨G, a, dx, x, y, z, tx, ty, tz, rfl, _⟩ := h
    rfl
  · obtain ⟨G, a, dx, x, y, z, tx, ty, tz, rfl, sG, ga, ha, kx, ky, kz, hz, bad, good⟩ := h
    have hu64 := hr.units
    have cc := S.c
    have n1 := S.n1
    have n2 := S.n2
    have n3 := S.n3
    have n4 := S.n4
    have kzt := same_ty sG.1 kz.ty
    have kzb := kz.bool
    refine ⟨_, (pss_cons (ps_if (pt_not (pt_val (pe_callD Dn hr pass0 (pa_cons (pv 1) pa_nil)))) (pss_one (ps_raiseD rfl takesD EN hr (pa_cons (pv 1) pa_nil))) pss_nil)
        (pss_cons (ps_if (pt_not (pt_val (pe_callD Dm hr pass0 (pa_cons (pv 2) pa_nil)))) (pss_one (ps_raiseD rfl takesD EM hr (pa_cons (pv 2) pa_nil))) pss_nil)
        (pss_cons (ps_if (pt_not (pt_val (pe_callB call_isi (by rfl) T.isinstance (by decide +kernel) (pa_cons (pv 3) (pa_cons (pe_bltn (v := .ty "bool") (by rfl) T.bool (by decide +kernel) rfl) pa_nil))))) (pss_one (ps_raiseD rfl takesD ES hr (pa_cons (pv 3) pa_nil))) pss_nil)
        (pss_cons (ps_fld (pv 0) (pv 1) rfl)
        (pss_cons (ps_fld (pv 0) (pv 2) rfl)
        (pss_cons (ps_fld (pv 0) (pv 3) rfl)
        (pss_one (ps_fld (pv 0) (pe_tup (pa_cons (pv 1) (pa_cons (pv 2) (pa_cons (pv 3) pa_nil)))) rfl)))))))), ?_⟩
    have w0 : Wd ⟨H, G, [a], []⟩ G H [a] := wd_start sG (fun b h => by rw [List.mem_singleton.mp h]; exact ⟨ga, _, ha, rfl⟩) (by simp)
    have out : ∀ (cls : Addr) (f : Str) (v : V), sayFault Cn Cm Cs x y z = some (cls, f, v) → ∀ (d : Addr) (G' H' : Hp), Wd ⟨H, G, [a], []⟩ G' H' [a] → G' d = some (.xd [(f, v)]) → E (.ref cls) (some d) H' := fun cls f v hf d G' H' w' hd => by
      obtain ⟨_, ⟨o, ho⟩, _⟩ := w'.mu a (by simp)
      exact bad cls f v hf G' H' d (fun b o hn h => w'.kp b o (by simpa using hn) h) ⟨o, ho, w'.mt a (by simp) o ho⟩ w'.gh w'.gr w'.fr hd
    walk_at "qq"
    refine ite_nb (fun c1 => ?_) (fun c1 => ?_)
    · walk_at "qq"
      exact u_raise1 (by assumption) fun d G' H' w' s' t' hd => out _ _ _ (fault_n c1) d G' H' w' hd
    walk_at "qq"
    refine ite_nb (fun c2 => ?_) (fun c2 => ?_)
    · walk_at "qq"
      exact u_raise1 (by assumption) fun d G' H' w' s' t' hd => out _ _ _ (fault_m c1 c2) d G' H' w' hd
    walk_at "qq"
    refine ite_nb (fun c3 => ?_) (fun c3 => ?_)
    · walk_at "qq"
      exact u_raise1 (by assumption) fun d G' H' w' s' t' hd => out _ _ _ (fault_s c1 c2 c3) d G' H' w' hd
    obtain ⟨zs, rfl, hzs⟩ := name_str c1
    obtain ⟨i, rfl, i0, i1⟩ := mom_int c2
    obtain ⟨b, rfl⟩ := bl_of c3
    walk_at "qq"
    rename_i H5 w5 h5 b5
    refine good zs i b rfl rfl rfl ⟨hzs, i0, i1⟩ _ H5 _ (fun b o hn h => w5.kp b o (by simpa using hn) h) w5.gh w5.gr w5.fr ?_ h5
    walk_at "atg"
end
section
variable {P : Program} {w : World} {K : PySem.W.Frag} {mg : Str → Option Value} {base : Heap} {C Cn Cm Cs : Addr}
abbrev nNeedN : List Str := ["thing"]
theorem scNeedN : FnScope nNeedN ["thing"] (defScope sNeedN) := ⟨rfl, rfl, rfl, by decide +kernel, rfl, by decide +kernel, by decide +kernel⟩
theorem ok_needN {f : Addr} {fd : FuncData} (F : FnP K "need_name" "need_name" sNeedN [] f fd) (Dn : Df P w K mg base CX0 1 "is_name" [] (spIsName K)) (EN : ErD P w K mg base "BadName" Cn (spErr1 Cn "name")) : FnOk P w K mg base (L2.CX P w) 3 f fd ["thing"] (spNeedN K Cn) := by
  refine fnP_okX F scNeedN (fun vs H Q E h => ?_) (fun cdv A outer s H vs Q E hr h => ?_)
  · obtain ⟨G, x, t, rfl, _⟩ := h
    rfl
  · obtain ⟨G, x, t, rfl, sG, hx, sz, good, bad⟩ := h
    have hu64 := hr.units
    refine ⟨_, (pss_one (ps_if (pt_not (pt_val (pe_callD Dn hr pass0 (pa_cons (pv 0) pa_nil)))) (pss_one (ps_raiseD rfl takesD EN hr (pa_cons (pv 0) pa_nil))) pss_nil)), ?_⟩
    have w0 := wd_pure sG
    walk_at "qq"
    refine ite_nb (fun c => ?_) (fun c => ?_)
    · walk_at "qq"
      exact u_raise1 (by assumption) fun dd G' H' w' s' t' hdd => retX_of (bad c) w' hdd
    · walk_at "qq"
      exact ret_of (good c) (by assumption) rfl
abbrev nNeedM : List Str := ["thing", "least"]
theorem scNeedM : FnScope nNeedM ["thing", "least"] (defScope sNeedM) := ⟨rfl, rfl, rfl, by decide +kernel, rfl, by decide +kernel, by decide +kernel⟩
theorem ok_needM {f : Addr} {fd : FuncData} (F : FnP K "need_moment" "need_moment" sNeedM [.int 0] f fd) (Dm2 : Df P w K mg base CX0 2 "is_moment" [] (spMoment K)) (EM : ErD P w K mg base "BadMoment" Cm (spErr1 Cm "moment")) : FnOk P w K mg base (L2.CX P w) 3 f fd ["thing", "least"] (spNeedM K Cm) := by
  refine fnP_okX F scNeedM (fun vs H Q E h => ?_) (fun cdv A outer s H vs Q E hr h => ?_)
  · obtain ⟨G, x, t, l, rfl, _⟩ := h
    rfl
  · obtain ⟨G, x, t, l, rfl, sG, hx, good, bad⟩ := h
    have hu64 := hr.units
    refine ⟨_, (pss_one (ps_if (pt_not (pt_val (pe_callD Dm2 hr pass0 (pa_cons (pv 0) (pa_cons (pv 1) pa_nil))))) (pss_one (ps_raiseD rfl takesD EM hr (pa_cons (pv 0) pa_nil))) pss_nil)), ?_⟩
    have w0 := wd_pure sG
    walk_at "qq"
    refine ite_nb (fun c => ?_) (fun c => ?_)
    · walk_at "qq"
      exact u_raise1 (by assumption) fun dd G' H' w' s' t' hdd => retX_of (bad c) w' hdd
    · walk_at "qq"
      exact ret_of (good c) (by assumption) rfl
abbrev nRowI : List Str := ["self", "kind", "words", "named", "moments"]
theorem scRowI : FnScope nRowI ["self", "kind", "words", "named", "moments"] (defScope sRowI) := ⟨rfl, rfl, rfl, by decide +kernel, rfl, by decide +kernel, by decide +kernel⟩
theorem ok_rowI {f : Addr} {fd : FuncData} {fl : List Str} (F : FnP K "__init__" "Row.__init__" sRowI [] f fd) (RC : RwC K C fl) : FnOk P w K mg base CX0 1 f fd ["self", "kind", "words", "named", "moments"] (spRow C) := by
  refine fnP_ok F scRowI (fun vs H Q E h => ?_) (fun cdv A outer s H vs Q E hr h => ?_)
  · obtain ⟨G, x, dx, k, w, n, m, rfl, _⟩ := h
    rfl
  · obtain ⟨G, x, dx, k, w', n, m, rfl, sG, gx, hx, q⟩ := h
    have hu64 := hr.units
    have cc := RC.c
    have n1 := RC.k
    have n2 := RC.w
    have n3 := RC.n
    have n4 := RC.t
    refine ⟨_, (pss_cons (ps_fld (pv 0) (pv 1) rfl)
        (pss_cons (ps_fld (pv 0) (pv 2) rfl)
        (pss_cons (ps_fld (pv 0) (pv 3) rfl)
        (pss_one (ps_fld (pv 0) (pv 4) rfl))))), ?_⟩
    have w0 : Wd ⟨H, G, [x], []⟩ G H [x] := wd_start sG (fun b h => by rw [List.mem_singleton.mp h]; exact ⟨gx, _, hx, rfl⟩) (by simp)
    walk_at "qq"
    rename_i H1 w1 h1 b1 H2 w2 h2 b2 H3 w3 h3 b3 H4 w4 h4 b4
    exact q H4 (fun b o hn h => w4.kp b o (by simpa using hn) h) w4.gh h4
end
section
variable {P : Program} {w : World} {K : PySem.W.Frag} {mg : Str → Option Value} {base : Heap} {C Cn Cm Cs : Addr}
abbrev nBegunI : List Str := (["self", "tool", "moment"] : List Str)
theorem scBegunI : FnScS nBegunI (["self", "tool", "moment"] : List Str) (defScope sBegunI) := ⟨rfl, rfl, rfl, by decide +kernel, rfl, by decide +kernel, by decide +kernel, by decide +kernel, by decide +kernel, by decide +kernel⟩
theorem ok_BegunI {f fR : Addr} {fd fdR : FuncData} {psR : List Str} (F : SupD P K "__init__" "Begun.__init__" sBegunI C f fd) (T : Bi mg) (RC : RwC K C (["tool", "moment"] : List Str)) (hsup : mg "super" = none) (htop : (P.main.scope.names.lookup ("super" : Str)).isSome = false)
    (DNN : Df P w K mg base (L2.CX P w) 3 "need_name" [] (spNeedN K Cn)) (DNM0 : Df P w K mg base (L2.CX P w) 3 "need_moment" [.int 0] (spNeedM K Cm)) (DNM1 : Df P w K mg base (L2.CX P w) 3 "need_moment" [] (spNeedM K Cm)) 
    (SC : SupC K C C fR) (GR : FnOk P w K mg base CX0 1 fR fdR psR (spRow C)) (BR : Binds K fdR psR []) : FnOk P w K mg base (L2.CX P w) 4 f fd (["self", "tool", "moment"] : List Str) (spRowI K C Cn Cm Cs "begun" [] ([Sg.n, Sg.m 1] : List Sg) (["tool", "moment"] : List Str)) := by
  refine fnS_okX F scBegunI (by rfl) (by rfl) (by decide +kernel) hsup htop (fun vs H Q E h => ?_) (fun cda cc A outer s H vs Q E hr SUP h => ?_)
  · obtain ⟨G, x, dx, as, rfl, hl, _⟩ := h
    obtain ⟨v1, v2, rfl⟩ := len_2 hl
    rfl
  · obtain ⟨G, x, dx, as, rfl, hl, sG, gx, hx, kd, sz, bad, good⟩ := h
    obtain ⟨v1, v2, rfl⟩ := len_2 hl
    have hu64 := hr.units
    have cc := RC.c
    have passL0 : ∀ {X : Cx}, Passes CX0 X E0 := fun {X} => pass0
    have na1 := RC.own "tool" (by simp)
    have na2 := RC.own "moment" (by simp)
    obtain ⟨ty_1, k1⟩ := kd v1 (by simp)
    obtain ⟨ty_2, k2⟩ := kd v2 (by simp)
    have outE : ∀ (cls : Addr) (f : Str) (v : V), rowFault Cn Cm Cs ([Sg.n, Sg.m 1] : List Sg) [v1, v2] = some (cls, f, v) → ∀ (dd : Addr) (G' H' : Hp), Wd ⟨H, G, [x], []⟩ G' H' [x] → G' dd = some (.xd [(f, v)]) → E (.ref cls) (some dd) H' := fun cls f v hf dd G' H' w' hdd => by
      obtain ⟨_, ⟨o, ho⟩, _⟩ := w'.mu x (by simp)
      exact bad cls f v hf G' H' dd (fun b o hn h => w'.kp b o (by simpa using hn) h) ⟨o, ho, w'.mt x (by simp) o ho⟩ w'.gh w'.gr w'.fr hdd
    refine ⟨_, (pssF_cons (ps_expr (pe_callD DNN hr passS (pa_cons (pv 1) pa_nil)))
        (pssF_cons (ps_expr (pe_callD DNM1 hr passS (pa_cons (pv 2) (pa_cons pe_int pa_nil))))
        (pss_sup SUP SC GR hr BR passL0 (pa_cons pe_str (pa_cons (pe_tup (pa_cons (pv 1) (pa_cons (pe_callTy q_strN (by rfl) T.str (by decide +kernel) (pa_cons (pv 2) pa_nil)) pa_nil))) (pa_cons (pe_tup (pa_cons (pv 1) pa_nil)) (pa_cons (pe_tup (pa_cons (pv 2) pa_nil)) pa_nil))))
        (pssF_of (pss_cons (ps_fld (pv 0) (pv 1) rfl)
        (pss_one (ps_fld (pv 0) (pv 2) rfl))))))), ?_⟩
    have w0 : Wd ⟨H, G, [x], []⟩ G H [x] := wd_start sG (fun b h => by rw [List.mem_singleton.mp h]; exact ⟨gx, _, hx, rfl⟩) (by simp)
    walk_at "qq"
    refine u_needN w0 k1 (fun z e => sz z (by rw [← e]; simp)) (fun c1 G1 H1 w1 s1 t1 => ?_) (fun c1 d G' H' w' s' t' hd => outE _ _ _ (by simp [rowFault, sgOk, sgErr, c1]) d G' H' w' hd)
    obtain ⟨z1, rfl⟩ : ∃ z, v1 = .str z := name_text c1
    have lz1 : z1.length ≤ 8 := nmOk_len c1
    walk_at "qq"
    refine u_needM w1 (k2.same s1) (fun c2 G2 H2 w2 s2 t2 => ?_) (fun c2 d G' H' w' s' t' hd => outE _ _ _ (by simp [rowFault, sgOk, sgErr, c1, c2]) d G' H' w' hd)
    obtain ⟨z2, rfl, lo2, hi2⟩ := mom_num c2
    have lg2 : z2.natAbs.log2 < 1920 := logZ (by omega) hi2
    walk_at "qq"
    have hxp := t2 _ _ (t1 _ _ (hx))
    refine r_sup rfl hxp ?_
    walk_at "qq"
    rename_i l11 G11 H11 n11 w11 s11 h11 t11 l12 G12 H12 n12 w12 s12 h12 t12 l13 G13 H13 n13 w13 s13 h13 t13
    have hx13 := t13 _ _ (t12 _ _ (t11 _ _ hxp))
    refine u_rowB w13 (by simp) hx13 fun H14 w14 b14 h14 => ?_
    walk_at "qq"
    rename_i H15 w15 h15 b15 H16 w16 h16 b16
    exact good (by simp [rowFault, sgOk, sgErr, c1, c2]) G13 H16 l11 l12 l13 (fun b o hn h => w16.kp b o (by simpa using hn) h) w16.gh w16.gr w16.fr (s13 _ _ (s12 _ _ h11)) (s13 _ _ h12) h13 h16
abbrev nSetByI : List Str := (["self", "tool", "moment", "by"] : List Str)
theorem scSetByI : FnScS nSetByI (["self", "tool", "moment", "by"] : List Str) (defScope sSetByI) := ⟨rfl, rfl, rfl, by decide +kernel, rfl, by decide +kernel, by decide +kernel, by decide +kernel, by decide +kernel, by decide +kernel⟩
theorem ok_SetByI {f fR : Addr} {fd fdR : FuncData} {psR : List Str} (F : SupD P K "__init__" "SetBy.__init__" sSetByI C f fd) (T : Bi mg) (RC : RwC K C (["tool", "moment", "by"] : List Str)) (hsup : mg "super" = none) (htop : (P.main.scope.names.lookup ("super" : Str)).isSome = false)
    (DNN : Df P w K mg base (L2.CX P w) 3 "need_name" [] (spNeedN K Cn)) (DNM0 : Df P w K mg base (L2.CX P w) 3 "need_moment" [.int 0] (spNeedM K Cm)) (DNM1 : Df P w K mg base (L2.CX P w) 3 "need_moment" [] (spNeedM K Cm)) 
    (SC : SupC K C C fR) (GR : FnOk P w K mg base CX0 1 fR fdR psR (spRow C)) (BR : Binds K fdR psR []) : FnOk P w K mg base (L2.CX P w) 4 f fd (["self", "tool", "moment", "by"] : List Str) (spRowI K C Cn Cm Cs "setby" [] ([Sg.n, Sg.m 1, Sg.n] : List Sg) (["tool", "moment", "by"] : List Str)) := by
  refine fnS_okX F scSetByI (by rfl) (by rfl) (by decide +kernel) hsup htop (fun vs H Q E h => ?_) (fun cda cc A outer s H vs Q E hr SUP h => ?_)
  · obtain ⟨G, x, dx, as, rfl, hl, _⟩ := h
    obtain ⟨v1, v2, v3, rfl⟩ := len_3 hl
    rfl
  · obtain ⟨G, x, dx, as, rfl, hl, sG, gx, hx, kd, sz, bad, good⟩ := h
    obtain ⟨v1, v2, v3, rfl⟩ := len_3 hl
    have hu64 := hr.units
    have cc := RC.c
    have passL0 : ∀ {X : Cx}, Passes CX0 X E0 := fun {X} => pass0
    have na1 := RC.own "tool" (by simp)
    have na2 := RC.own "moment" (by simp)
    have na3 := RC.own "by" (by simp)
    obtain ⟨ty_1, k1⟩ := kd v1 (by simp)
    obtain ⟨ty_2, k2⟩ := kd v2 (by simp)
    obtain ⟨ty_3, k3⟩ := kd v3 (by simp)
    have outE : ∀ (cls : Addr) (f : Str) (v : V), rowFault Cn Cm Cs ([Sg.n, Sg.m 1, Sg.n] : List Sg) [v1, v2, v3] = some (cls, f, v) → ∀ (dd : Addr) (G' H' : Hp), Wd ⟨H, G, [x], []⟩ G' H' [x] → G' dd = some (.xd [(f, v)]) → E (.ref cls) (some dd) H' := fun cls f v hf dd G' H' w' hdd => by
      obtain ⟨_, ⟨o, ho⟩, _⟩ := w'.mu x (by simp)
      exact bad cls f v hf G' H' dd (fun b o hn h => w'.kp b o (by simpa using hn) h) ⟨o, ho, w'.mt x (by simp) o ho⟩ w'.gh w'.gr w'.fr hdd
    refine ⟨_, (pssF_cons (ps_expr (pe_callD DNN hr passS (pa_cons (pv 1) pa_nil)))
        (pssF_cons (ps_expr (pe_callD DNM1 hr passS (pa_cons (pv 2) (pa_cons pe_int pa_nil))))
        (pssF_cons (ps_expr (pe_callD DNN hr passS (pa_cons (pv 3) pa_nil)))
        (pss_sup SUP SC GR hr BR passL0 (pa_cons pe_str (pa_cons (pe_tup (pa_cons (pv 1) (pa_cons (pe_callTy q_strN (by rfl) T.str (by decide +kernel) (pa_cons (pv 2) pa_nil)) (pa_cons (pv 3) pa_nil)))) (pa_cons (pe_tup (pa_cons (pv 1) (pa_cons (pv 3) pa_nil))) (pa_cons (pe_tup (pa_cons (pv 2) pa_nil)) pa_nil))))
        (pssF_of (pss_cons (ps_fld (pv 0) (pv 1) rfl)
        (pss_cons (ps_fld (pv 0) (pv 2) rfl)
        (pss_one (ps_fld (pv 0) (pv 3) rfl))))))))), ?_⟩
    have w0 : Wd ⟨H, G, [x], []⟩ G H [x] := wd_start sG (fun b h => by rw [List.mem_singleton.mp h]; exact ⟨gx, _, hx, rfl⟩) (by simp)
    walk_at "qq"
    refine u_needN w0 k1 (fun z e => sz z (by rw [← e]; simp)) (fun c1 G1 H1 w1 s1 t1 => ?_) (fun c1 d G' H' w' s' t' hd => outE _ _ _ (by simp [rowFault, sgOk, sgErr, c1]) d G' H' w' hd)
    obtain ⟨z1, rfl⟩ : ∃ z, v1 = .str z := name_text c1
    have lz1 : z1.length ≤ 8 := nmOk_len c1
    walk_at "qq"
    refine u_needM w1 (k2.same s1) (fun c2 G2 H2 w2 s2 t2 => ?_) (fun c2 d G' H' w' s' t' hd => outE _ _ _ (by simp [rowFault, sgOk, sgErr, c1, c2]) d G' H' w' hd)
    obtain ⟨z2, rfl, lo2, hi2⟩ := mom_num c2
    have lg2 : z2.natAbs.log2 < 1920 := logZ (by omega) hi2
    walk_at "qq"
    refine u_needN w2 (k3.same (s1.trans s2)) (fun z e => sz z (by rw [← e]; simp)) (fun c3 G3 H3 w3 s3 t3 => ?_) (fun c3 d G' H' w' s' t' hd => outE _ _ _ (by simp [rowFault, sgOk, sgErr, c1, c2, c3]) d G' H' w' hd)
    obtain ⟨z3, rfl⟩ : ∃ z, v3 = .str z := name_text c3
    have lz3 : z3.length ≤ 8 := nmOk_len c3
    walk_at "qq"
    have hxp := t3 _ _ (t2 _ _ (t1 _ _ (hx)))
    refine r_sup rfl hxp ?_
    walk_at "qq"
    rename_i l11 G11 H11 n11 w11 s11 h11 t11 l12 G12 H12 n12 w12 s12 h12 t12 l13 G13 H13 n13 w13 s13 h13 t13
    have hx13 := t13 _ _ (t12 _ _ (t11 _ _ hxp))
    refine u_rowB w13 (by simp) hx13 fun H14 w14 b14 h14 => ?_
    walk_at "qq"
    rename_i H15 w15 h15 b15 H16 w16 h16 b16 H17 w17 h17 b17
    exact good (by simp [rowFault, sgOk, sgErr, c1, c2, c3]) G13 H17 l11 l12 l13 (fun b o hn h => w17.kp b o (by simpa using hn) h) w17.gh w17.gr w17.fr (s13 _ _ (s12 _ _ h11)) (s13 _ _ h12) h13 h17
abbrev nFoundI : List Str := (["self", "tool", "moment", "is_sound"] : List Str)
theorem scFoundI : FnScS nFoundI (["self", "tool", "moment", "is_sound"] : List Str) (defScope sFoundI) := ⟨rfl, rfl, rfl, by decide +kernel, rfl, by decide +kernel, by decide +kernel, by decide +kernel, by decide +kernel, by decide +kernel⟩
theorem ok_FoundI {f fR : Addr} {fd fdR : FuncData} {psR : List Str} (F : SupD P K "__init__" "Found.__init__" sFoundI C f fd) (T : Bi mg) (RC : RwC K C (["tool", "moment", "is_sound"] : List Str)) (hsup : mg "super" = none) (htop : (P.main.scope.names.lookup ("super" : Str)).isSome = false)
    (DNN : Df P w K mg base (L2.CX P w) 3 "need_name" [] (spNeedN K Cn)) (DNM0 : Df P w K mg base (L2.CX P w) 3 "need_moment" [.int 0] (spNeedM K Cm)) (DNM1 : Df P w K mg base (L2.CX P w) 3 "need_moment" [] (spNeedM K Cm)) (ES : ErD P w K mg base "BadSaying" Cs (spErr1 Cs "value")) 
    (SC : SupC K C C fR) (GR : FnOk P w K mg base CX0 1 fR fdR psR (spRow C)) (BR : Binds K fdR psR []) : FnOk P w K mg base (L2.CX P w) 4 f fd (["self", "tool", "moment", "is_sound"] : List Str) (spRowI K C Cn Cm Cs "found" [] ([Sg.n, Sg.m 0, Sg.t] : List Sg) (["tool", "moment", "is_sound"] : List Str)) := by
  refine fnS_okX F scFoundI (by rfl) (by rfl) (by decide +kernel) hsup htop (fun vs H Q E h => ?_) (fun cda cc A outer s H vs Q E hr SUP h => ?_)
  · obtain ⟨G, x, dx, as, rfl, hl, _⟩ := h
    obtain ⟨v1, v2, v3, rfl⟩ := len_3 hl
    rfl
  · obtain ⟨G, x, dx, as, rfl, hl, sG, gx, hx, kd, sz, bad, good⟩ := h
    obtain ⟨v1, v2, v3, rfl⟩ := len_3 hl
    have hu64 := hr.units
    have cc := RC.c
    have passL0 : ∀ {X : Cx}, Passes CX0 X E0 := fun {X} => pass0
    have na1 := RC.own "tool" (by simp)
    have na2 := RC.own "moment" (by simp)
    have na3 := RC.own "is_sound" (by simp)
    obtain ⟨ty_1, k1⟩ := kd v1 (by simp)
    obtain ⟨ty_2, k2⟩ := kd v2 (by simp)
    obtain ⟨ty_3, k3⟩ := kd v3 (by simp)
    have outE : ∀ (cls : Addr) (f : Str) (v : V), rowFault Cn Cm Cs ([Sg.n, Sg.m 0, Sg.t] : List Sg) [v1, v2, v3] = some (cls, f, v) → ∀ (dd : Addr) (G' H' : Hp), Wd ⟨H, G, [x], []⟩ G' H' [x] → G' dd = some (.xd [(f, v)]) → E (.ref cls) (some dd) H' := fun cls f v hf dd G' H' w' hdd => by
      obtain ⟨_, ⟨o, ho⟩, _⟩ := w'.mu x (by simp)
      exact bad cls f v hf G' H' dd (fun b o hn h => w'.kp b o (by simpa using hn) h) ⟨o, ho, w'.mt x (by simp) o ho⟩ w'.gh w'.gr w'.fr hdd
    refine ⟨_, (pssF_cons (ps_expr (pe_callD DNN hr passS (pa_cons (pv 1) pa_nil)))
        (pssF_cons (ps_expr (pe_callD DNM0 hr passS (pa_cons (pv 2) pa_nil)))
        (pssF_cons (ps_if (pt_not (pt_val (pe_callB call_isi (by rfl) T.isinstance (by decide +kernel) (pa_cons (pv 3) (pa_cons (pe_bltn (v := .ty "bool") (by rfl) T.bool (by decide +kernel) rfl) pa_nil))))) (pss_one (ps_raiseD rfl takesS ES hr (pa_cons (pv 3) pa_nil))) pss_nil)
        (pss_sup SUP SC GR hr BR passL0 (pa_cons pe_str (pa_cons (pe_tup (pa_cons (pv 1) (pa_cons (pe_callTy q_strN (by rfl) T.str (by decide +kernel) (pa_cons (pv 2) pa_nil)) (pa_cons (pe_ifExp (pt_val (pv 3)) pe_str pe_str) pa_nil)))) (pa_cons (pe_tup (pa_cons (pv 1) pa_nil)) (pa_cons (pe_tup (pa_cons (pv 2) pa_nil)) pa_nil))))
        (pssF_of (pss_cons (ps_fld (pv 0) (pv 1) rfl)
        (pss_cons (ps_fld (pv 0) (pv 2) rfl)
        (pss_one (ps_fld (pv 0) (pv 3) rfl))))))))), ?_⟩
    have w0 : Wd ⟨H, G, [x], []⟩ G H [x] := wd_start sG (fun b h => by rw [List.mem_singleton.mp h]; exact ⟨gx, _, hx, rfl⟩) (by simp)
    walk_at "qq"
    refine u_needN w0 k1 (fun z e => sz z (by rw [← e]; simp)) (fun c1 G1 H1 w1 s1 t1 => ?_) (fun c1 d G' H' w' s' t' hd => outE _ _ _ (by simp [rowFault, sgOk, sgErr, c1]) d G' H' w' hd)
    obtain ⟨z1, rfl⟩ : ∃ z, v1 = .str z := name_text c1
    have lz1 : z1.length ≤ 8 := nmOk_len c1
    walk_at "qq"
    refine u_needM w1 (k2.same s1) (fun c2 G2 H2 w2 s2 t2 => ?_) (fun c2 d G' H' w' s' t' hd => outE _ _ _ (by simp [rowFault, sgOk, sgErr, c1, c2]) d G' H' w' hd)
    obtain ⟨z2, rfl, lo2, hi2⟩ := mom_num c2
    have lg2 : z2.natAbs.log2 < 1920 := logZ (by omega) hi2
    walk_at "qq"
    have ty3 := same_ty w2.le ((k3.same (s1.trans s2))).ty
    have tb3 := ((k3.same (s1.trans s2))).bool
    walk_at "qq"
    refine ite_nb (fun c3 => ?_) (fun c3 => ?_)
    · walk_at "qq"
      exact u_raise1 (by assumption) fun dd G' H' w' s' t' hdd => outE _ _ _ (by simp [rowFault, sgOk, sgErr, c1, c2, c3]) dd G' H' w' hdd
    obtain ⟨z3, rfl⟩ := bool_is c3
    walk_at "qq"
    cases z3 with
    | true =>
      have hxp := t2 _ _ (t1 _ _ (hx))
      refine r_sup rfl hxp ?_
      walk_at "qq"
      rename_i l11 G11 H11 n11 w11 s11 h11 t11 l12 G12 H12 n12 w12 s12 h12 t12 l13 G13 H13 n13 w13 s13 h13 t13
      have hx13 := t13 _ _ (t12 _ _ (t11 _ _ hxp))
      refine u_rowB w13 (by simp) hx13 fun H14 w14 b14 h14 => ?_
      walk_at "qq"
      rename_i H15 w15 h15 b15 H16 w16 h16 b16 H17 w17 h17 b17
      exact good (by simp [rowFault, sgOk, sgErr, c1, c2, c3]) G13 H17 l11 l12 l13 (fun b o hn h => w17.kp b o (by simpa using hn) h) w17.gh w17.gr w17.fr (s13 _ _ (s12 _ _ h11)) (s13 _ _ h12) h13 h17
    | false =>
      have hxp := t2 _ _ (t1 _ _ (hx))
      refine r_sup rfl hxp ?_
      walk_at "qq"
      rename_i l11 G11 H11 n11 w11 s11 h11 t11 l12 G12 H12 n12 w12 s12 h12 t12 l13 G13 H13 n13 w13 s13 h13 t13
      have hx13 := t13 _ _ (t12 _ _ (t11 _ _ hxp))
      refine u_rowB w13 (by simp) hx13 fun H14 w14 b14 h14 => ?_
      walk_at "qq"
      rename_i H15 w15 h15 b15 H16 w16 h16 b16 H17 w17 h17 b17
      exact good (by simp [rowFault, sgOk, sgErr, c1, c2, c3]) G13 H17 l11 l12 l13 (fun b o hn h => w17.kp b o (by simpa using hn) h) w17.gh w17.gr w17.fr (s13 _ _ (s12 _ _ h11)) (s13 _ _ h12) h13 h17
abbrev nTrustedI : List Str := (["self", "tool"] : List Str)
theorem scTrustedI : FnScS nTrustedI (["self", "tool"] : List Str) (defScope sTrustedI) := ⟨rfl, rfl, rfl, by decide +kernel, rfl, by decide +kernel, by decide +kernel, by decide +kernel, by decide +kernel, by decide +kernel⟩
theorem ok_TrustedI {f fR : Addr} {fd fdR : FuncData} {psR : List Str} (F : SupD P K "__init__" "Trusted.__init__" sTrustedI C f fd) (T : Bi mg) (RC : RwC K C (["tool"] : List Str)) (hsup : mg "super" = none) (htop : (P.main.scope.names.lookup ("super" : Str)).isSome = false)
    (DNN : Df P w K mg base (L2.CX P w) 3 "need_name" [] (spNeedN K Cn)) (DNM0 : Df P w K mg base (L2.CX P w) 3 "need_moment" [.int 0] (spNeedM K Cm)) (DNM1 : Df P w K mg base (L2.CX P w) 3 "need_moment" [] (spNeedM K Cm)) 
    (SC : SupC K C C fR) (GR : FnOk P w K mg base CX0 1 fR fdR psR (spRow C)) (BR : Binds K fdR psR []) : FnOk P w K mg base (L2.CX P w) 4 f fd (["self", "tool"] : List Str) (spRowI K C Cn Cm Cs "trusted" [] ([Sg.n] : List Sg) (["tool"] : List Str)) := by
  refine fnS_okX F scTrustedI (by rfl) (by rfl) (by decide +kernel) hsup htop (fun vs H Q E h => ?_) (fun cda cc A outer s H vs Q E hr SUP h => ?_)
  · obtain ⟨G, x, dx, as, rfl, hl, _⟩ := h
    obtain ⟨v1, rfl⟩ := len_1 hl
    rfl
  · obtain ⟨G, x, dx, as, rfl, hl, sG, gx, hx, kd, sz, bad, good⟩ := h
    obtain ⟨v1, rfl⟩ := len_1 hl
    have hu64 := hr.units
    have cc := RC.c
    have passL0 : ∀ {X : Cx}, Passes CX0 X E0 := fun {X} => pass0
    have na1 := RC.own "tool" (by simp)
    obtain ⟨ty_1, k1⟩ := kd v1 (by simp)
    have outE : ∀ (cls : Addr) (f : Str) (v : V), rowFault Cn Cm Cs ([Sg.n] : List Sg) [v1] = some (cls, f, v) → ∀ (dd : Addr) (G' H' : Hp), Wd ⟨H, G, [x], []⟩ G' H' [x] → G' dd = some (.xd [(f, v)]) → E (.ref cls) (some dd) H' := fun cls f v hf dd G' H' w' hdd => by
      obtain ⟨_, ⟨o, ho⟩, _⟩ := w'.mu x (by simp)
      exact bad cls f v hf G' H' dd (fun b o hn h => w'.kp b o (by simpa using hn) h) ⟨o, ho, w'.mt x (by simp) o ho⟩ w'.gh w'.gr w'.fr hdd
    refine ⟨_, (pssF_cons (ps_expr (pe_callD DNN hr passS (pa_cons (pv 1) pa_nil)))
        (pss_sup SUP SC GR hr BR passL0 (pa_cons pe_str (pa_cons (pe_tup (pa_cons (pv 1) pa_nil)) (pa_cons (pe_tup (pa_cons (pv 1) pa_nil)) (pa_cons (pe_tup pa_nil) pa_nil))))
        (pssF_of (pss_one (ps_fld (pv 0) (pv 1) rfl))))), ?_⟩
    have w0 : Wd ⟨H, G, [x], []⟩ G H [x] := wd_start sG (fun b h => by rw [List.mem_singleton.mp h]; exact ⟨gx, _, hx, rfl⟩) (by simp)
    walk_at "qq"
    refine u_needN w0 k1 (fun z e => sz z (by rw [← e]; simp)) (fun c1 G1 H1 w1 s1 t1 => ?_) (fun c1 d G' H' w' s' t' hd => outE _ _ _ (by simp [rowFault, sgOk, sgErr, c1]) d G' H' w' hd)
    obtain ⟨z1, rfl⟩ : ∃ z, v1 = .str z := name_text c1
    have lz1 : z1.length ≤ 8 := nmOk_len c1
    walk_at "qq"
    have hxp := t1 _ _ (hx)
    refine r_sup rfl hxp ?_
    walk_at "qq"
    rename_i l11 G11 H11 n11 w11 s11 h11 t11 l12 G12 H12 n12 w12 s12 h12 t12 l13 G13 H13 n13 w13 s13 h13 t13
    have hx13 := t13 _ _ (t12 _ _ (t11 _ _ hxp))
    refine u_rowB w13 (by simp) hx13 fun H14 w14 b14 h14 => ?_
    walk_at "qq"
    rename_i H15 w15 h15 b15
    exact good (by simp [rowFault, sgOk, sgErr, c1]) G13 H15 l11 l12 l13 (fun b o hn h => w15.kp b o (by simpa using hn) h) w15.gh w15.gr w15.fr (s13 _ _ (s12 _ _ h11)) (s13 _ _ h12) h13 h15
abbrev nPassedI : List Str := (["self", "tool", "moment", "by"] : List Str)
theorem scPassedI : FnScS nPassedI (["self", "tool", "moment", "by"] : List Str) (defScope sPassedI) := ⟨rfl, rfl, rfl, by decide +kernel, rfl, by decide +kernel, by decide +kernel, by decide +kernel, by decide +kernel, by decide +kernel⟩
theorem ok_PassedI {f fR : Addr} {fd fdR : FuncData} {psR : List Str} (F : SupD P K "__init__" "Passed.__init__" sPassedI C f fd) (T : Bi mg) (RC : RwC K C (["tool", "moment", "by"] : List Str)) (hsup : mg "super" = none) (htop : (P.main.scope.names.lookup ("super" : Str)).isSome = false)
    (DNN : Df P w K mg base (L2.CX P w) 3 "need_name" [] (spNeedN K Cn)) (DNM0 : Df P w K mg base (L2.CX P w) 3 "need_moment" [.int 0] (spNeedM K Cm)) (DNM1 : Df P w K mg base (L2.CX P w) 3 "need_moment" [] (spNeedM K Cm)) 
    (SC : SupC K C C fR) (GR : FnOk P w K mg base CX0 1 fR fdR psR (spRow C)) (BR : Binds K fdR psR []) : FnOk P w K mg base (L2.CX P w) 4 f fd (["self", "tool", "moment", "by"] : List Str) (spRowI K C Cn Cm Cs "passed" [] ([Sg.n, Sg.m 0, Sg.n] : List Sg) (["tool", "moment", "by"] : List Str)) := by
  refine fnS_okX F scPassedI (by rfl) (by rfl) (by decide +kernel) hsup htop (fun vs H Q E h => ?_) (fun cda cc A outer s H vs Q E hr SUP h => ?_)
  · obtain ⟨G, x, dx, as, rfl, hl, _⟩ := h
    obtain ⟨v1, v2, v3, rfl⟩ := len_3 hl
    rfl
  · obtain ⟨G, x, dx, as, rfl, hl, sG, gx, hx, kd, sz, bad, good⟩ := h
    obtain ⟨v1, v2, v3, rfl⟩ := len_3 hl
    have hu64 := hr.units
    have cc := RC.c
    have passL0 : ∀ {X : Cx}, Passes CX0 X E0 := fun {X} => pass0
    have na1 := RC.own "tool" (by simp)
    have na2 := RC.own "moment" (by simp)
    have na3 := RC.own "by" (by simp)
    obtain ⟨ty_1, k1⟩ := kd v1 (by simp)
    obtain ⟨ty_2, k2⟩ := kd v2 (by simp)
    obtain ⟨ty_3, k3⟩ := kd v3 (by simp)
    have outE : ∀ (cls : Addr) (f : Str) (v : V), rowFault Cn Cm Cs ([Sg.n, Sg.m 0, Sg.n] : List Sg) [v1, v2, v3] = some (cls, f, v) → ∀ (dd : Addr) (G' H' : Hp), Wd ⟨H, G, [x], []⟩ G' H' [x] → G' dd = some (.xd [(f, v)]) → E (.ref cls) (some dd) H' := fun cls f v hf dd G' H' w' hdd => by
      obtain ⟨_, ⟨o, ho⟩, _⟩ := w'.mu x (by simp)
      exact bad cls f v hf G' H' dd (fun b o hn h => w'.kp b o (by simpa using hn) h) ⟨o, ho, w'.mt x (by simp) o ho⟩ w'.gh w'.gr w'.fr hdd
    refine ⟨_, (pssF_cons (ps_expr (pe_callD DNN hr passS (pa_cons (pv 1) pa_nil)))
        (pssF_cons (ps_expr (pe_callD DNM0 hr passS (pa_cons (pv 2) pa_nil)))
        (pssF_cons (ps_expr (pe_callD DNN hr passS (pa_cons (pv 3) pa_nil)))
        (pss_sup SUP SC GR hr BR passL0 (pa_cons pe_str (pa_cons (pe_tup (pa_cons (pv 1) (pa_cons (pe_callTy q_strN (by rfl) T.str (by decide +kernel) (pa_cons (pv 2) pa_nil)) (pa_cons (pv 3) pa_nil)))) (pa_cons (pe_tup (pa_cons (pv 1) (pa_cons (pv 3) pa_nil))) (pa_cons (pe_tup (pa_cons (pv 2) pa_nil)) pa_nil))))
        (pssF_of (pss_cons (ps_fld (pv 0) (pv 1) rfl)
        (pss_cons (ps_fld (pv 0) (pv 2) rfl)
        (pss_one (ps_fld (pv 0) (pv 3) rfl))))))))), ?_⟩
    have w0 : Wd ⟨H, G, [x], []⟩ G H [x] := wd_start sG (fun b h => by rw [List.mem_singleton.mp h]; exact ⟨gx, _, hx, rfl⟩) (by simp)
    walk_at "qq"
    refine u_needN w0 k1 (fun z e => sz z (by rw [← e]; simp)) (fun c1 G1 H1 w1 s1 t1 => ?_) (fun c1 d G' H' w' s' t' hd => outE _ _ _ (by simp [rowFault, sgOk, sgErr, c1]) d G' H' w' hd)
    obtain ⟨z1, rfl⟩ : ∃ z, v1 = .str z := name_text c1
    have lz1 : z1.length ≤ 8 := nmOk_len c1
    walk_at "qq"
    refine u_needM w1 (k2.same s1) (fun c2 G2 H2 w2 s2 t2 => ?_) (fun c2 d G' H' w' s' t' hd => outE _ _ _ (by simp [rowFault, sgOk, sgErr, c1, c2]) d G' H' w' hd)
    obtain ⟨z2, rfl, lo2, hi2⟩ := mom_num c2
    have lg2 : z2.natAbs.log2 < 1920 := logZ (by omega) hi2
    walk_at "qq"
    refine u_needN w2 (k3.same (s1.trans s2)) (fun z e => sz z (by rw [← e]; simp)) (fun c3 G3 H3 w3 s3 t3 => ?_) (fun c3 d G' H' w' s' t' hd => outE _ _ _ (by simp [rowFault, sgOk, sgErr, c1, c2, c3]) d G' H' w' hd)
    obtain ⟨z3, rfl⟩ : ∃ z, v3 = .str z := name_text c3
    have lz3 : z3.length ≤ 8 := nmOk_len c3
    walk_at "qq"
    have hxp := t3 _ _ (t2 _ _ (t1 _ _ (hx)))
    refine r_sup rfl hxp ?_
    walk_at "qq"
    rename_i l11 G11 H11 n11 w11 s11 h11 t11 l12 G12 H12 n12 w12 s12 h12 t12 l13 G13 H13 n13 w13 s13 h13 t13
    have hx13 := t13 _ _ (t12 _ _ (t11 _ _ hxp))
    refine u_rowB w13 (by simp) hx13 fun H14 w14 b14 h14 => ?_
    walk_at "qq"
    rename_i H15 w15 h15 b15 H16 w16 h16 b16 H17 w17 h17 b17
    exact good (by simp [rowFault, sgOk, sgErr, c1, c2, c3]) G13 H17 l11 l12 l13 (fun b o hn h => w17.kp b o (by simpa using hn) h) w17.gh w17.gr w17.fr (s13 _ _ (s12 _ _ h11)) (s13 _ _ h12) h13 h17
abbrev nFailedI : List Str := (["self", "tool", "moment", "by"] : List Str)
theorem scFailedI : FnScS nFailedI (["self", "tool", "moment", "by"] : List Str) (defScope sFailedI) := ⟨rfl, rfl, rfl, by decide +kernel, rfl, by decide +kernel, by decide +kernel, by decide +kernel, by decide +kernel, by decide +kernel⟩
theorem ok_FailedI {f fR : Addr} {fd fdR : FuncData} {psR : List Str} (F : SupD P K "__init__" "Failed.__init__" sFailedI C f fd) (T : Bi mg) (RC : RwC K C (["tool", "moment", "by"] : List Str)) (hsup : mg "super" = none) (htop : (P.main.scope.names.lookup ("super" : Str)).isSome = false)
    (DNN : Df P w K mg base (L2.CX P w) 3 "need_name" [] (spNeedN K Cn)) (DNM0 : Df P w K mg base (L2.CX P w) 3 "need_moment" [.int 0] (spNeedM K Cm)) (DNM1 : Df P w K mg base (L2.CX P w) 3 "need_moment" [] (spNeedM K Cm)) 
    (SC : SupC K C C fR) (GR : FnOk P w K mg base CX0 1 fR fdR psR (spRow C)) (BR : Binds K fdR psR []) : FnOk P w K mg base (L2.CX P w) 4 f fd (["self", "tool", "moment", "by"] : List Str) (spRowI K C Cn Cm Cs "failed" [] ([Sg.n, Sg.m 0, Sg.n] : List Sg) (["tool", "moment", "by"] : List Str)) := by
  refine fnS_okX F scFailedI (by rfl) (by rfl) (by decide +kernel) hsup htop (fun vs H Q E h => ?_) (fun cda cc A outer s H vs Q E hr SUP h => ?_)
  · obtain ⟨G, x, dx, as, rfl, hl, _⟩ := h
    obtain ⟨v1, v2, v3, rfl⟩ := len_3 hl
    rfl
  · obtain ⟨G, x, dx, as, rfl, hl, sG, gx, hx, kd, sz, bad, good⟩ := h
    obtain ⟨v1, v2, v3, rfl⟩ := len_3 hl
    have hu64 := hr.units
    have cc := RC.c
    have passL0 : ∀ {X : Cx}, Passes CX0 X E0 := fun {X} => pass0
    have na1 := RC.own "tool" (by simp)
    have na2 := RC.own "moment" (by simp)
    have na3 := RC.own "by" (by simp)
    obtain ⟨ty_1, k1⟩ := kd v1 (by simp)
    obtain ⟨ty_2, k2⟩ := kd v2 (by simp)
    obtain ⟨ty_3, k3⟩ := kd v3 (by simp)
    have outE : ∀ (cls : Addr) (f : Str) (v : V), rowFault Cn Cm Cs ([Sg.n, Sg.m 0, Sg.n] : List Sg) [v1, v2, v3] = some (cls, f, v) → ∀ (dd : Addr) (G' H' : Hp), Wd ⟨H, G, [x], []⟩ G' H' [x] → G' dd = some (.xd [(f, v)]) → E (.ref cls) (some dd) H' := fun cls f v hf dd G' H' w' hdd => by
      obtain ⟨_, ⟨o, ho⟩, _⟩ := w'.mu x (by simp)
      exact bad cls f v hf G' H' dd (fun b o hn h => w'.kp b o (by simpa using hn) h) ⟨o, ho, w'.mt x (by simp) o ho⟩ w'.gh w'.gr w'.fr hdd
    refine ⟨_, (pssF_cons (ps_expr (pe_callD DNN hr passS (pa_cons (pv 1) pa_nil)))
        (pssF_cons (ps_expr (pe_callD DNM0 hr passS (pa_cons (pv 2) pa_nil)))
        (pssF_cons (ps_expr (pe_callD DNN hr passS (pa_cons (pv 3) pa_nil)))
        (pss_sup SUP SC GR hr BR passL0 (pa_cons pe_str (pa_cons (pe_tup (pa_cons (pv 1) (pa_cons (pe_callTy q_strN (by rfl) T.str (by decide +kernel) (pa_cons (pv 2) pa_nil)) (pa_cons (pv 3) pa_nil)))) (pa_cons (pe_tup (pa_cons (pv 1) (pa_cons (pv 3) pa_nil))) (pa_cons (pe_tup (pa_cons (pv 2) pa_nil)) pa_nil))))
        (pssF_of (pss_cons (ps_fld (pv 0) (pv 1) rfl)
        (pss_cons (ps_fld (pv 0) (pv 2) rfl)
        (pss_one (ps_fld (pv 0) (pv 3) rfl))))))))), ?_⟩
    have w0 : Wd ⟨H, G, [x], []⟩ G H [x] := wd_start sG (fun b h => by rw [List.mem_singleton.mp h]; exact ⟨gx, _, hx, rfl⟩) (by simp)
    walk_at "qq"
    refine u_needN w0 k1 (fun z e => sz z (by rw [← e]; simp)) (fun c1 G1 H1 w1 s1 t1 => ?_) (fun c1 d G' H' w' s' t' hd => outE _ _ _ (by simp [rowFault, sgOk, sgErr, c1]) d G' H' w' hd)
    obtain ⟨z1, rfl⟩ : ∃ z, v1 = .str z := name_text c1
    have lz1 : z1.length ≤ 8 := nmOk_len c1
    walk_at "qq"
    refine u_needM w1 (k2.same s1) (fun c2 G2 H2 w2 s2 t2 => ?_) (fun c2 d G' H' w' s' t' hd => outE _ _ _ (by simp [rowFault, sgOk, sgErr, c1, c2]) d G' H' w' hd)
    obtain ⟨z2, rfl, lo2, hi2⟩ := mom_num c2
    have lg2 : z2.natAbs.log2 < 1920 := logZ (by omega) hi2
    walk_at "qq"
    refine u_needN w2 (k3.same (s1.trans s2)) (fun z e => sz z (by rw [← e]; simp)) (fun c3 G3 H3 w3 s3 t3 => ?_) (fun c3 d G' H' w' s' t' hd => outE _ _ _ (by simp [rowFault, sgOk, sgErr, c1, c2, c3]) d G' H' w' hd)
    obtain ⟨z3, rfl⟩ : ∃ z, v3 = .str z := name_text c3
    have lz3 : z3.length ≤ 8 := nmOk_len c3
    walk_at "qq"
    have hxp := t3 _ _ (t2 _ _ (t1 _ _ (hx)))
    refine r_sup rfl hxp ?_
    walk_at "qq"
    rename_i l11 G11 H11 n11 w11 s11 h11 t11 l12 G12 H12 n12 w12 s12 h12 t12 l13 G13 H13 n13 w13 s13 h13 t13
    have hx13 := t13 _ _ (t12 _ _ (t11 _ _ hxp))
    refine u_rowB w13 (by simp) hx13 fun H14 w14 b14 h14 => ?_
    walk_at "qq"
    rename_i H15 w15 h15 b15 H16 w16 h16 b16 H17 w17 h17 b17
    exact good (by simp [rowFault, sgOk, sgErr, c1, c2, c3]) G13 H17 l11 l12 l13 (fun b o hn h => w17.kp b o (by simpa using hn) h) w17.gh w17.gr w17.fr (s13 _ _ (s12 _ _ h11)) (s13 _ _ h12) h13 h17
abbrev nMeetingI : List Str := (["self", "kind", "one", "moment", "other", "later"] : List Str)
theorem scMeetingI : FnScS nMeetingI (["self", "kind", "one", "moment", "other", "later"] : List Str) (defScope sMeetingI) := ⟨rfl, rfl, rfl, by decide +kernel, rfl, by decide +kernel, by decide +kernel, by decide +kernel, by decide +kernel, by decide +kernel⟩
theorem ok_MeetingI {f fR D : Addr} {fd fdR : FuncData} {psR : List Str} (kind : Str) (F : SupD P K "__init__" "Meeting.__init__" sMeetingI D f fd) (T : Bi mg) (RC : RwC K C (["one", "moment", "other", "later"] : List Str)) (hsup : mg "super" = none) (htop : (P.main.scope.names.lookup ("super" : Str)).isSome = false)
    (DNN : Df P w K mg base (L2.CX P w) 3 "need_name" [] (spNeedN K Cn)) (DNM0 : Df P w K mg base (L2.CX P w) 3 "need_moment" [.int 0] (spNeedM K Cm)) (DNM1 : Df P w K mg base (L2.CX P w) 3 "need_moment" [] (spNeedM K Cm)) 
    (SC : SupC K C D fR) (GR : FnOk P w K mg base CX0 1 fR fdR psR (spRow C)) (BR : Binds K fdR psR []) : FnOk P w K mg base (L2.CX P w) 4 f fd (["self", "kind", "one", "moment", "other", "later"] : List Str) (spRowI K C Cn Cm Cs kind [.str kind] ([Sg.n, Sg.m 0, Sg.n, Sg.m 0] : List Sg) (["one", "moment", "other", "later"] : List Str)) := by
  refine fnS_okX F scMeetingI (by rfl) (by rfl) (by decide +kernel) hsup htop (fun vs H Q E h => ?_) (fun cda cc A outer s H vs Q E hr SUP h => ?_)
  · obtain ⟨G, x, dx, as, rfl, hl, _⟩ := h
    obtain ⟨v1, v2, v3, v4, rfl⟩ := len_4 hl
    rfl
  · obtain ⟨G, x, dx, as, rfl, hl, sG, gx, hx, kd, sz, bad, good⟩ := h
    obtain ⟨v1, v2, v3, v4, rfl⟩ := len_4 hl
    have hu64 := hr.units
    have cc := RC.c
    have passL0 : ∀ {X : Cx}, Passes CX0 X E0 := fun {X} => pass0
    have na1 := RC.own "one" (by simp)
    have na2 := RC.own "moment" (by simp)
    have na3 := RC.own "other" (by simp)
    have na4 := RC.own "later" (by simp)
    obtain ⟨ty_1, k1⟩ := kd v1 (by simp)
    obtain ⟨ty_2, k2⟩ := kd v2 (by simp)
    obtain ⟨ty_3, k3⟩ := kd v3 (by simp)
    obtain ⟨ty_4, k4⟩ := kd v4 (by simp)
    have outE : ∀ (cls : Addr) (f : Str) (v : V), rowFault Cn Cm Cs ([Sg.n, Sg.m 0, Sg.n, Sg.m 0] : List Sg) [v1, v2, v3, v4] = some (cls, f, v) → ∀ (dd : Addr) (G' H' : Hp), Wd ⟨H, G, [x], []⟩ G' H' [x] → G' dd = some (.xd [(f, v)]) → E (.ref cls) (some dd) H' := fun cls f v hf dd G' H' w' hdd => by
      obtain ⟨_, ⟨o, ho⟩, _⟩ := w'.mu x (by simp)
      exact bad cls f v hf G' H' dd (fun b o hn h => w'.kp b o (by simpa using hn) h) ⟨o, ho, w'.mt x (by simp) o ho⟩ w'.gh w'.gr w'.fr hdd
    refine ⟨_, (pssF_cons (ps_expr (pe_callD DNN hr passS (pa_cons (pv 2) pa_nil)))
        (pssF_cons (ps_expr (pe_callD DNM0 hr passS (pa_cons (pv 3) pa_nil)))
        (pssF_cons (ps_expr (pe_callD DNN hr passS (pa_cons (pv 4) pa_nil)))
        (pssF_cons (ps_expr (pe_callD DNM0 hr passS (pa_cons (pv 5) pa_nil)))
        (pss_sup SUP SC GR hr BR passL0 (pa_cons (pv 1) (pa_cons (pe_tup (pa_cons (pv 2) (pa_cons (pe_callTy q_strN (by rfl) T.str (by decide +kernel) (pa_cons (pv 3) pa_nil)) (pa_cons (pv 4) (pa_cons (pe_callTy q_strN (by rfl) T.str (by decide +kernel) (pa_cons (pv 5) pa_nil)) pa_nil))))) (pa_cons (pe_tup (pa_cons (pv 2) (pa_cons (pv 4) pa_nil))) (pa_cons (pe_tup (pa_cons (pv 3) (pa_cons (pv 5) pa_nil))) pa_nil))))
        (pssF_of (pss_cons (ps_fld (pv 0) (pv 2) rfl)
        (pss_cons (ps_fld (pv 0) (pv 3) rfl)
        (pss_cons (ps_fld (pv 0) (pv 4) rfl)
        (pss_one (ps_fld (pv 0) (pv 5) rfl))))))))))), ?_⟩
    have w0 : Wd ⟨H, G, [x], []⟩ G H [x] := wd_start sG (fun b h => by rw [List.mem_singleton.mp h]; exact ⟨gx, _, hx, rfl⟩) (by simp)
    walk_at "qq"
    refine u_needN w0 k1 (fun z e => sz z (by rw [← e]; simp)) (fun c1 G1 H1 w1 s1 t1 => ?_) (fun c1 d G' H' w' s' t' hd => outE _ _ _ (by simp [rowFault, sgOk, sgErr, c1]) d G' H' w' hd)
    obtain ⟨z1, rfl⟩ : ∃ z, v1 = .str z := name_text c1
    have lz1 : z1.length ≤ 8 := nmOk_len c1
    walk_at "qq"
    refine u_needM w1 (k2.same s1) (fun c2 G2 H2 w2 s2 t2 => ?_) (fun c2 d G' H' w' s' t' hd => outE _ _ _ (by simp [rowFault, sgOk, sgErr, c1, c2]) d G' H' w' hd)
    obtain ⟨z2, rfl, lo2, hi2⟩ := mom_num c2
    have lg2 : z2.natAbs.log2 < 1920 := logZ (by omega) hi2
    walk_at "qq"
    refine u_needN w2 (k3.same (s1.trans s2)) (fun z e => sz z (by rw [← e]; simp)) (fun c3 G3 H3 w3 s3 t3 => ?_) (fun c3 d G' H' w' s' t' hd => outE _ _ _ (by simp [rowFault, sgOk, sgErr, c1, c2, c3]) d G' H' w' hd)
    obtain ⟨z3, rfl⟩ : ∃ z, v3 = .str z := name_text c3
    have lz3 : z3.length ≤ 8 := nmOk_len c3
    walk_at "qq"
    refine u_needM w3 (k4.same (s1.trans (s2.trans s3))) (fun c4 G4 H4 w4 s4 t4 => ?_) (fun c4 d G' H' w' s' t' hd => outE _ _ _ (by simp [rowFault, sgOk, sgErr, c1, c2, c3, c4]) d G' H' w' hd)
    obtain ⟨z4, rfl, lo4, hi4⟩ := mom_num c4
    have lg4 : z4.natAbs.log2 < 1920 := logZ (by omega) hi4
    walk_at "qq"
    have hxp := t4 _ _ (t3 _ _ (t2 _ _ (t1 _ _ (hx))))
    refine r_sup rfl hxp ?_
    walk_at "qq"
    rename_i l11 G11 H11 n11 w11 s11 h11 t11 l12 G12 H12 n12 w12 s12 h12 t12 l13 G13 H13 n13 w13 s13 h13 t13
    have hx13 := t13 _ _ (t12 _ _ (t11 _ _ hxp))
    refine u_rowB w13 (by simp) hx13 fun H14 w14 b14 h14 => ?_
    walk_at "qq"
    rename_i H15 w15 h15 b15 H16 w16 h16 b16 H17 w17 h17 b17 H18 w18 h18 b18
    exact good (by simp [rowFault, sgOk, sgErr, c1, c2, c3, c4]) G13 H18 l11 l12 l13 (fun b o hn h => w18.kp b o (by simpa using hn) h) w18.gh w18.gr w18.fr (s13 _ _ (s12 _ _ h11)) (s13 _ _ h12) h13 h18
abbrev nAgreedI : List Str := (["self", "one", "moment", "other", "later"] : List Str)
theorem scAgreedI : FnScS nAgreedI (["self", "one", "moment", "other", "later"] : List Str) (defScope sAgreedI) := ⟨rfl, rfl, rfl, by decide +kernel, rfl, by decide +kernel, by decide +kernel, by decide +kernel, by decide +kernel, by decide +kernel⟩
theorem ok_AgreedI {f fM : Addr} {fd fdM : FuncData} {psM : List Str} (F : SupD P K "__init__" "Agreed.__init__" sAgreedI C f fd) (hsup : mg "super" = none) (htop : (P.main.scope.names.lookup ("super" : Str)).isSome = false)
    (SC : SupC K C C fM) (GM : FnOk P w K mg base (L2.CX P w) 4 fM fdM psM (spRowI K C Cn Cm Cs "agreed" [.str "agreed"] ([Sg.n, Sg.m 0, Sg.n, Sg.m 0] : List Sg) (["one", "moment", "other", "later"] : List Str))) (BM : Binds K fdM psM []) : FnOk P w K mg base (L2.CX P w) 5 f fd (["self", "one", "moment", "other", "later"] : List Str) (spRowI K C Cn Cm Cs "agreed" [] ([Sg.n, Sg.m 0, Sg.n, Sg.m 0] : List Sg) (["one", "moment", "other", "later"] : List Str)) := by
  refine fnS_okX F scAgreedI (by rfl) (by rfl) (by decide +kernel) hsup htop (fun vs H Q E h => ?_) (fun cda cc A outer s H vs Q E hr SUP h => ?_)
  · obtain ⟨G, x, dx, as, rfl, hl, _⟩ := h
    obtain ⟨v1, v2, v3, v4, rfl⟩ := len_4 hl
    rfl
  · obtain ⟨G, x, dx, as, rfl, hl, sG, gx, hx, kd, sz, bad, good⟩ := h
    obtain ⟨v1, v2, v3, v4, rfl⟩ := len_4 hl
    have hu64 := hr.units
    refine ⟨_, (pss_sup SUP SC GM hr BM passS (pa_cons pe_str (pa_cons (pv 1) (pa_cons (pv 2) (pa_cons (pv 3) (pa_cons (pv 4) pa_nil)))))
        (pssF_of pss_nil)), ?_⟩
    refine r_sup rfl hx ?_
    walk_at "qq"
    exact ⟨G, x, dx, [v1, v2, v3, v4], rfl, hl, sG, gx, hx, kd, sz, bad, good⟩
abbrev nDifferedI : List Str := (["self", "one", "moment", "other", "later"] : List Str)
theorem scDifferedI : FnScS nDifferedI (["self", "one", "moment", "other", "later"] : List Str) (defScope sDifferedI) := ⟨rfl, rfl, rfl, by decide +kernel, rfl, by decide +kernel, by decide +kernel, by decide +kernel, by decide +kernel, by decide +kernel⟩
theorem ok_DifferedI {f fM : Addr} {fd fdM : FuncData} {psM : List Str} (F : SupD P K "__init__" "Differed.__init__" sDifferedI C f fd) (hsup : mg "super" = none) (htop : (P.main.scope.names.lookup ("super" : Str)).isSome = false)
    (SC : SupC K C C fM) (GM : FnOk P w K mg base (L2.CX P w) 4 fM fdM psM (spRowI K C Cn Cm Cs "differed" [.str "differed"] ([Sg.n, Sg.m 0, Sg.n, Sg.m 0] : List Sg) (["one", "moment", "other", "later"] : List Str))) (BM : Binds K fdM psM []) : FnOk P w K mg base (L2.CX P w) 5 f fd (["self", "one", "moment", "other", "later"] : List Str) (spRowI K C Cn Cm Cs "differed" [] ([Sg.n, Sg.m 0, Sg.n, Sg.m 0] : List Sg) (["one", "moment", "other", "later"] : List Str)) := by
  refine fnS_okX F scDifferedI (by rfl) (by rfl) (by decide +kernel) hsup htop (fun vs H Q E h => ?_) (fun cda cc A outer s H vs Q E hr SUP h => ?_)
  · obtain ⟨G, x, dx, as, rfl, hl, _⟩ := h
    obtain ⟨v1, v2, v3, v4, rfl⟩ := len_4 hl
    rfl
  · obtain ⟨G, x, dx, as, rfl, hl, sG, gx, hx, kd, sz, bad, good⟩ := h
    obtain ⟨v1, v2, v3, v4, rfl⟩ := len_4 hl
    have hu64 := hr.units
    refine ⟨_, (pss_sup SUP SC GM hr BM passS (pa_cons pe_str (pa_cons (pv 1) (pa_cons (pv 2) (pa_cons (pv 3) (pa_cons (pv 4) pa_nil)))))
        (pssF_of pss_nil)), ?_⟩
    refine r_sup rfl hx ?_
    walk_at "qq"
    exact ⟨G, x, dx, [v1, v2, v3, v4], rfl, hl, sG, gx, hx, kd, sz, bad, good⟩
abbrev nServedI : List Str := (["self", "one", "moment", "other", "later"] : List Str)
theorem scServedI : FnScS nServedI (["self", "one", "moment", "other", "later"] : List Str) (defScope sServedI) := ⟨rfl, rfl, rfl, by decide +kernel, rfl, by decide +kernel, by decide +kernel, by decide +kernel, by decide +kernel, by decide +kernel⟩
theorem ok_ServedI {f fM : Addr} {fd fdM : FuncData} {psM : List Str} (F : SupD P K "__init__" "Served.__init__" sServedI C f fd) (hsup : mg "super" = none) (htop : (P.main.scope.names.lookup ("super" : Str)).isSome = false)
    (SC : SupC K C C fM) (GM : FnOk P w K mg base (L2.CX P w) 4 fM fdM psM (spRowI K C Cn Cm Cs "served" [.str "served"] ([Sg.n, Sg.m 0, Sg.n, Sg.m 0] : List Sg) (["one", "moment", "other", "later"] : List Str))) (BM : Binds K fdM psM []) : FnOk P w K mg base (L2.CX P w) 5 f fd (["self", "one", "moment", "other", "later"] : List Str) (spRowI K C Cn Cm Cs "served" [] ([Sg.n, Sg.m 0, Sg.n, Sg.m 0] : List Sg) (["one", "moment", "other", "later"] : List Str)) := by
  refine fnS_okX F scServedI (by rfl) (by rfl) (by decide +kernel) hsup htop (fun vs H Q E h => ?_) (fun cda cc A outer s H vs Q E hr SUP h => ?_)
  · obtain ⟨G, x, dx, as, rfl, hl, _⟩ := h
    obtain ⟨v1, v2, v3, v4, rfl⟩ := len_4 hl
    rfl
  · obtain ⟨G, x, dx, as, rfl, hl, sG, gx, hx, kd, sz, bad, good⟩ := h
    obtain ⟨v1, v2, v3, v4, rfl⟩ := len_4 hl
    have hu64 := hr.units
    refine ⟨_, (pss_sup SUP SC GM hr BM passS (pa_cons pe_str (pa_cons (pv 1) (pa_cons (pv 2) (pa_cons (pv 3) (pa_cons (pv 4) pa_nil)))))
        (pssF_of pss_nil)), ?_⟩
    refine r_sup rfl hx ?_
    walk_at "qq"
    exact ⟨G, x, dx, [v1, v2, v3, v4], rfl, hl, sG, gx, hx, kd, sz, bad, good⟩
abbrev nBackedI : List Str := (["self", "one", "moment", "other", "later"] : List Str)
theorem scBackedI : FnScS nBackedI (["self", "one", "moment", "other", "later"] : List Str) (defScope sBackedI) := ⟨rfl, rfl, rfl, by decide +kernel, rfl, by decide +kernel, by decide +kernel, by decide +kernel, by decide +kernel, by decide +kernel⟩
theorem ok_BackedI {f fM : Addr} {fd fdM : FuncData} {psM : List Str} (F : SupD P K "__init__" "Backed.__init__" sBackedI C f fd) (hsup : mg "super" = none) (htop : (P.main.scope.names.lookup ("super" : Str)).isSome = false)
    (SC : SupC K C C fM) (GM : FnOk P w K mg base (L2.CX P w) 4 fM fdM psM (spRowI K C Cn Cm Cs "backed" [.str "backed"] ([Sg.n, Sg.m 0, Sg.n, Sg.m 0] : List Sg) (["one", "moment", "other", "later"] : List Str))) (BM : Binds K fdM psM []) : FnOk P w K mg base (L2.CX P w) 5 f fd (["self", "one", "moment", "other", "later"] : List Str) (spRowI K C Cn Cm Cs "backed" [] ([Sg.n, Sg.m 0, Sg.n, Sg.m 0] : List Sg) (["one", "moment", "other", "later"] : List Str)) := by
  refine fnS_okX F scBackedI (by rfl) (by rfl) (by decide +kernel) hsup htop (fun vs H Q E h => ?_) (fun cda cc A outer s H vs Q E hr SUP h => ?_)
  · obtain ⟨G, x, dx, as, rfl, hl, _⟩ := h
    obtain ⟨v1, v2, v3, v4, rfl⟩ := len_4 hl
    rfl
  · obtain ⟨G, x, dx, as, rfl, hl, sG, gx, hx, kd, sz, bad, good⟩ := h
    obtain ⟨v1, v2, v3, v4, rfl⟩ := len_4 hl
    have hu64 := hr.units
    refine ⟨_, (pss_sup SUP SC GM hr BM passS (pa_cons pe_str (pa_cons (pv 1) (pa_cons (pv 2) (pa_cons (pv 3) (pa_cons (pv 4) pa_nil)))))
        (pssF_of pss_nil)), ?_⟩
    refine r_sup rfl hx ?_
    walk_at "qq"
    exact ⟨G, x, dx, [v1, v2, v3, v4], rfl, hl, sG, gx, hx, kd, sz, bad, good⟩
end
section
variable {P : Program} {w : World} {K : PySem.W.Frag} {mg : Str → Option Value} {base : Heap}
abbrev nTick : List Str := ["_law_pen_here", "_law_some"]
theorem scTick : FnScope nTick ["_law_pen_here"] (defScope sTick) := ⟨rfl, rfl, rfl, by decide +kernel, rfl, by decide +kernel, by decide +kernel⟩
theorem ok_tick {f : Addr} {fd : FuncData} (F : FnP K "_law_tick" "_law_tick" sTick [] f fd) (Dd : Df P w K mg base CX0 2 "_law_draw" [] spDraw) (Dp : Df P w K mg base CX0 3 "_law_pick" [] (spPick K)) : FnOk P w K mg base CX0 4 f fd ["_law_pen_here"] spMom1 := by
  refine fnP_ok F scTick (fun vs H Q E h => ?_) (fun cdv A outer s H vs Q E hr h => ?_)
  · obtain ⟨G, p, c, n, rfl, _⟩ := h
    rfl
  · obtain ⟨G, p, c, n, rfl, sG, gp, hc, hp, hn, k⟩ := h
    have hu64 := hr.units
    have w0 : Wd ⟨H, G, [p], []⟩ G H [p] := by
      obtain ⟨a, g, h1, _⟩ := id hp
      exact wd_start sG (fun a h => by rw [List.mem_singleton.mp h]; exact ⟨gp, _, h1, rfl⟩) (by simp)
    have e30 : (10 : Int) ^ Int.toNat 30 = 1000000000000000000000000000000 := by decide
    refine ⟨_, (pss_cons (ps_set (i := 1) scTick.nd rfl (Or.inl rfl) (pe_lst (pa_cons pe_int (pa_cons pe_int (pa_cons pe_int (pa_cons pe_int (pa_cons pe_int (pa_cons pe_int (pa_cons pe_int (pa_cons pe_int (pa_cons (pe_op q_pow pe_int pe_int) (pa_cons (pe_op q_sub (pe_op q_pow pe_int pe_int) pe_int) pa_nil))))))))))))
        (pss_one (ps_ret (pe_callD Dp hr pass0 (pa_cons (pv 0) (pa_cons (pe_op q_add (pv 1) (pe_lst (pa_cons (pe_callD Dd hr pass0 (pa_cons (pv 0) (pa_cons pe_int pa_nil))) (pa_cons (pe_callD Dd hr pass0 (pa_cons (pv 0) (pa_cons (pe_op q_pow pe_int pe_int) pa_nil))) pa_nil)))) pa_nil)))))), ?_⟩
    walk_at "qq"
    rename_i l0 G0 H0 n0 w9 s0 h0 t0
    refine u_draw w9 (by simp) (hc.same s0) (hp.same t0) (by omega) (by decide) (by decide) fun d1 G1 H1 w1 s1 b1 P1 a1 a2 => ?_
    walk_at "qq"
    rw [e30]
    refine u_draw w1 (by simp) ((hc.same s0).same s1) P1 (by omega) (by decide) (by decide) fun d2 G2 H2 w2 s2 b2 P2 a3 a4 => ?_
    walk_at "qq"
    rename_i l2 G5 H5 n5 w5 s5 h5 t5 l3 G3 H3 n3 w3 s3 h3 t3
    refine u_pick w3 (by simp) (((((hc.same s0).same s1).same s2).same s5).same s3) ((P2.same t5).same t3) (by omega) (.inl ⟨l3, rfl, .inl (SqL.of h3)⟩) (by simp) (Nat.le_of_ble_eq_true rfl) fun v G4 H4 w4 s4 b4 P4 m4 => ?_
    refine retP_of k w4 P4 ?_
    simp only [List.cons_append, List.nil_append, List.mem_cons, List.not_mem_nil, or_false] at m4
    rcases m4 with rfl | rfl | rfl | rfl | rfl | rfl | rfl | rfl | rfl | rfl | rfl | rfl
    · exact ⟨_, rfl, by decide, by decide⟩
    · exact ⟨_, rfl, by decide, by decide⟩
    · exact ⟨_, rfl, by decide, by decide⟩
    · exact ⟨_, rfl, by decide, by decide⟩
    · exact ⟨_, rfl, by decide, by decide⟩
    · exact ⟨_, rfl, by decide, by decide⟩
    · exact ⟨_, rfl, by decide, by decide⟩
    · exact ⟨_, rfl, by decide, by decide⟩
    · exact ⟨_, rfl, by decide, by decide⟩
    · exact ⟨_, rfl, by decide, by decide⟩
    · exact ⟨_, rfl, by omega, by omega⟩
    · exact ⟨_, rfl, by omega, by omega⟩
abbrev nKinds : List Str := ["_law_some"]
theorem scKinds : FnScope nKinds [] (defScope sKinds) := ⟨rfl, rfl, rfl, by decide +kernel, rfl, by decide +kernel, by decide +kernel⟩
theorem ok_kinds {f : Addr} {fd : FuncData} (F : FnP K "_law_kinds" "_law_kinds" sKinds [] f fd) : FnOk P w K mg base CX0 1 f fd [] spKinds := by
  refine fnP_ok F scKinds (fun vs H Q E h => ?_) (fun cdv A outer s H vs Q E hr h => ?_)
  · obtain ⟨G, rfl, _⟩ := h
    rfl
  · obtain ⟨G, rfl, sG, k⟩ := h
    have hu64 := hr.units
    refine ⟨_, (pss_cons (ps_set (i := 0) scKinds.nd rfl (Or.inl rfl) (pe_lst (pa_cons pe_str (pa_cons pe_str (pa_cons pe_str (pa_cons pe_str (pa_cons pe_str (pa_cons pe_str pa_nil))))))))
        (pss_one (ps_ret (pe_op q_add (pv 0) (pe_lst (pa_cons pe_str (pa_cons pe_str (pa_cons pe_str (pa_cons pe_str pa_nil))))))))), ?_⟩
    have w0 := wd_pure sG
    walk_at "qq"
    rename_i l1 G1 H1 n1 w1 s1 h1 t1
    exact ret_of k w1 ⟨_, rfl, h1⟩
abbrev nDrawn : List Str := ["_law_pen_here", "_law_crew_here", "_law_kinds_here", "_law_kind", "_law_left", "_law_right", "_law_tick_here", "_law_far"]
theorem scDrawn : FnScope nDrawn ["_law_pen_here", "_law_crew_here", "_law_kinds_here"] (defScope sDrawn) := ⟨rfl, rfl, rfl, by decide +kernel, rfl, by decide +kernel, by decide +kernel⟩
theorem ok_drawn {f : Addr} {fd : FuncData} (F : FnP K "_law_drawn" "_law_drawn" sDrawn [] f fd) (T : Bi mg) (Dd : Df P w K mg base CX0 2 "_law_draw" [] spDraw) (Dp : Df P w K mg base CX0 3 "_law_pick" [] (spPick K)) (Dt : Df P w K mg base CX0 4 "_law_tick" [] spMom1) : FnOk P w K mg base CX0 5 f fd ["_law_pen_here", "_law_crew_here", "_law_kinds_here"] spDrawnN := by
  refine fnP_ok F scDrawn (fun vs H Q E h => ?_) (fun cdv A outer s H vs Q E hr h => ?_)
  · obtain ⟨G, p, c, cr, lk, n, ns, ks, rfl, _⟩ := h
    rfl
  · obtain ⟨G, p, c, cr, lk, n, ns, ks, rfl, sG, gp, hc, hp, hn, g1, g2, g3, g4, g5, g6, g7, g8, k⟩ := h
    have hu64 := hr.units
    have w0 : Wd ⟨H, G, [p], []⟩ G H [p] := by
      obtain ⟨a, g, h1, _⟩ := id hp
      exact wd_start sG (fun a h => by rw [List.mem_singleton.mp h]; exact ⟨gp, _, h1, rfl⟩) (by simp)
    refine ⟨_, (pss_cons (ps_set (i := 3) scDrawn.nd rfl (Or.inl rfl) (pe_callD Dp hr pass0 (pa_cons (pv 0) (pa_cons (pv 2) pa_nil))))
        (pss_cons (ps_par (i := 4) (j := 5) (by rfl) scDrawn.nd rfl rfl (by decide) rfl rfl (pa_cons (pe_callD Dp hr pass0 (pa_cons (pv 0) (pa_cons (pv 1) pa_nil))) (pa_cons (pe_callD Dp hr pass0 (pa_cons (pv 0) (pa_cons (pv 1) pa_nil))) pa_nil)) (by rfl))
        (pss_cons (ps_par (i := 6) (j := 7) (by rfl) scDrawn.nd rfl rfl (by decide) rfl rfl (pa_cons (pe_callD Dt hr pass0 (pa_cons (pv 0) pa_nil)) (pa_cons (pe_callD Dt hr pass0 (pa_cons (pv 0) pa_nil)) pa_nil)) (by rfl))
        (pss_cons (ps_if (pt_cmpR op_in_seq (pv 3) (pe_tup (pa_cons pe_str (pa_cons pe_str pa_nil))) (by rfl)) (pss_one (ps_set (i := 6) scDrawn.nd rfl (Or.inl rfl) (pe_op q_add (pv 6) (pe_callTy q_int (by rfl) T.int (by decide +kernel) (pa_cons (pe_cmpR (q_eq hu64) (pv 6) pe_int (nomark _)) pa_nil))))) pss_nil)
        (pss_cons (ps_if (pt_cmpR (q_eq hu64) (pv 3) pe_str (nomark _)) (pss_one (ps_ret (pe_tup (pa_cons (pv 3) (pa_cons (pv 4) (pa_cons (pv 6) pa_nil)))))) pss_nil)
        (pss_cons (ps_if (pt_cmpR (q_eq hu64) (pv 3) pe_str (nomark _)) (pss_one (ps_ret (pe_tup (pa_cons (pv 3) (pa_cons (pv 4) pa_nil))))) pss_nil)
        (pss_cons (ps_if (pt_cmpR (q_eq hu64) (pv 3) pe_str (nomark _)) (pss_one (ps_ret (pe_tup (pa_cons (pv 3) (pa_cons (pv 4) (pa_cons (pv 6) (pa_cons (pe_cmpR (q_eq hu64) (pe_callD Dd hr pass0 (pa_cons (pv 0) (pa_cons pe_int pa_nil))) pe_int (nomark _)) pa_nil))))))) pss_nil)
        (pss_cons (ps_if (pt_cmpR op_in_seq (pv 3) (pe_tup (pa_cons pe_str (pa_cons pe_str (pa_cons pe_str pa_nil)))) (by rfl)) (pss_one (ps_ret (pe_tup (pa_cons (pv 3) (pa_cons (pv 4) (pa_cons (pv 6) (pa_cons (pv 5) pa_nil))))))) pss_nil)
        (pss_one (ps_ret (pe_tup (pa_cons (pv 3) (pa_cons (pv 4) (pa_cons (pv 6) (pa_cons (pv 5) (pa_cons (pv 7) pa_nil)))))))))))))))), ?_⟩
    walk_at "qq"
    refine u_pick w0 (by simp) hc hp (by omega) (.inl ⟨lk, rfl, .inl (SqL.of g5)⟩) (by simpa using g6) (by rw [List.length_map]; omega) fun v1 G1 H1 w1 s1 b1 P1 m1 => ?_
    obtain ⟨z, hz, rfl⟩ := List.mem_map.mp m1
    obtain ⟨i, hi, rfl⟩ := g8 z hz
    walk_at "qq"
    have hc1 := hc.same s1
    refine u_pick w1 (by simp) hc1 P1 (by omega) (.inl ⟨cr, rfl, .inl (SqL.of (s1 _ _ g1))⟩) (by simpa using g2) (by rw [List.length_map]; omega) fun v2 G2 H2 w2 s2 b2 P2 m2 => ?_
    obtain ⟨z1, hz1, rfl⟩ := List.mem_map.mp m2
    have kz1 := hz1
    replace hz1 := g4 z1 hz1
    walk_at "qq"
    have hc2 := hc1.same s2
    refine u_pick w2 (by simp) hc2 P2 (by omega) (.inl ⟨cr, rfl, .inl (SqL.of (s2 _ _ (s1 _ _ g1)))⟩) (by simpa using g2) (by rw [List.length_map]; omega) fun v3 G3 H3 w3 s3 b3 P3 m3 => ?_
    obtain ⟨z2, hz2, rfl⟩ := List.mem_map.mp m3
    have kz2 := hz2
    replace hz2 := g4 z2 hz2
    walk_at "qq"
    have hc3 := hc2.same s3
    refine u_mom1 w3 (by simp) hc3 P3 (by omega) fun i1 G4 H4 w4 s4 b4 P4 o1 => ?_
    walk_at "qq"
    have hc4 := hc3.same s4
    refine u_mom1 w4 (by simp) hc4 P4 (by omega) fun i2 G5 H5 w5 s5 b5 P5 o2 => ?_
    have hc5 := hc4.same s5
    have hk := hz
    obtain ⟨oa, ob⟩ := o1
    obtain ⟨oc, od⟩ := o2
    rcases (by omega : i = 0 ∨ i = 1 ∨ i = 2 ∨ i = 3 ∨ i = 4 ∨ i = 5 ∨ i = 6 ∨ i = 7 ∨ i = 8 ∨ i = 9) with rfl | rfl | rfl | rfl | rfl | rfl | rfl | rfl | rfl | rfl
    · walk_at "qq"
      refine iteY (by first | rfl | decide +kernel) ?_
      walk_at "qq"
      refine iteY (by first | rfl | decide +kernel) ?_
      walk_at "qq"
      refine retP_of k (by assumption) (PenAt.more (n := n + 1 + 1 + 1 + 3 + 3) (by walk_at "pen") (by omega)) ⟨_, 0, _, rfl, by decide, hk, by assumption, ?_, ?_⟩
      · refine ⟨rfl, ?_⟩
        simp [sgN, sgsT, sgOk, nameV, momV, isB, hz1, hz2]
        first | done | (split <;> omega) | omega
      · exact in_crew kz1 kz2 (by simp)
    · walk_at "qq"
      refine iteY (by first | rfl | decide +kernel) ?_
      walk_at "qq"
      refine iteN (by first | rfl | decide +kernel) ?_
      walk_at "qq"
      refine iteN (by first | rfl | decide +kernel) ?_
      walk_at "qq"
      refine iteN (by first | rfl | decide +kernel) ?_
      walk_at "qq"
      refine iteY (by first | rfl | decide +kernel) ?_
      walk_at "qq"
      refine retP_of k (by assumption) (PenAt.more (n := n + 1 + 1 + 1 + 3 + 3) (by walk_at "pen") (by omega)) ⟨_, 1, _, rfl, by decide, hk, by assumption, ?_, ?_⟩
      · refine ⟨rfl, ?_⟩
        simp [sgN, sgsT, sgOk, nameV, momV, isB, hz1, hz2]
        first | done | (split <;> omega) | omega
      · exact in_crew kz1 kz2 (by simp)
    · walk_at "qq"
      refine iteN (by first | rfl | decide +kernel) ?_
      walk_at "qq"
      refine iteN (by first | rfl | decide +kernel) ?_
      walk_at "qq"
      refine iteN (by first | rfl | decide +kernel) ?_
      walk_at "qq"
      refine iteY (by first | rfl | decide +kernel) ?_
      walk_at "qq"
      refine u_draw (by assumption) (by simp) (by walk_at "cells") (by walk_at "pen") (by omega) (by decide) (by decide) fun d7 G7 H7 w7 s7 b7 P7 _ _ => ?_
      walk_at "qq"
      refine retP_of k (by assumption) (PenAt.more (n := n + 1 + 1 + 1 + 3 + 3 + 1) (by walk_at "pen") (by omega)) ⟨_, 2, _, rfl, by decide, hk, by assumption, ?_, ?_⟩
      · refine ⟨rfl, ?_⟩
        simp [sgN, sgsT, sgOk, nameV, momV, isB, hz1, hz2]
        first | done | (split <;> omega) | omega
      · exact in_crew kz1 kz2 (by simp)
    · walk_at "qq"
      refine iteN (by first | rfl | decide +kernel) ?_
      walk_at "qq"
      refine iteN (by first | rfl | decide +kernel) ?_
      walk_at "qq"
      refine iteY (by first | rfl | decide +kernel) ?_
      walk_at "qq"
      refine retP_of k (by assumption) (PenAt.more (n := n + 1 + 1 + 1 + 3 + 3) (by walk_at "pen") (by omega)) ⟨_, 3, _, rfl, by decide, hk, by assumption, ?_, ?_⟩
      · refine ⟨rfl, ?_⟩
        simp [sgN, sgsT, sgOk, nameV, momV, isB, hz1, hz2]
        first | done | (split <;> omega) | omega
      · exact in_crew kz1 kz2 (by simp)
    · walk_at "qq"
      refine iteN (by first | rfl | decide +kernel) ?_
      walk_at "qq"
      refine iteN (by first | rfl | decide +kernel) ?_
      walk_at "qq"
      refine iteN (by first | rfl | decide +kernel) ?_
      walk_at "qq"
      refine iteN (by first | rfl | decide +kernel) ?_
      walk_at "qq"
      refine iteY (by first | rfl | decide +kernel) ?_
      walk_at "qq"
      refine retP_of k (by assumption) (PenAt.more (n := n + 1 + 1 + 1 + 3 + 3) (by walk_at "pen") (by omega)) ⟨_, 4, _, rfl, by decide, hk, by assumption, ?_, ?_⟩
      · refine ⟨rfl, ?_⟩
        simp [sgN, sgsT, sgOk, nameV, momV, isB, hz1, hz2]
        first | done | (split <;> omega) | omega
      · exact in_crew kz1 kz2 (by simp)
    · walk_at "qq"
      refine iteN (by first | rfl | decide +kernel) ?_
      walk_at "qq"
      refine iteN (by first | rfl | decide +kernel) ?_
      walk_at "qq"
      refine iteN (by first | rfl | decide +kernel) ?_
      walk_at "qq"
      refine iteN (by first | rfl | decide +kernel) ?_
      walk_at "qq"
      refine iteY (by first | rfl | decide +kernel) ?_
      walk_at "qq"
      refine retP_of k (by assumption) (PenAt.more (n := n + 1 + 1 + 1 + 3 + 3) (by walk_at "pen") (by omega)) ⟨_, 5, _, rfl, by decide, hk, by assumption, ?_, ?_⟩
      · refine ⟨rfl, ?_⟩
        simp [sgN, sgsT, sgOk, nameV, momV, isB, hz1, hz2]
        first | done | (split <;> omega) | omega
      · exact in_crew kz1 kz2 (by simp)
    · walk_at "qq"
      refine iteN (by first | rfl | decide +kernel) ?_
      walk_at "qq"
      refine iteN (by first | rfl | decide +kernel) ?_
      walk_at "qq"
      refine iteN (by first | rfl | decide +kernel) ?_
      walk_at "qq"
      refine iteN (by first | rfl | decide +kernel) ?_
      walk_at "qq"
      refine iteN (by first | rfl | decide +kernel) ?_
      walk_at "qq"
      refine retP_of k (by assumption) (PenAt.more (n := n + 1 + 1 + 1 + 3 + 3) (by walk_at "pen") (by omega)) ⟨_, 6, _, rfl, by decide, hk, by assumption, ?_, ?_⟩
      · refine ⟨rfl, ?_⟩
        simp [sgN, sgsT, sgOk, nameV, momV, isB, hz1, hz2]
        first | done | (split <;> omega) | omega
      · exact in_crew kz1 kz2 (by simp)
    · walk_at "qq"
      refine iteN (by first | rfl | decide +kernel) ?_
      walk_at "qq"
      refine iteN (by first | rfl | decide +kernel) ?_
      walk_at "qq"
      refine iteN (by first | rfl | decide +kernel) ?_
      walk_at "qq"
      refine iteN (by first | rfl | decide +kernel) ?_
      walk_at "qq"
      refine iteN (by first | rfl | decide +kernel) ?_
      walk_at "qq"
      refine retP_of k (by assumption) (PenAt.more (n := n + 1 + 1 + 1 + 3 + 3) (by walk_at "pen") (by omega)) ⟨_, 7, _, rfl, by decide, hk, by assumption, ?_, ?_⟩
      · refine ⟨rfl, ?_⟩
        simp [sgN, sgsT, sgOk, nameV, momV, isB, hz1, hz2]
        first | done | (split <;> omega) | omega
      · exact in_crew kz1 kz2 (by simp)
    · walk_at "qq"
      refine iteN (by first | rfl | decide +kernel) ?_
      walk_at "qq"
      refine iteN (by first | rfl | decide +kernel) ?_
      walk_at "qq"
      refine iteN (by first | rfl | decide +kernel) ?_
      walk_at "qq"
      refine iteN (by first | rfl | decide +kernel) ?_
      walk_at "qq"
      refine iteN (by first | rfl | decide +kernel) ?_
      walk_at "qq"
      refine retP_of k (by assumption) (PenAt.more (n := n + 1 + 1 + 1 + 3 + 3) (by walk_at "pen") (by omega)) ⟨_, 8, _, rfl, by decide, hk, by assumption, ?_, ?_⟩
      · refine ⟨rfl, ?_⟩
        simp [sgN, sgsT, sgOk, nameV, momV, isB, hz1, hz2]
        first | done | (split <;> omega) | omega
      · exact in_crew kz1 kz2 (by simp)
    · walk_at "qq"
      refine iteN (by first | rfl | decide +kernel) ?_
      walk_at "qq"
      refine iteN (by first | rfl | decide +kernel) ?_
      walk_at "qq"
      refine iteN (by first | rfl | decide +kernel) ?_
      walk_at "qq"
      refine iteN (by first | rfl | decide +kernel) ?_
      walk_at "qq"
      refine iteN (by first | rfl | decide +kernel) ?_
      walk_at "qq"
      refine retP_of k (by assumption) (PenAt.more (n := n + 1 + 1 + 1 + 3 + 3) (by walk_at "pen") (by omega)) ⟨_, 9, _, rfl, by decide, hk, by assumption, ?_, ?_⟩
      · refine ⟨rfl, ?_⟩
        simp [sgN, sgsT, sgOk, nameV, momV, isB, hz1, hz2]
        first | done | (split <;> omega) | omega
      · exact in_crew kz1 kz2 (by simp)
end
section
variable {P : Program} {w : World} {K : PySem.W.Frag} {mg : Str → Option Value} {base : Heap} {CL : Nat → Addr} {Cn Cm Cs : Addr}
abbrev nMade : List Str := ["_law_row", "_law_kind"]
theorem scMade : FnScope nMade ["_law_row"] (defScope sMade) := ⟨rfl, rfl, rfl, by decide +kernel, rfl, by decide +kernel, by decide +kernel⟩
theorem ok_made {f : Addr} {fd : FuncData} (F : FnP K "_law_made" "_law_made" sMade [] f fd) (T : Bi mg) (MBegun : MkD P w K mg base (L2.CX P w) 4 "Begun" (CL 0) [] (spRowI K (CL 0) Cn Cm Cs "begun" [] (sgN 0) (flN 0))) (MSetBy : MkD P w K mg base (L2.CX P w) 4 "SetBy" (CL 1) [] (spRowI K (CL 1) Cn Cm Cs "setby" [] (sgN 1) (flN 1))) (MFound : MkD P w K mg base (L2.CX P w) 4 "Found" (CL 2) [] (spRowI K (CL 2) Cn Cm Cs "found" [] (sgN 2) (flN 2))) (MTrusted : MkD P w K mg base (L2.CX P w) 4 "Trusted" (CL 3) [] (spRowI K (CL 3) Cn Cm Cs "trusted" [] (sgN 3) (flN 3))) (MPassed : MkD P w K mg base (L2.CX P w) 4 "Passed" (CL 4) [] (spRowI K (CL 4) Cn Cm Cs "passed" [] (sgN 4) (flN 4))) (MFailed : MkD P w K mg base (L2.CX P w) 4 "Failed" (CL 5) [] (spRowI K (CL 5) Cn Cm Cs "failed" [] (sgN 5) (flN 5))) (MAgreed : MkD P w K mg base (L2.CX P w) 5 "Agreed" (CL 6) [] (spRowI K (CL 6) Cn Cm Cs "agreed" [] (sgN 6) (flN 6))) (MDiffered : MkD P w K mg base (L2.CX P w) 5 "Differed" (CL 7) [] (spRowI K (CL 7) Cn Cm Cs "differed" [] (sgN 7) (flN 7))) (MServed : MkD P w K mg base (L2.CX P w) 5 "Served" (CL 8) [] (spRowI K (CL 8) Cn Cm Cs "served" [] (sgN 8) (flN 8))) (MBacked : MkD P w K mg base (L2.CX P w) 5 "Backed" (CL 9) [] (spRowI K (CL 9) Cn Cm Cs "backed" [] (sgN 9) (flN 9))) : FnOk P w K mg base (L2.CX P w) 7 f fd ["_law_row"] (spMade K CL Cn Cm Cs) := by
  refine fnP_okX F scMade (fun vs H Q E h => ?_) (fun cdv A outer s H vs Q E hr h => ?_)
  · obtain ⟨G, r, i, as, rfl, _⟩ := h
    rfl
  · obtain ⟨G, r, i, as, rfl, hi, sG, hs, hl, kd, sz, bad, good⟩ := h
    have hu64 := hr.units
    refine ⟨_, (pss_cons (ps_set (i := 1) scMade.nd rfl (Or.inl rfl) (pe_ix q_ix (pv 0) pe_int (fun _ _ => rfl)))
        (pss_cons (ps_if (pt_cmpR (q_eq hu64) (pv 1) pe_str (nomark _)) (pss_one (ps_ret (pe_makeD MBegun hr passD (pa_cons (pe_ix q_ix (pv 0) pe_int (fun _ _ => rfl)) (pa_cons (pe_ix q_ix (pv 0) pe_int (fun _ _ => rfl)) pa_nil))))) pss_nil)
        (pss_cons (ps_if (pt_cmpR (q_eq hu64) (pv 1) pe_str (nomark _)) (pss_one (ps_ret (pe_makeD MSetBy hr passD (pa_cons (pe_ix q_ix (pv 0) pe_int (fun _ _ => rfl)) (pa_cons (pe_ix q_ix (pv 0) pe_int (fun _ _ => rfl)) (pa_cons (pe_ix q_ix (pv 0) pe_int (fun _ _ => rfl)) pa_nil)))))) pss_nil)
        (pss_cons (ps_if (pt_cmpR (q_eq hu64) (pv 1) pe_str (nomark _)) (pss_one (ps_ret (pe_makeD MFound hr passD (pa_cons (pe_ix q_ix (pv 0) pe_int (fun _ _ => rfl)) (pa_cons (pe_ix q_ix (pv 0) pe_int (fun _ _ => rfl)) (pa_cons (pe_ix q_ix (pv 0) pe_int (fun _ _ => rfl)) pa_nil)))))) pss_nil)
        (pss_cons (ps_if (pt_cmpR (q_eq hu64) (pv 1) pe_str (nomark _)) (pss_one (ps_ret (pe_makeD MTrusted hr passD (pa_cons (pe_ix q_ix (pv 0) pe_int (fun _ _ => rfl)) pa_nil)))) pss_nil)
        (pss_cons (ps_if (pt_cmpR (q_eq hu64) (pv 1) pe_str (nomark _)) (pss_one (ps_ret (pe_makeD MPassed hr passD (pa_cons (pe_ix q_ix (pv 0) pe_int (fun _ _ => rfl)) (pa_cons (pe_ix q_ix (pv 0) pe_int (fun _ _ => rfl)) (pa_cons (pe_ix q_ix (pv 0) pe_int (fun _ _ => rfl)) pa_nil)))))) pss_nil)
        (pss_cons (ps_if (pt_cmpR (q_eq hu64) (pv 1) pe_str (nomark _)) (pss_one (ps_ret (pe_makeD MFailed hr passD (pa_cons (pe_ix q_ix (pv 0) pe_int (fun _ _ => rfl)) (pa_cons (pe_ix q_ix (pv 0) pe_int (fun _ _ => rfl)) (pa_cons (pe_ix q_ix (pv 0) pe_int (fun _ _ => rfl)) pa_nil)))))) pss_nil)
        (pss_cons (ps_if (pt_cmpR (q_eq hu64) (pv 1) pe_str (nomark _)) (pss_one (ps_ret (pe_makeD MAgreed hr passD (pa_cons (pe_ix q_ix (pv 0) pe_int (fun _ _ => rfl)) (pa_cons (pe_ix q_ix (pv 0) pe_int (fun _ _ => rfl)) (pa_cons (pe_ix q_ix (pv 0) pe_int (fun _ _ => rfl)) (pa_cons (pe_ix q_ix (pv 0) pe_int (fun _ _ => rfl)) pa_nil))))))) pss_nil)
        (pss_cons (ps_if (pt_cmpR (q_eq hu64) (pv 1) pe_str (nomark _)) (pss_one (ps_ret (pe_makeD MDiffered hr passD (pa_cons (pe_ix q_ix (pv 0) pe_int (fun _ _ => rfl)) (pa_cons (pe_ix q_ix (pv 0) pe_int (fun _ _ => rfl)) (pa_cons (pe_ix q_ix (pv 0) pe_int (fun _ _ => rfl)) (pa_cons (pe_ix q_ix (pv 0) pe_int (fun _ _ => rfl)) pa_nil))))))) pss_nil)
        (pss_cons (ps_if (pt_cmpR (q_eq hu64) (pv 1) pe_str (nomark _)) (pss_one (ps_ret (pe_makeD MServed hr passD (pa_cons (pe_ix q_ix (pv 0) pe_int (fun _ _ => rfl)) (pa_cons (pe_ix q_ix (pv 0) pe_int (fun _ _ => rfl)) (pa_cons (pe_ix q_ix (pv 0) pe_int (fun _ _ => rfl)) (pa_cons (pe_ix q_ix (pv 0) pe_int (fun _ _ => rfl)) pa_nil))))))) pss_nil)
        (pss_one (ps_ret (pe_makeD MBacked hr passD (pa_cons (pe_ix q_ix (pv 0) pe_int (fun _ _ => rfl)) (pa_cons (pe_ix q_ix (pv 0) pe_int (fun _ _ => rfl)) (pa_cons (pe_ix q_ix (pv 0) pe_int (fun _ _ => rfl)) (pa_cons (pe_ix q_ix (pv 0) pe_int (fun _ _ => rfl)) pa_nil))))))))))))))))), ?_⟩
    have w0 := wd_pure sG
    replace hs := hs.of w0
    have fin : ∀ i, i < 10 → ∀ as : List V, as.length = (sgN i).length → (∀ v ∈ as, ∃ t, Kd K G v t) → (∀ s, V.str s ∈ as → s.length ≤ 1000000) → (∀ s v, rowBad (sgN i) as = some (s, v) → RetX G H (sgErr Cn Cm Cs s).1 (sgErr Cn Cm Cs s).2 v E) →
        (rowBad (sgN i) as = none → Ret G H (fun v G' => ∃ a, v = .ref a ∧ RowAt (CL i) G' a (kindN i) (sgN i) (flN i) as) Q) → MakeGo (CL i) (spRowI K (CL i) Cn Cm Cs (kindN i) [] (sgN i) (flN i)) as E H Q := fun i hi as hl kd sz bad good =>
      u_rowI w0 hl kd sz (fun cls f v hf d G' H' w' s' t' hd => by
        rw [fault_bad] at hf
        cases hb : rowBad (sgN i) as with
        | none => rw [hb] at hf; cases hf
        | some q =>
          rw [hb] at hf
          cases hf
          exact retX_of (bad q.1 q.2 hb) w' hd) fun hf a G' H' w' s' t' ha => by
        rw [fault_bad] at hf
        cases hb : rowBad (sgN i) as with
        | none => exact ret_of (good hb) w' ⟨a, rfl, ha⟩
        | some q => rw [hb] at hf; cases hf
    rcases (by omega : i = 0 ∨ i = 1 ∨ i = 2 ∨ i = 3 ∨ i = 4 ∨ i = 5 ∨ i = 6 ∨ i = 7 ∨ i = 8 ∨ i = 9) with rfl | rfl | rfl | rfl | rfl | rfl | rfl | rfl | rfl | rfl
    · obtain ⟨v1, v2, rfl⟩ := len_2 hl
      walk_at "qq"
      refine iteY (by first | rfl | decide +kernel) ?_
      walk_at "qq"
      exact fin 0 (by decide) [v1, v2] rfl kd sz bad good
    · obtain ⟨v1, v2, v3, rfl⟩ := len_3 hl
      walk_at "qq"
      refine iteN (by first | rfl | decide +kernel) ?_
      walk_at "qq"
      refine iteY (by first | rfl | decide +kernel) ?_
      walk_at "qq"
      exact fin 1 (by decide) [v1, v2, v3] rfl kd sz bad good
    · obtain ⟨v1, v2, v3, rfl⟩ := len_3 hl
      walk_at "qq"
      refine iteN (by first | rfl | decide +kernel) ?_
      walk_at "qq"
      refine iteN (by first | rfl | decide +kernel) ?_
      walk_at "qq"
      refine iteY (by first | rfl | decide +kernel) ?_
      walk_at "qq"
      exact fin 2 (by decide) [v1, v2, v3] rfl kd sz bad good
    · obtain ⟨v1, rfl⟩ := len_1 hl
      walk_at "qq"
      refine iteN (by first | rfl | decide +kernel) ?_
      walk_at "qq"
      refine iteN (by first | rfl | decide +kernel) ?_
      walk_at "qq"
      refine iteN (by first | rfl | decide +kernel) ?_
      walk_at "qq"
      refine iteY (by first | rfl | decide +kernel) ?_
      walk_at "qq"
      exact fin 3 (by decide) [v1] rfl kd sz bad good
    · obtain ⟨v1, v2, v3, rfl⟩ := len_3 hl
      walk_at "qq"
      refine iteN (by first | rfl | decide +kernel) ?_
      walk_at "qq"
      refine iteN (by first | rfl | decide +kernel) ?_
      walk_at "qq"
      refine iteN (by first | rfl | decide +kernel) ?_
      walk_at "qq"
      refine iteN (by first | rfl | decide +kernel) ?_
      walk_at "qq"
      refine iteY (by first | rfl | decide +kernel) ?_
      walk_at "qq"
      exact fin 4 (by decide) [v1, v2, v3] rfl kd sz bad good
    · obtain ⟨v1, v2, v3, rfl⟩ := len_3 hl
      walk_at "qq"
      refine iteN (by first | rfl | decide +kernel) ?_
      walk_at "qq"
      refine iteN (by first | rfl | decide +kernel) ?_
      walk_at "qq"
      refine iteN (by first | rfl | decide +kernel) ?_
      walk_at "qq"
      refine iteN (by first | rfl | decide +kernel) ?_
      walk_at "qq"
      refine iteN (by first | rfl | decide +kernel) ?_
      walk_at "qq"
      refine iteY (by first | rfl | decide +kernel) ?_
      walk_at "qq"
      exact fin 5 (by decide) [v1, v2, v3] rfl kd sz bad good
    · obtain ⟨v1, v2, v3, v4, rfl⟩ := len_4 hl
      walk_at "qq"
      refine iteN (by first | rfl | decide +kernel) ?_
      walk_at "qq"
      refine iteN (by first | rfl | decide +kernel) ?_
      walk_at "qq"
      refine iteN (by first | rfl | decide +kernel) ?_
      walk_at "qq"
      refine iteN (by first | rfl | decide +kernel) ?_
      walk_at "qq"
      refine iteN (by first | rfl | decide +kernel) ?_
      walk_at "qq"
      refine iteN (by first | rfl | decide +kernel) ?_
      walk_at "qq"
      refine iteY (by first | rfl | decide +kernel) ?_
      walk_at "qq"
      exact fin 6 (by decide) [v1, v2, v3, v4] rfl kd sz bad good
    · obtain ⟨v1, v2, v3, v4, rfl⟩ := len_4 hl
      walk_at "qq"
      refine iteN (by first | rfl | decide +kernel) ?_
      walk_at "qq"
      refine iteN (by first | rfl | decide +kernel) ?_
      walk_at "qq"
      refine iteN (by first | rfl | decide +kernel) ?_
      walk_at "qq"
      refine iteN (by first | rfl | decide +kernel) ?_
      walk_at "qq"
      refine iteN (by first | rfl | decide +kernel) ?_
      walk_at "qq"
      refine iteN (by first | rfl | decide +kernel) ?_
      walk_at "qq"
      refine iteN (by first | rfl | decide +kernel) ?_
      walk_at "qq"
      refine iteY (by first | rfl | decide +kernel) ?_
      walk_at "qq"
      exact fin 7 (by decide) [v1, v2, v3, v4] rfl kd sz bad good
    · obtain ⟨v1, v2, v3, v4, rfl⟩ := len_4 hl
      walk_at "qq"
      refine iteN (by first | rfl | decide +kernel) ?_
      walk_at "qq"
      refine iteN (by first | rfl | decide +kernel) ?_
      walk_at "qq"
      refine iteN (by first | rfl | decide +kernel) ?_
      walk_at "qq"
      refine iteN (by first | rfl | decide +kernel) ?_
      walk_at "qq"
      refine iteN (by first | rfl | decide +kernel) ?_
      walk_at "qq"
      refine iteN (by first | rfl | decide +kernel) ?_
      walk_at "qq"
      refine iteN (by first | rfl | decide +kernel) ?_
      walk_at "qq"
      refine iteN (by first | rfl | decide +kernel) ?_
      walk_at "qq"
      refine iteY (by first | rfl | decide +kernel) ?_
      walk_at "qq"
      exact fin 8 (by decide) [v1, v2, v3, v4] rfl kd sz bad good
    · obtain ⟨v1, v2, v3, v4, rfl⟩ := len_4 hl
      walk_at "qq"
      refine iteN (by first | rfl | decide +kernel) ?_
      walk_at "qq"
      refine iteN (by first | rfl | decide +kernel) ?_
      walk_at "qq"
      refine iteN (by first | rfl | decide +kernel) ?_
      walk_at "qq"
      refine iteN (by first | rfl | decide +kernel) ?_
      walk_at "qq"
      refine iteN (by first | rfl | decide +kernel) ?_
      walk_at "qq"
      refine iteN (by first | rfl | decide +kernel) ?_
      walk_at "qq"
      refine iteN (by first | rfl | decide +kernel) ?_
      walk_at "qq"
      refine iteN (by first | rfl | decide +kernel) ?_
      walk_at "qq"
      refine iteN (by first | rfl | decide +kernel) ?_
      walk_at "qq"
      exact fin 9 (by decide) [v1, v2, v3, v4] rfl kd sz bad good
end
section
variable {P : Program} {w : World} {K : PySem.W.Frag} {mg : Str → Option Value} {base : Heap} {C Cn Cm : Addr}
abbrev nLvInit : List Str := ["self", "begun", "tools", "tool", "moment", "name"]
theorem scLvInit : FnScope nLvInit ["self", "begun"] (defScope sLvInit) := ⟨rfl, rfl, rfl, by decide +kernel, rfl, by decide +kernel, by decide +kernel⟩
theorem ok_lvInit {f : Addr} {fd : FuncData} (F : FnP K "__init__" "Lives.__init__" sLvInit [] f fd) (T : Bi mg) (S : LvC K C) (Dn : Df P w K mg base CX0 1 "is_name" [] (spIsName K)) (Dm2 : Df P w K mg base CX0 2 "is_moment" [] (spMoment K))
    (EN : ErD P w K mg base "BadName" Cn (spErr1 Cn "name")) (EM : ErD P w K mg base "BadMoment" Cm (spErr1 Cm "moment")) :
    FnOk P w K mg base (L2.CX P w) 3 f fd ["self", "begun"] (spLives K C Cn Cm) := by
  refine fnP_okX F scLvInit (fun vs H Q E h => ?_) (fun cdv A outer s H vs Q E hr h => ?_)
  · obtain ⟨G, x, dx, d, od, kvs, rows, rfl, _⟩ := h
    rfl
  · obtain ⟨G, x, dx, d, od, kvs, rows, rfl, sG, gx, hx, hd, hb, ro, nd, ln, out⟩ := h
    have hu64 := hr.units
    have hu : (A.deeper (envOfC "Lives.__init__" (defScope sLvInit) s.heap.objs.size f cdv)).units + 1 < cLine := by omega
    have cc := S.c
    have n1 := S.n1
    refine ⟨_, (pss_cons (ps_set (i := 2) scLvInit.nd rfl (Or.inl rfl) (pe_callB cr_sortT (by rfl) T.sorted (by decide +kernel) (pa_cons (pe_lc (own := [("name", 5)]) (g := gName 5) (tt := tYes) rfl scLvInit.nd (pi_keys (pv 1)) (blkOk_by (own := [("name", 5)]) (N := nLvInit) (sc := defScope sLvInit) (by decide +kernel)) (fun _ _ _ _ _ => (pg_name (i := 5) scLvInit.nd rfl (by first | exact Or.inl rfl | exact Or.inr rfl))) (fun _ _ _ _ _ => pts_nil) (fun _ _ _ _ _ => (pe_callTy q_strS (by rfl) T.str (by decide +kernel) (pa_cons (pv 5) pa_nil)))) pa_nil)))
        (pss_cons (ps_for (passes_of rfl) rfl (pi_list (pv 2)) (pg_name (i := 3) scLvInit.nd rfl (Or.inl rfl)) (pss_cons (ps_if (pt_not (pt_val (pe_callD Dn hr pass0 (pa_cons (pv 3) pa_nil)))) (pss_one (ps_raiseD rfl takesD EN hr (pa_cons (pv 3) pa_nil))) pss_nil)
        (pss_one (ps_for (passes_of rfl) rfl (pi_seq (pe_dget hu (pv 1) (pv 3) (fun _ _ => rfl))) (pg_name (i := 4) scLvInit.nd rfl (Or.inl rfl)) (pss_one (ps_if (pt_not (pt_val (pe_callD Dm2 hr pass0 (pa_cons (pv 4) (pa_cons pe_int pa_nil))))) (pss_one (ps_raiseD rfl takesD EM hr (pa_cons (pv 4) pa_nil))) pss_nil))))))
        (pss_one (ps_fld (pv 0) (pe_frzV (pe_dc (own := [("tool", 3)]) (g := gName 3) (tt := tYes) rfl scLvInit.nd (pi_list (pv 2)) (blkOk_by (own := [("tool", 3)]) (N := nLvInit) (sc := defScope sLvInit) (by decide +kernel)) (fun _ _ _ _ _ => (pg_name (i := 3) scLvInit.nd rfl (by first | exact Or.inl rfl | exact Or.inr rfl))) (fun _ _ _ _ _ => pts_nil) (fun _ _ _ _ _ => (pv 3)) (fun _ _ _ _ _ => (pe_tup (pa_cons pe_int (pa_starK (K := K) rfl (pe_callB (show CallR _ (.builtin "sorted") (rSortedSet w) from cr_sortedSet rfl) (by rfl) T.sorted (by decide +kernel) (pa_cons (pe_callTy (show CallR _ (.type "set") (rSetL K w) from cr_setL rfl) (by rfl) T.set (by decide +kernel) (pa_cons (pe_lc (own := [("moment", 4)]) (g := gName 4) (tt := tYes) rfl scLvInit.nd (pi_seqK (K := K) rfl (pe_dget hu (pv 1) (pv 3) (fun _ _ => rfl))) (blkOk_by (own := [("moment", 4)]) (by kernel_rfl)) (fun _ _ _ _ _ => (pg_name (i := 4) scLvInit.nd rfl (by first | exact Or.inl rfl | exact Or.inr rfl))) (fun _ _ _ _ _ => pts_nil) (fun _ _ _ _ _ => (pe_callTy q_int (by rfl) T.int (by decide +kernel) (pa_cons (pv 4) pa_nil)))) pa_nil)) pa_nil)) pa_nil)))))) rfl)))), ?_⟩
    have w0 : Wd ⟨H, G, [x], []⟩ G H [x] := wd_start sG (fun b h => by rw [List.mem_singleton.mp h]; exact ⟨gx, _, hx, rfl⟩) (by simp)
    have hd0 := sG.1 _ _ hd
    walk_at "qq"
    refine r_iKeysR hd0 ?_
    refine lc_go w0 walk_keys (fun i acc Gy Hy => acc = ((rows.take i).map (·.1)).map V.str ∧ Hy x = some (.ins C dx [])) (fun Dd H' _ s' _ => ⟨rfl, s' _ _ hx⟩) (fun i acc Gy Hy wy sy r => wy.le _ _ (sy _ _ hd)) ?_ ?_
    · rintro Dd j acc G1 H1 x' H2 hj hl w1 s1 hD nm ⟨rfl, hx1⟩ ⟨rfl, ky, va, hkv, rfl⟩
      obtain ⟨ks, xs, rfl, hrow⟩ := hb.get hkv
      have hne0 : Dd ≠ x := nm x (by simp)
      have hj2 : j < kvs.length := hj
      show gName _ (V.str ks) _ _ _
      walk_at "qq"
      rename_i H3 w3 b3
      refine ⟨?_, b3 _ _ hne0.symm hx1⟩
      rw [take_snoc hrow, List.map_append, List.map_append]
      rfl
    · rintro l1 acc G1 G2 H2 hl w2 s2 _ h2 ⟨rfl, hx2⟩
      have er : rows.take kvs.length = rows := List.take_of_length_le (Nat.le_of_eq hb.len.symm)
      rw [er] at h2
      walk_at "qq"
      refine r_sortT (SqL.of (w2.le _ _ h2)) fun ts hperm hpw => ?_
      obtain ⟨bad, good⟩ := out ts hperm hpw
      walk_at "qq"
      rename_i l3 G3 H3 n3 w3 s3 h3 t3
      have S3 := s2.trans s3
      have tlen : ts.length ≤ 1000 := by rw [hperm.length_eq, List.length_map, ← hb.len]; exact ln
      have tnd : ts.Nodup := by
        have z : ((rows.map (·.1)).map (Sum.inr : Str → Key)).Nodup := by rw [← hb.keysR]; exact nd
        exact hperm.nodup_iff.mpr ((List.pairwise_map.mp z).imp fun h e => h (by rw [e]))
      have tmem : ∀ t ∈ ts, ∃ ra xs, rowOf rows t = some xs ∧ valV kvs (.inr t) = some (.ref ra) ∧ SqA K G ra xs ∧ xs.length ≤ 60 ∧ t.length ≤ 1000000 ∧ ∀ v ∈ xs, ∃ dv, Odd K G v dv := fun t ht => by
        have m := hperm.mem_iff.mp ht
        obtain ⟨xs, hx⟩ := rowOf_key m
        have mr := rowOf_mem hx
        obtain ⟨l1, l2⟩ := ro.len _ mr
        rcases hb.val t with ⟨e, _⟩ | ⟨ra, ys, e1, e2, e3⟩
        · rw [e] at hx; cases hx
        · rw [e1] at hx
          cases hx
          exact ⟨ra, xs, e1, e2, e3, l2, Nat.le_trans l1 (by decide), ro.odd _ mr⟩
      have outE : ∀ (cls : Addr) (f : Str) (v : V), faultL Cn Cm rows ts = some (cls, f, v) → ∀ (dd : Addr) (G' H' : Hp), Wd ⟨H, G, [x], []⟩ G' H' [x] → G' dd = some (.xd [(f, v)]) → E (.ref cls) (some dd) H' := fun cls f v hf dd G' H' w' hdd => by
        obtain ⟨_, ⟨o, ho⟩, _⟩ := w'.mu x (by simp)
        exact bad cls f v hf G' H' dd (fun b o hn h => w'.kp b o (by simpa using hn) h) ⟨o, ho, w'.mt x (by simp) o ho⟩ w'.gh w'.gr w'.fr hdd
      have hx3 : H3 x = some (.ins C dx []) := by walk_at "at"
      refine for_go (walk_list (xs := ts.map V.str)) (fun i σ Hx => ∃ (Gi : Hp) (y3 y4 y5 : Option V), σ = [some (.ref x), some (.ref d), some (.ref l3), y3, y4, y5] ∧ Wd ⟨H, G, [x], []⟩ Gi Hx [x] ∧ Same G3 Gi ∧ Hx x = some (.ins C dx []) ∧ faultL Cn Cm rows ts = faultL Cn Cm rows (ts.drop i))
        ⟨G3, _, _, _, rfl, w3, Same.refl _, hx3, rfl⟩ (fun i σ Hx _ ⟨Gi, _, _, _, _, wi, si, _⟩ => wd_sqL wi (SqL.of (si _ _ h3))) ?_ ?_
      · rintro i x' σ Ha Hb hi ⟨Gi, y3, y4, y5, rfl, wi, si, hxi, hfi⟩ ⟨rfl, hx'⟩
        obtain ⟨t, ht, rfl⟩ : ∃ t, ts[i]? = some t ∧ x' = .str t := by
          rw [List.getElem?_map] at hx'
          cases e : ts[i]? with
          | none => rw [e] at hx'; cases hx'
          | some t => rw [e] at hx'; exact ⟨t, rfl, (Option.some.inj hx').symm⟩
        have dr : ts.drop i = t :: ts.drop (i + 1) := by
          have lt : i < ts.length := (List.getElem?_eq_some_iff.mp ht).1
          rw [List.drop_eq_getElem_cons lt, (List.getElem?_eq_some_iff.mp ht).2]
        rw [dr] at hfi
        obtain ⟨ra, xs, hrow, hval, hsq, lx, lt, oddx⟩ := tmem t (List.mem_of_getElem? ht)
        have zl : ∀ z, V.str t = .str z → z.length ≤ 1000000 := fun z e => by cases e; exact lt
        have Si := S3.trans si
        walk_at "qq"
        refine ite_nb (fun c1 => ?_) (fun c1 => ?_)
        · walk_at "qq"
          exact u_raise1 (by assumption) fun dd G' H' w' s' t' hdd => outE _ _ _ (hfi.trans (faultL_n c1)) dd G' H' w' hdd
        · walk_at "qq"
          rename_i G4 H4 w4 s4 t4
          have hd4 : H4 d = some (.frz od (.dK kvs)) := w4.le _ _ (s4 _ _ (Si _ _ hd))
          refine ⟨d, _, rfl, DGet.frz (k := .inr t) hd4 hval, ?_⟩
          refine seq_go w4 (hsq.same (Si.trans s4)) fun J Gd wk hGd => ?_
          walk_at "qq"
          refine for_go wk (fun j σ Hx => ∃ (Gj : Hp) (z4 z5 : Option V), σ = [some (.ref x), some (.ref d), some (.ref l3), some (.str t), z4, z5] ∧ Wd ⟨H, G, [x], []⟩ Gj Hx [x] ∧ Same G4 Gj ∧ Hx x = some (.ins C dx []) ∧ ∀ v ∈ xs.take j, momV v 1 = true)
            ⟨G4, _, _, rfl, w4, Same.refl _, by walk_at "at", fun v h => by simp at h⟩ (fun j σ Hx _ ⟨Gj, _, _, _, wj, sj, _⟩ => hGd _ _ _ _ wj sj) ?_ ?_
          · rintro j v σ Hc Hd hj ⟨Gj, z4, z5, rfl, wj, sj, hxj, hall⟩ ⟨rfl, hv⟩
            obtain ⟨dv, ov⟩ := oddx v (List.mem_of_getElem? hv)
            obtain ⟨tv, kv⟩ := ov.kd
            have kv := kv.same (Si.trans (s4.trans sj))
            walk_at "qq"
            refine ite_nb (fun c2 => ?_) (fun c2 => ?_)
            · walk_at "qq"
              refine u_raise1 (by assumption) fun dd G' H' w' s' t' hdd => outE _ _ _ (hfi.trans (faultL_m c1 hrow (find_at hv (fun u hu => by simp [hall u hu]) (by simp [c2])))) dd G' H' w' hdd
            · walk_at "qq"
              rename_i G5 H5 w5 s5 t5
              refine ⟨G5, _, _, rfl, w5, sj.trans s5, t5 _ _ hxj, fun u hu => ?_⟩
              rw [take_snoc hv] at hu
              rcases List.mem_append.mp hu with hu | hu
              · exact hall u hu
              · rw [List.mem_singleton.mp hu]; exact c2
          · rintro σ Hc ⟨Gj, z4, z5, rfl, wj, sj, hxj, hall⟩
            rw [List.take_of_length_le (Nat.le_refl _)] at hall
            exact ⟨Gj, _, _, _, rfl, wj, si.trans (s4.trans sj), hxj, hfi.trans (faultL_go c1 hrow hall)⟩
      · rintro σ Hc ⟨G4, y3, y4, y5, rfl, w4, s4, hx4, hf4⟩
        have f0 : faultL Cn Cm rows ts = none := by rw [hf4, List.length_map, List.drop_length]; rfl
        have fn := faultL_none f0
        have h4 := s4 _ _ h3
        have S4 := S3.trans s4
        walk_at "qq"
        refine dc_go w4 (walk_list (xs := ts.map V.str)) (fun i kv2 Gi Hi => ∃ bt, LvAt Gi kv2 bt ∧ bt.map (·.1) = ts.take i ∧ (∀ p ∈ bt, Begs ((rowOf rows p.1).getD []) p.2) ∧ Hi x = some (.ins C dx [])) ?_ (fun i kv2 Gi Hi wi si _ => wd_sqL wi (SqL.of (si _ _ h4))) ?_ ?_
        · rintro Dd H5 w5 s5 nm
          exact ⟨[], .nil, rfl, (fun p hp => by cases hp), s5 _ _ hx4⟩
        · rintro Dd i kv2 G5 H5 x' H6 hi hl5 w5 s5 hD nm ⟨bt, lv, hk, hbg, hx5⟩ ⟨rfl, hx'⟩
          obtain ⟨t, ht, rfl⟩ : ∃ t, ts[i]? = some t ∧ x' = .str t := by
            rw [List.getElem?_map] at hx'
            cases e : ts[i]? with
            | none => rw [e] at hx'; cases hx'
            | some t => rw [e] at hx'; exact ⟨t, rfl, (Option.some.inj hx').symm⟩
          have mt := List.mem_of_getElem? ht
          obtain ⟨ra, xs, hrow, hval, hsq, lx, lt, oddx⟩ := tmem t mt
          obtain ⟨ht1, ht2⟩ := fn t mt
          rw [hrow] at ht2
          obtain ⟨ks, eks⟩ : ∃ ks : List Int, xs = ks.map V.int := by
            have each : ∀ l : List V, (∀ v ∈ l, momV v 1 = true) → ∃ ks : List Int, l = ks.map V.int := by
              intro l
              induction l with
              | nil => exact fun _ => ⟨[], rfl⟩
              | cons v l ih =>
                intro h
                obtain ⟨ks, e⟩ := ih fun u hu => h u (List.mem_cons_of_mem _ hu)
                have hv := h v List.mem_cons_self
                cases v with
                | int k => exact ⟨k :: ks, by rw [e]; rfl⟩
                | _ => cases hv
            exact each xs ht2
          have hne0 : Dd ≠ x := nm x (by simp)
          have hi2 : i < ts.length := by rw [List.length_map] at hi; exact hi
          have hi6 : i ≤ 1000000 := by omega
          have hd5 : H6 d = some (.frz od (.dK kvs)) := w5.le _ _ (s5 _ _ (S4 _ _ hd))
          walk_at "qq"
          refine ⟨d, _, rfl, DGet.frz (k := .inr t) hd5 hval, ?_⟩
          refine seq_go w5 (hsq.same (S4.trans s5)) fun J Gd wk hGd => ?_
          walk_at "qq"
          refine lc_go w5 wk (fun j acc Gy Hy => acc = (ks.take j).map V.int ∧ Hy x = some (.ins C dx []) ∧ Hy Dd = some (.dK kv2)) ?_ (fun j acc Gy Hy wy sy _ => hGd _ _ _ _ wy sy) ?_ ?_
          · rintro De H7 w7 s7 nm7
            exact ⟨rfl, s7 _ _ hx5, s7 _ _ hD⟩
          · rintro De j acc G7 H7 x'' H8 hj hl7 w7 s7 hDe nm7 ⟨rfl, hx7, hD7⟩ ⟨rfl, hx''⟩
            obtain ⟨k, hk7, rfl⟩ : ∃ k, ks[j]? = some k ∧ x'' = .int k := by
              rw [eks, List.getElem?_map] at hx''
              cases e : ks[j]? with
              | none => rw [e] at hx''; cases hx''
              | some t => rw [e] at hx''; exact ⟨t, rfl, (Option.some.inj hx'').symm⟩
            have hne1 : De ≠ x := nm7 x (by simp)
            have hne2 : De ≠ Dd := nm7 Dd (by simp)
            have hj6 : j ≤ 1000000 := by omega
            walk_at "qq"
            rename_i H9 w9 b9
            exact ⟨by rw [take_snoc hk7, List.map_append]; rfl, b9 _ _ hne1.symm hx7, b9 _ _ hne2.symm hD7⟩
          · rintro l7 acc G7 G8 H8 hl7 w8 s8 _ h8 ⟨rfl, hx8, hD8⟩
            have eall : ks.take xs.length = ks := List.take_of_length_le (by rw [eks]; simp)
            rw [eall] at h8
            have lks : ks.length ≤ 60 := by
              have := congrArg List.length eks
              rw [List.length_map] at this
              omega
            walk_at "qq"
            refine r_setOfL (SqL.of (w8.le _ _ h8)) (by omega) fun n hn sa hsa => ?_
            have w9 := wd_lay (o := SetO w sa (fun j => decide (j ∈ ks)) n) w8 hsa setO_nt
            have s9 : Same G8 (upd G8 sa (SetO w sa (fun j => decide (j ∈ ks)) n)) := same_upd (w8.g hsa)
            have t9 : Same H8 (upd H8 sa (SetO w sa (fun j => decide (j ∈ ks)) n)) := same_upd hsa
            have h9 : upd H8 sa (SetO w sa (fun j => decide (j ∈ ks)) n) sa = some (SetO w sa (fun j => decide (j ∈ ks)) n) := upd_same
            generalize upd G8 sa (SetO w sa (fun j => decide (j ∈ ks)) n) = G9 at *
            generalize upd H8 sa (SetO w sa (fun j => decide (j ∈ ks)) n) = H9 at *
            walk_at "qq"
            refine r_sortSet h9 (by omega) fun ms hms hmem _ => ?_
            have lms : ms.length ≤ 1000 := by
              have e : n ≤ 60 := Nat.le_trans hn lks
              omega
            refine r_lay w9 (Nat.zero_le _) (by intro ps z; cases z) fun l10 G10 H10 n10 w10 s10 h10 t10 => ?_
            walk_at "qq"
            rename_i l11 G11 H11 n11 w11 s11 h11 t11
            refine r_dcAdd w11 (s5.trans (s8.trans (s9.trans (s10.trans s11)))) (t11 _ _ (t10 _ _ (t9 _ _ hD8))) hl5 hi6 fun H12 w12 b12 => ?_
            have out11 : t ∉ bt.map (·.1) := by
              rw [hk]
              intro m
              obtain ⟨j, hj⟩ := List.getElem?_of_mem m
              have hj2 : j < i := by
                have := (List.getElem?_eq_some_iff.mp hj).1
                rw [List.length_take] at this
                omega
              rw [List.getElem?_take, if_pos hj2] at hj
              have e := (List.getElem?_inj (by omega) tnd).mp (hj.trans ht.symm)
              omega
            have S11 := s8.trans (s9.trans (s10.trans s11))
            have lv11 := lv.same S11
            refine ⟨bt ++ [(t, 0 :: ms)], ?_, ?_, ?_, b12 _ _ hne0.symm (t11 _ _ (t10 _ _ (t9 _ _ hx8)))⟩
            · rw [putK_new _ (lv11.out out11)]
              exact lv11.snoc (ns := 0 :: ms) (by rw [List.append_nil] at h11; exact h11)
            · rw [List.map_append, hk, take_snoc ht]
              rfl
            · intro p hp
              rcases List.mem_append.mp hp with hp | hp
              · exact hbg p hp
              · rw [List.mem_singleton.mp hp]
                refine ⟨ms, rfl, hms, fun k => ?_⟩
                rw [hmem k]
                show decide (k ∈ ks) = true ↔ V.int k ∈ (rowOf rows t).getD []
                rw [hrow, decide_eq_true_iff]
                show k ∈ ks ↔ V.int k ∈ xs
                rw [eks, List.mem_map]
                exact ⟨fun h => ⟨k, h, rfl⟩, fun ⟨j, h, e⟩ => by cases e; exact h⟩
        · rintro D kv2 G5 H5 hl5 w5 s5 hD5 hD0 nm5 ⟨bt, lv, hk, hbg, hx5⟩
          have nDx := nm5 x (by simp)
          refine r_frzD w5 hD0 hD5 fun od2 G6 H6 w6 s6 b6 h6 => ?_
          walk_at "qq"
          have hx6 := b6 _ _ nDx.symm hx5
          walk_at "qq"
          rename_i H7 w7 h7 b7
          refine good f0 G6 H7 D od2 kv2 bt hD0 (fun b o hn h => w7.kp b o (by simpa using hn) h) w7.gh w7.gr w7.fr h6 (lv.same s6) ⟨?_, hbg⟩ h7
          rw [hk]
          exact List.take_of_length_le (by simp)
abbrev nLvTools : List Str := ["self"]
theorem scLvTools : FnScope nLvTools ["self"] (defScope sLvTools) := ⟨rfl, rfl, rfl, by decide +kernel, rfl, by decide +kernel, by decide +kernel⟩
theorem ok_lvTools {f : Addr} {fd : FuncData} (F : FnP K "tools" "Lives.tools" sLvTools [] f fd) (T : Bi mg) (S : LvC K C) : FnOk P w K mg base CX0 1 f fd ["self"] (spTools C) := by
  refine fnP_ok F scLvTools (fun vs H Q E h => ?_) (fun cdv A outer s H vs Q E hr h => ?_)
  · obtain ⟨G, a, bt, rfl, _⟩ := h
    rfl
  · obtain ⟨G, a, bt, rfl, sG, hlv, k⟩ := h
    have hu64 := hr.units
    have cc := S.c
    have n1 := S.n1
    obtain ⟨dx, D, od, kvs, ha, hD, lv⟩ := hlv
    refine ⟨_, (pss_one (ps_ret (pe_callTy (cr_keysT rfl) (by rfl) T.tuple (by decide +kernel) (pa_cons (pe_fld (pv 0) rfl) pa_nil)))), ?_⟩
    have w0 := wd_pure sG
    walk_at "qq"
    refine r_keysT (.inr ⟨od, w0.le _ _ hD⟩) ?_
    rw [lv.keys]
    refine r_lay w0 (Nat.zero_le _) (by intro ps z; cases z) fun l1 G1 H1 n1 w1 s1 h1 t1 => ?_
    exact ret_of k w1 ⟨l1, rfl, h1⟩
end
section
variable {P : Program} {w : World} {K : PySem.W.Frag} {mg : Str → Option Value} {base : Heap} {C Ct Cl Cm : Addr}
abbrev nLvBeg : List Str := ["self", "tool"]
theorem scLvBeg : FnScope nLvBeg ["self", "tool"] (defScope sLvBeg) := ⟨rfl, rfl, rfl, by decide +kernel, rfl, by decide +kernel, by decide +kernel⟩
theorem ok_lvBeg {f : Addr} {fd : FuncData} (F : FnP K "beginnings" "Lives.beginnings" sLvBeg [] f fd) (T : Bi mg) (S : LvC K C) (ET : ErD P w K mg base "NoTool" Ct (spErr1 Ct "tool")) : FnOk P w K mg base (L2.CX P w) 3 f fd ["self", "tool"] (spBegin K C Ct) := by
  refine fnP_okX F scLvBeg (fun vs H Q E h => ?_) (fun cdv A outer s H vs Q E hr h => ?_)
  · obtain ⟨G, a, bt, x, t, rfl, _⟩ := h
    rfl
  · obtain ⟨G, a, bt, x, t, rfl, sG, hlv, hx, good, bad⟩ := h
    have hu64 := hr.units
    have hu1 : (A.deeper (envOfC "Lives.beginnings" (defScope sLvBeg) s.heap.objs.size f cdv)).units + 1 < cLine := by omega
    have hu := hu1
    have cc := S.c
    have n1 := S.n1
    obtain ⟨dx, D, od, kvs, ha, hD, lv⟩ := hlv
    refine ⟨_, (pss_cons (ps_if (PW.pt (pw_or (pt_not (pt_val (pe_callB call_isi (by rfl) T.isinstance (by decide +kernel) (pa_cons (pv 1) (pa_cons (pe_bltn (v := .ty "str") (by rfl) T.str (by decide +kernel) rfl) pa_nil))))) (pw_or1 (pt_cmpR (q_dNotIn hu1) (pv 1) (pe_fld (pv 0) rfl) (by rfl))))) (pss_one (ps_raiseD rfl takesD ET hr (pa_cons (pv 1) pa_nil))) pss_nil)
        (pss_one (ps_ret (pe_dget hu (pe_fld (pv 0) rfl) (pv 1) (fun _ _ => rfl))))), ?_⟩
    have w0 := wd_pure sG
    have hxt := same_ty sG.1 hx.ty
    have hxs := hx.str
    have hD0 := sG.1 _ _ hD
    walk_at "qq"
    cases x with
    | str s =>
      refine iteF ?_
      walk_at "qq"
      rcases lv.val s with ⟨e1, e2⟩ | ⟨ra, ns, e1, e2, e3⟩
      · refine r_dNinT (DGet.frz (k := .inr s) hD0 e2) ?_
        walk_at "qq"
        exact u_raise1 (by assumption) fun d G' H' w' s' t' hd => retX_of (bad e1) w' hd
      · refine r_dNinF (DGet.frz (k := .inr s) hD0 e2) ?_
        walk_at "qq"
        refine ⟨D, _, rfl, DGet.frz (k := .inr s) hD0 e2, ?_⟩
        exact ret_of (good ns e1) w0 ⟨ra, rfl, e3⟩
    | _ =>
      refine iteT ?_
      walk_at "qq"
      exact u_raise1 (by assumption) fun d G' H' w' s' t' hd => retX_of (bad rfl) w' hd
abbrev nLvHas : List Str := ["self", "x"]
theorem scLvHas : FnScope nLvHas ["self", "x"] (defScope sLvHas) := ⟨rfl, rfl, rfl, by decide +kernel, rfl, by decide +kernel, by decide +kernel⟩
theorem ok_lvHas {f : Addr} {fd : FuncData} (F : FnP K "__contains__" "Lives.__contains__" sLvHas [] f fd) (T : Bi mg) (S : LvC K C) (hPair : Gc mg "PAIR" (.int 2)) (D1 : Df P w K mg base CX0 1 "is_integer" [] (spIsInt K)) : FnOk P w K mg base CX0 2 f fd ["self", "x"] (spHas K C) := by
  refine fnP_ok F scLvHas (fun vs H Q E h => ?_) (fun cdv A outer s H vs Q E hr h => ?_)
  · obtain ⟨G, a, bt, x, q, rfl, _⟩ := h
    rfl
  · obtain ⟨G, a, bt, x, q, rfl, sG, hlv, hx, k⟩ := h
    have hu64 := hr.units
    have hu1 : (A.deeper (envOfC "Lives.__contains__" (defScope sLvHas) s.heap.objs.size f cdv)).units + 1 < cLine := by omega
    have hu := hu1
    have cc := S.c
    have n1 := S.n1
    obtain ⟨dx, D, od, kvs, ha, hD, lv⟩ := hlv
    refine ⟨_, (pss_cons (ps_if (PW.pt (pw_or (pt_not (pt_val (pe_callB call_isi (by rfl) T.isinstance (by decide +kernel) (pa_cons (pv 1) (pa_cons (pe_bltn (v := .ty "tuple") (by rfl) T.tuple (by decide +kernel) rfl) pa_nil))))) (pw_or (pt_cmpR (q_ne hu64) (pe_callB q_len (by rfl) T.len (by decide +kernel) (pa_cons (pv 1) pa_nil)) (pe_gc hPair) (nomark _)) (pw_or (pt_not (pt_val (pe_callB call_isi (by rfl) T.isinstance (by decide +kernel) (pa_cons (pe_ix q_ix (pv 1) pe_int (fun _ _ => rfl)) (pa_cons (pe_bltn (v := .ty "str") (by rfl) T.str (by decide +kernel) rfl) pa_nil))))) (pw_or1 (pt_not (pt_val (pe_callD D1 hr pass0 (pa_cons (pe_ix q_ix (pv 1) pe_int (fun _ _ => rfl)) pa_nil))))))))) (pss_one (ps_ret pe_bl)) pss_nil)
        (pss_one (ps_ret (pe_and (pe_cmpR (q_dIn hu1) (pe_ix q_ix (pv 1) pe_int (fun _ _ => rfl)) (pe_fld (pv 0) rfl) (by rfl)) (pe_one (pe_cmpR op_in_seq (pe_ix q_ix (pv 1) pe_int (fun _ _ => rfl)) (pe_dget hu (pe_fld (pv 0) rfl) (pe_ix q_ix (pv 1) pe_int (fun _ _ => rfl)) (fun _ _ => rfl)) (by rfl))))))), ?_⟩
    have w0 := wd_pure sG
    match q, hx with
    | none, hx =>
      obtain ⟨t, h1, h2⟩ := hx
      have h1 := same_ty sG.1 h1
      walk_at "qq"
      exact ret_of k w0 rfl
    | some ys, ⟨p, e, hp, hk⟩ =>
      subst e
      have hp0 := sG.1 _ _ hp
      have hpt := (kd_tup (K := K) hp0).ty
      walk_at "qq"
      match ys with
      | [] =>
        refine iteT ?_
        walk_at "qq"
        exact ret_of k w0 rfl
      | [y] =>
        refine iteT ?_
        walk_at "qq"
        exact ret_of k w0 (by simp [isLife])
      | y :: z :: u :: l =>
        have e : ¬ ((↑(y :: z :: u :: l).length : Int) = 2) := by simp only [List.length_cons]; omega
        refine iteT ?_
        walk_at "qq"
        exact ret_of k w0 (by simp [isLife])
      | [y, z] =>
        refine iteF ?_
        obtain ⟨ty, ky⟩ := hk y (by simp)
        obtain ⟨tz, kz⟩ := hk z (by simp)
        have kyt := same_ty sG.1 ky.ty
        have kys := ky.str
        walk_at "qq"
        cases y with
        | str s =>
          refine iteF ?_
          walk_at "qq"
          rename_i G1 H1 w1 s1 t1
          have hD1 := w1.le _ _ (s1 _ _ hD)
          cases z with
          | int i =>
            refine iteF ?_
            walk_at "qq"
            rcases lv.val s with ⟨e1, e2⟩ | ⟨ra, ns, e1, e2, e3⟩
            · refine r_dInF (DGet.frz (k := .inr s) hD1 e2) ?_
              walk_at "qq"
              exact ret_of k w1 (by simp [isLife, e1])
            · refine r_dInT (DGet.frz (k := .inr s) hD1 e2) ?_
              walk_at "qq"
              refine ⟨D, _, rfl, DGet.frz (k := .inr s) hD1 e2, ?_⟩
              refine r_inT (SqT.of (w1.le _ _ (s1 _ _ e3))) rfl flat_ints ?_
              rw [inV_ints]
              exact ret_of k w1 (by simp [isLife, e1])
          | _ =>
            refine iteT ?_
            walk_at "qq"
            exact ret_of k w1 (by simp [isLife])
        | _ =>
          refine iteT ?_
          walk_at "qq"
          exact ret_of k w0 (by simp [isLife])
abbrev nLvLast : List Str := ["self", "life", "tool", "beginning", "behind", "other"]
theorem scLvLast : FnScope nLvLast ["self", "life"] (defScope sLvLast) := ⟨rfl, rfl, rfl, by decide +kernel, rfl, by decide +kernel, by decide +kernel⟩
theorem ok_lvLast {f : Addr} {fd : FuncData} (F : FnP K "last_of" "Lives.last_of" sLvLast [] f fd) (T : Bi mg) (S : LvC K C) (N0 : Nm K mg) (DH : SpD P w K mg base CX0 2 C "__contains__" (spHas K C)) 
    (EL : ErD P w K mg base "NoLife" Cl (spErr1 Cl "value")) : FnOk P w K mg base (L2.CX P w) 5 f fd ["self", "life"] (spLastOf K C Cl) := by
  refine fnP_okX F scLvLast (fun vs H Q E h => ?_) (fun cdv A outer s H vs Q E hr h => ?_)
  · obtain ⟨G, a, bt, x, q, rfl, _⟩ := h
    rfl
  · obtain ⟨G, a, bt, x, q, rfl, sG, hlv, hx, hb, good, bad⟩ := h
    obtain ⟨dx, D, od, kvs, ha, hD, lv⟩ := id hlv
    have hu64 := hr.units
    have hu1 : (A.deeper (envOfC "Lives.last_of" (defScope sLvLast) s.heap.objs.size f cdv)).units + 1 < cLine := by omega
    have hu := hu1
    have cc := S.c
    have n1 := S.n1
    have passL0 : ∀ {X : Cx}, Passes CX0 X E0 := fun {X} => pass0
    refine ⟨_, (pss_cons (ps_if (pt_cmpR (q_ninD DH hr passL0) (pv 1) (pv 0) (by rfl)) (pss_one (ps_raiseD rfl takesD EL hr (pa_cons (pv 1) pa_nil))) pss_nil)
        (pss_cons (ps_asg (pv 1) (pg_tup rfl (pgs_cons (pg_name (i := 2) scLvLast.nd rfl (Or.inl rfl)) (pgs_cons (pg_name (i := 3) scLvLast.nd rfl (Or.inr rfl)) pgs_nil))))
        (pss_cons (ps_setLc (i := 4) (own := [("other", 5)]) (g := gName 5) rfl scLvLast.nd rfl rfl (sw_true rfl rfl rfl (by decide +kernel)) (pi_tup (pe_dget hu (pe_fld (pv 0) rfl) (pv 2) (fun _ _ => rfl))) (blkOk_by (own := [("other", 5)]) (N := nLvLast) (sc := defScope sLvLast) (by decide +kernel)) (fun _ _ _ _ _ => (pg_name (i := 5) scLvLast.nd rfl (by first | exact Or.inl rfl | exact Or.inr rfl))) (fun _ _ _ _ _ => (pts_one (pt_cmpR q_gt (pv 5) (pv 3) (nomark _)))) (fun _ _ _ _ _ => (pv 5)))
        (pss_one (ps_ret (pe_ifExp (pt_cmpR q_gt (pe_callB q_len (by rfl) T.len (by decide +kernel) (pa_cons (pv 4) pa_nil)) pe_int (nomark _)) (pe_op q_sub (pe_ix q_ix (pv 4) pe_int (fun _ _ => rfl)) pe_int) (pe_gc N0.MOST_MOMENT))))))), ?_⟩
    have w0 := wd_pure sG
    walk_at "qq"
    refine r_hasT (w0.le _ _ ha) ?_
    refine u_has w0 hlv hx fun G1 H1 w1 s1 t1 => ⟨_, rfl, ?_⟩
    walk_at "qq"
    refine ite_nb (fun c1 => ?_) (fun c1 => ?_)
    · walk_at "qq"
      exact u_raise1 (by assumption) fun d G' H' w' s' t' hd => retX_of (bad c1) w' hd
    obtain ⟨s', i, ns, rfl, hns, hi⟩ := isLife_to c1
    obtain ⟨p, rfl, hp, hk⟩ := hx
    have hp1 := w1.le _ _ (s1 _ _ hp)
    have lns := hb _ (nsOf_mem hns)
    rcases lv.val s' with ⟨e1, _⟩ | ⟨ra, ns2, e1, e2, e3⟩
    · rw [hns] at e1; cases e1
    rw [hns] at e1
    cases e1
    have hD1 := w1.le _ _ (s1 _ _ hD)
    have e3 := s1 _ _ e3
    walk_at "qq"
    refine ⟨D, _, rfl, DGet.frz (k := .inr s') hD1 e2, ?_⟩
    walk_at "qq"
    refine lc_go w1 (walk_tup (xs := ns.map V.int)) (fun j acc _ _ => acc = ((ns.take j).filter fun b => decide (i < b)).map V.int) (fun _ _ _ _ _ => rfl) (fun j acc Gy Hy wy sy _ => wd_sqT wy (SqT.of (sy _ _ e3))) ?_ ?_
    · rintro Dd j acc G3 H3 x' H4 hj hl3 w3 s3 hDd nm rfl ⟨rfl, hx'⟩
      obtain ⟨b, hb', rfl⟩ : ∃ b, ns[j]? = some b ∧ x' = .int b := by
        rw [List.getElem?_map] at hx'
        cases e : ns[j]? with
        | none => rw [e] at hx'; cases hx'
        | some b => rw [e] at hx'; exact ⟨b, rfl, (Option.some.inj hx').symm⟩
      have hj6 : j ≤ 1000000 := by
        have : j < ns.length := (List.getElem?_eq_some_iff.mp hb').1
        have : ns.length ≤ 1000 := lns
        omega
      walk_at "qq"
      refine ite_d (fun c2 => ?_) (fun c2 => ?_)
      · walk_at "qq"
        rw [filt_yes hb' (by simpa using c2), List.map_append]
        rfl
      · refine ⟨_, G3, w3, s3, hDd, Nat.le_succ_of_le hl3, ?_⟩
        show _ = _
        rw [filt_no hb' (by simpa using c2)]
    · rintro l3 acc G3 G4 H4 hl3 w3 s3 s4 h3 rfl
      rw [List.length_map, List.take_of_length_le (Nat.le_refl _)] at h3
      have hgood := good s' i ns rfl hns hi
      unfold nextOf at hgood
      generalize ns.filter (fun b => decide (i < b)) = fs at *
      cases fs with
      | nil =>
        walk_at "qq"
        refine ite_d (fun z => by simp at z) fun _ => ?_
        walk_at "qq"
        exact ret_of hgood w3 rfl
      | cons b fs =>
        walk_at "qq"
        refine ite_d (fun _ => ?_) fun z => absurd (show (0 : Int) < ((b :: fs).map V.int).length by simp only [List.map_cons, List.length_cons]; omega) z
        walk_at "qq"
        refine r_ixL (SqL.of (w3.le _ _ h3)) (atI_0 _ _) ?_
        walk_at "qq"
        exact ret_of hgood w3 rfl
end
section
variable {P : Program} {w : World} {K : PySem.W.Frag} {mg : Str → Option Value} {base : Heap}
abbrev nCrewR : List Str := ["_law_pen_here", "_law_stem", "_law_sign"]
theorem scCrewR : FnScope nCrewR ["_law_pen_here"] (defScope sCrewR) := ⟨rfl, rfl, rfl, by decide +kernel, rfl, by decide +kernel, by decide +kernel⟩
theorem crewR_ok : ∀ z ∈ ([("" : Str), "g", "gauge0"]), ∀ c ∈ [122, 97, 98], nmOk (z ++ (⟨#[c]⟩ : Str)) = true ∧ z.length ≤ 6 := by decide +kernel
theorem crew_cut : ∀ d : Int, 0 ≤ d → d < 3 → (cutS "zab" none (some (1 + d))).cps.toList ≠ [] ∧ (cutS "zab" none (some (1 + d))).cps.toList.length ≤ 3 ∧ ∀ c ∈ (cutS "zab" none (some (1 + d))).cps.toList, c ∈ [122, 97, 98] := fun d h0 h1 => by
  rcases (by omega : d = 0 ∨ d = 1 ∨ d = 2) with rfl | rfl | rfl <;> decide +kernel
theorem ok_crewR {f : Addr} {fd : FuncData} (F : FnP K "_law_crew" "_law_crew" sCrewR [] f fd) (Dd : Df P w K mg base CX0 2 "_law_draw" [] spDraw) (Dp : Df P w K mg base CX0 3 "_law_pick" [] (spPick K)) : FnOk P w K mg base CX0 4 f fd ["_law_pen_here"] spCrewR := by
  refine fnP_ok F scCrewR (fun vs H Q E h => ?_) (fun cdv A outer s H vs Q E hr h => ?_)
  · obtain ⟨G, p, c, n, rfl, _⟩ := h
    rfl
  · obtain ⟨G, p, c, n, rfl, sG, gp, hc, hp, hn, k⟩ := h
    have hu64 := hr.units
    have w0 : Wd ⟨H, G, [p], []⟩ G H [p] := by
      obtain ⟨a, g, h1, _⟩ := id hp
      exact wd_start sG (fun a h => by rw [List.mem_singleton.mp h]; exact ⟨gp, _, h1, rfl⟩) (by simp)
    refine ⟨_, (pss_cons (ps_set (i := 1) scCrewR.nd rfl (Or.inr rfl) (pe_callD Dp hr pass0 (pa_cons (pv 0) (pa_cons (pe_lst (pa_cons pe_str (pa_cons pe_str (pa_cons pe_str (pa_cons pe_str pa_nil))))) pa_nil))))
        (pss_one (ps_ret (pe_lc (own := [("_law_sign", 2)]) (g := gName 2) (tt := tYes) rfl scCrewR.nd (pi_str (pe_slice sl_str pe_str po_none (po_some (pe_op q_add pe_int (pe_callD Dd hr pass0 (pa_cons (pv 0) (pa_cons pe_int pa_nil))))))) (blkOk_by (own := [("_law_sign", 2)]) (N := nCrewR) (sc := defScope sCrewR) (by decide +kernel)) (fun _ _ _ _ _ => (pg_name (i := 2) scCrewR.nd rfl (by first | exact Or.inl rfl | exact Or.inr rfl))) (fun _ _ _ _ _ => pts_nil) (fun _ _ _ _ _ => (pe_op q_add (pv 1) (pv 2))))))), ?_⟩
    walk_at "qq"
    rename_i l1 G1 H1 n1 w1 s1 h1 t1
    have hc1 := hc.same s1
    refine u_pick w1 (by simp) hc1 (hp.same t1) (by omega) (.inl ⟨l1, rfl, .inl (SqL.of h1)⟩) (by simp) (by decide) fun v2 G2 H2 w2 s2 b2 P2 m2 => ?_
    have hz : ∃ z ∈ ([("" : Str), "g", "gauge0"]), v2 = .str z := by
      simp only [List.mem_cons, List.not_mem_nil, or_false] at m2
      rcases m2 with rfl | rfl | rfl | rfl
      · exact ⟨_, by simp, rfl⟩
      · exact ⟨_, by simp, rfl⟩
      · exact ⟨_, by simp, rfl⟩
      · exact ⟨_, by simp, rfl⟩
    obtain ⟨z, hz, rfl⟩ := hz
    have hc2 := hc1.same s2
    walk_at "qq"
    refine u_draw w2 (by simp) hc2 P2 (by omega) (by decide) (by decide) fun d3 G3 H3 w3 s3 b3 P3 a3 c3 => ?_
    obtain ⟨q1, q2, q3⟩ := crew_cut d3 a3 c3
    walk_at "qq"
    generalize cutS "zab" none (some (1 + d3)) = zs at *
    have lz : zs.length = zs.cps.toList.length := len_tl zs
    refine lc_go w3 walk_str (fun j acc _ Hy => acc = ((zs.cps.toList.take j).map fun c => z ++ (⟨#[c]⟩ : Str)).map V.str ∧ PenAt p c (n + 2) Hy) (fun _ _ w8 s8 _ => ⟨rfl, P3.same s8⟩) (fun _ _ _ _ _ _ _ => trivial) ?_ ?_
    · rintro Dd j acc Gi H4 x H5 hj hl w4 s4 hD nm ⟨rfl, P4⟩ ⟨rfl, c', hc', rfl⟩
      have hne0 : Dd ≠ p := nm p (by simp)
      have hc2 : zs.cps.toList[j]? = some c' := by simpa using hc'
      obtain ⟨_, lzz⟩ := crewR_ok z hz c' (q3 c' (List.mem_of_getElem? hc2))
      have l1 : (⟨#[c']⟩ : Str).length = 1 := rfl
      have hj6 : j ≤ 1000000 := by
        have h1 : j < zs.length := hj
        omega
      walk_at "qq"
      rename_i H6 w6 b6
      refine ⟨?_, P4.but b6 hne0.symm⟩
      rw [List.take_add_one, hc2, List.map_append, List.map_append]
      rfl
    · rintro l4 acc Gi G4 H4 hl w4 s4 s5 h4 ⟨rfl, P4⟩
      rw [List.take_of_length_le (by simp)] at h4
      walk_at "qq"
      refine retP_of k w4 P4 ⟨l4, _, rfl, h4, ?_, ?_, ?_⟩
      · simpa using q1
      · simpa using q2
      · intro y hy
        obtain ⟨c', hc', rfl⟩ := List.mem_map.mp hy
        exact (crewR_ok z hz c' (q3 c' hc')).1
end
section
variable {P : Program} {w : World} {K : PySem.W.Frag} {mg : Str → Option Value} {base : Heap}
abbrev nNamedL : List Str := ["_law_row", "_law_part"]
theorem scNamedL : FnScope nNamedL ["_law_row"] (defScope sNamedL) := ⟨rfl, rfl, rfl, by decide +kernel, rfl, by decide +kernel, by decide +kernel⟩
theorem ok_namedL {f : Addr} {fd : FuncData} (F : FnP K "_law_named" "_law_named" sNamedL [] f fd) (T : Bi mg) : FnOk P w K mg base CX0 1 f fd ["_law_row"] spNamedL := by
  refine fnP_ok F scNamedL (fun vs H Q E h => ?_) (fun cdv A outer s H vs Q E hr h => ?_)
  · obtain ⟨G, t, i, as, rfl, _⟩ := h
    rfl
  · obtain ⟨G, t, i, as, rfl, sG, ht, k⟩ := h
    have hu64 := hr.units
    obtain ⟨hi, gt, sg⟩ := id ht
    refine ⟨_, (pss_one (ps_ret (pe_lc (own := [("_law_part", 1)]) (g := gName 1) rfl scNamedL.nd (pi_tup (pe_slice sl_tup (pv 0) (po_some pe_int) po_none)) (blkOk_by (own := [("_law_part", 1)]) (N := nNamedL) (sc := defScope sNamedL) (by decide +kernel)) (fun _ _ _ _ _ => (pg_name (i := 1) scNamedL.nd rfl (by first | exact Or.inl rfl | exact Or.inr rfl))) (fun _ _ _ _ _ => (pts_one (pt_val (pe_callB (show CallR _ (.builtin "isinstance") (rIsi K) from call_isi) (by rfl) T.isinstance (by decide +kernel) (pa_cons (pv 1) (pa_cons (pe_bltn (v := .ty "str") (by rfl) T.str (by decide +kernel) rfl) pa_nil)))))) (fun _ _ _ _ _ => (pv 1))))), ?_⟩
    have w0 := wd_pure sG
    walk_at "qq"
    refine r_slT1 (SqT.of (w0.le _ _ gt)) ?_
    walk_at "qq"
    rename_i l1 G1 H1 n1 w1 s1 h1 t1
    refine lc_go w1 (walk_tup (xs := as)) (fun j acc _ _ => acc = (as.take j).filter isS) (fun _ _ _ _ _ => rfl) (fun j acc Gi Hi wi si _ => wd_sqT wi (same_sqT si (SqT.of h1))) ?_ ?_
    · rintro Dd j acc Gi H2 x H3 hj hl w2 s2 hD nm rfl ⟨rfl, hx⟩
      have hj6 : j ≤ 1000000 := by
        have h1 : j < as.length := hj
        have h2 := sg_few hi sg
        omega
      rcases sg_vals sg x (List.mem_of_getElem? hx) with ⟨z, rfl, hz⟩ | ⟨m, rfl⟩ | ⟨b, rfl⟩
      · walk_at "qq"
        rw [filt_yes hx rfl]
      · walk_at "qq"
        refine ⟨_, Gi, w2, s2, hD, Nat.le_succ_of_le hl, ?_⟩
        show (as.take j).filter isS = (as.take (j + 1)).filter isS
        rw [filt_no hx (by simp [isS])]
      · walk_at "qq"
        refine ⟨_, Gi, w2, s2, hD, Nat.le_succ_of_le hl, ?_⟩
        show (as.take j).filter isS = (as.take (j + 1)).filter isS
        rw [filt_no hx (by simp [isS])]
    · rintro l2 acc Gi G2 H2 hl w2 s2 s3 h2 rfl
      rw [List.take_length, named_filter sg] at h2
      walk_at "qq"
      exact ret_of k w2 ⟨l2, rfl, h2⟩
end
open PySem PySem.Spec PyProof.Rows L2 Q
section
variable {P : Program} {w : World} {K : PySem.W.Frag} {mg : Str → Option Value} {base : Heap} {CL : Nat → Addr}
abbrev nTools : List Str := ["self", "tool"]
theorem scTools : FnScope nTools ["self"] (defScope sTools) := ⟨rfl, rfl, rfl, by decide +kernel, rfl, by decide +kernel, by decide +kernel⟩
theorem ok_tools {f : Addr} {fd : FuncData} (F : FnP K "tools" "Row.tools" sTools [] f fd) (T : Bi mg) (RC : ∀ i, i < 10 → RwC K (CL i) (flN i)) : FnOk P w K mg base CX0 1 f fd ["self"] (spRowTools K CL) := by
  refine fnP_ok F scTools (fun vs H Q E h => ?_) (fun cdv A outer s H vs Q E hr h => ?_)
  · obtain ⟨G, a, i, as, rfl, _⟩ := h
    rfl
  · obtain ⟨G, a, i, as, rfl, sG, hrow, k⟩ := h
    have hu64 := hr.units
    refine ⟨_, (pss_one (ps_ret (pe_callTy q_tupOf (by rfl) T.tuple (by decide +kernel) (pa_cons (pe_callB (show CallR _ (.builtin "sorted") (rSortS w) from cr_sortS rfl) (by rfl) T.sorted (by decide +kernel) (pa_cons (pe_callTy (show CallR _ (.type "set") (rSetLS K w) from cr_setLS rfl) (by rfl) T.set (by decide +kernel) (pa_cons (pe_lc (own := [("tool", 1)]) (g := gName 1) (tt := tYes) rfl scTools.nd (pi_tup (pe_fld (pv 0) rfl)) (blkOk_by (own := [("tool", 1)]) (N := nTools) (sc := defScope sTools) (by decide +kernel)) (fun _ _ _ _ _ => (pg_name (i := 1) scTools.nd rfl (by first | exact Or.inl rfl | exact Or.inr rfl))) (fun _ _ _ _ _ => pts_nil) (fun _ _ _ _ _ => (pe_callTy q_strS (by rfl) T.str (by decide +kernel) (pa_cons (pv 1) pa_nil)))) pa_nil)) pa_nil)) pa_nil)))), ?_⟩
    have w0 := wd_pure sG
    obtain ⟨hi, sg, dx, aw, an, am, ga, gw, gn, gm⟩ := id hrow
    have RCi := RC i hi
    have cc := RCi.c
    have n1 := RCi.n
    have few := named_few hi sg
    obtain ⟨zs, ez, mz⟩ := named_in sg
    rw [ez] at gn few
    rw [List.length_map] at few
    walk_at "qq"
    refine lc_go w0 (walk_tup (xs := zs.map V.str)) (fun j acc _ _ => acc = (zs.take j).map V.str) (fun _ _ _ _ _ => rfl) (fun j acc Gi Hi wi si _ => wd_sqT wi (same_sqT si (SqT.of gn))) ?_ ?_
    · rintro Dd j acc Gi H3 x H4 hj hl w2 s2 hD nm rfl ⟨rfl, hx⟩
      have hj6 : j ≤ 1000000 := by
        have h1 : j < (zs.map V.str).length := hj
        rw [List.length_map] at h1
        omega
      rw [List.getElem?_map] at hx
      cases hz : zs[j]? with
      | none => rw [hz] at hx; cases hx
      | some z =>
        rw [hz] at hx
        cases hx
        walk_at "qq"
        rw [List.take_add_one, hz, List.map_append]
        rfl
    · rintro l2 acc Gi G2 H2 hl w2 s2 s3 h2 rfl
      rw [show (zs.map V.str).length = zs.length from List.length_map .., List.take_length] at h2
      walk_at "qq"
      refine r_ssT (zs := zs) w2 (SqL.of (w2.le _ _ h2)) (by omega) (fun a H1 h => by walk_at "qq"; exact h) fun ys l6 G6 H6 p1 p2 p3 w6 s6 t6 h6 => ?_
      walk_at "qq"
      refine r_tupOf (SqL.of (w6.le _ _ h6)) ?_
      refine r_lay w6 (Nat.zero_le _) (by intro ps z; cases z) fun l7 G7 H7 n7 w7 s7 h7 t7 => ?_
      exact ret_of k w7 ⟨l7, ys, rfl, h7, p1, p2, fun z => (p3 z).trans (mz z)⟩
end
section
variable {P : Program} {w : World} {K : PySem.W.Frag} {mg : Str → Option Value} {base : Heap} {CL : Nat → Addr} {C Cy Cn Cm Cs Ct Cl : Addr}
abbrev nNeedT : List Str := ["self", "lives", "tool"]
theorem scNeedT : FnScope nNeedT ["self", "lives"] (defScope sNeedT) := ⟨rfl, rfl, rfl, by decide +kernel, rfl, by decide +kernel, by decide +kernel⟩
theorem ok_needT {f : Addr} {fd : FuncData} (F : FnP K "need_tools" "Row.need_tools" sNeedT [] f fd) (Dto : ∀ i, i < 10 → PrD P w K mg base CX0 1 (CL i) "tools" (spRowTools K CL)) (DTl : PrD P w K mg base CX0 1 C "tools" (spTools C)) (ET : ErD P w K mg base "NoTool" Ct (spErr1 Ct "tool")) :
    FnOk P w K mg base (L2.CX P w) 4 f fd ["self", "lives"] (spNeedTools K CL C Ct) := by
  refine fnP_okX F scNeedT (fun vs H Q E h => ?_) (fun cdv A outer s H vs Q E hr h => ?_)
  · obtain ⟨G, a, i, as, lv, bt, ys, rfl, _⟩ := h
    rfl
  · obtain ⟨G, a, i, as, lv, bt, ys, rfl, sG, hrow, hL, hys, good, bad⟩ := h
    have hu64 := hr.units
    have hi := hrow.1
    have passL0 : ∀ {X : Cx}, Passes CX0 X E0 := fun {X} => pass0
    have passQ : Passes (L2.CX P w) (cxOf (L2.CX P w) P w K mg base nNeedT "Row.need_tools" (defScope sNeedT) f cdv A outer s H E) E := passD
    refine ⟨_, (pss_one (ps_for (passes_of rfl) rfl (pi_tup (pe_propD (pv 0) (Dto i hi) hr passL0)) (pg_name (i := 2) scNeedT.nd rfl (Or.inl rfl)) (pss_one (ps_if (pt_cmpR op_notIn_seq (pv 2) (pe_propD (pv 1) DTl hr passL0) (by rfl)) (pss_one (ps_raiseD rfl takesD ET hr (pa_cons (pv 2) pa_nil))) pss_nil)))), ?_⟩
    have w0 := wd_pure sG
    obtain ⟨dxr, fsr, hir⟩ := hrow.ins
    obtain ⟨dxl, Dl, odl, kvl, hil, _⟩ := id hL
    walk_at "qq"
    refine u_rowTools w0 hrow fun p zs G1 H1 w1 s1 t1 h1 hzs => ?_
    obtain rfl := tools_one hzs hys
    walk_at "qq"
    refine for_go (walk_tup (xs := zs.map V.str)) (fun j σ Hx => ∃ (Gi : Hp) (x2 : Option V), σ = [some (.ref a), some (.ref lv), x2] ∧ Wd ⟨H, G, [], []⟩ Gi Hx [] ∧ Same G1 Gi ∧ ∀ z ∈ zs.take j, z ∈ bt.map (·.1))
      ⟨G1, _, rfl, w1, Same.refl _, fun z hz => by simp at hz⟩ (fun j σ Hx _ ⟨Gi, _, _, wi, si, _⟩ => wd_sqT wi (SqT.of (si _ _ h1))) ?_ ?_
    · rintro j xj σ Ha Hb hj ⟨Gi, x2, rfl, wi, si, hall⟩ ⟨rfl, hx⟩
      obtain ⟨z, hz, rfl⟩ : ∃ z, zs[j]? = some z ∧ xj = .str z := by
        rw [List.getElem?_map] at hx
        cases e : zs[j]? with
        | none => rw [e] at hx; cases hx
        | some b => rw [e] at hx; exact ⟨b, rfl, (Option.some.inj hx).symm⟩
      have hili := si _ _ (s1 _ _ hil)
      walk_at "qq"
      refine u_tools wi (hL.same (s1.trans si)) fun p2 G2 H2 w2 s2 t2 h2 => ?_
      walk_at "qq"
      refine r_ninT (SqT.of (w2.le _ _ h2)) rfl (flat_strs _) ?_
      refine ⟨_, rfl, ?_⟩
      rw [inV_strs]
      refine ite_nb (fun c1 => ?_) (fun c1 => ?_)
      · walk_at "qq"
        have hgone : goneOf zs bt = some z := by
          have hj := (List.getElem?_eq_some_iff.mp hz)
          have e : zs = zs.take j ++ z :: zs.drop (j + 1) := by
            rw [← hj.2, ← List.drop_eq_getElem_cons hj.1, List.take_append_drop]
          unfold goneOf
          rw [e, List.find?_append]
          have e0 : (zs.take j).find? (fun z => !decide (z ∈ bt.map (·.1))) = none := by
            rw [List.find?_eq_none]
            intro y hy
            simp only [decide_eq_true (hall y hy), Bool.not_true]
            decide
          rw [e0, List.find?_cons_of_pos (by rw [c1]; rfl)]
          rfl
        exact u_raise1 (by assumption) fun d G' H' w' s' t' hd => retX_of (bad z hgone) w' hd
      · walk_at "qq"
        refine ⟨G2, _, rfl, w2, si.trans s2, fun y hy => ?_⟩
        rw [List.take_add_one, hz] at hy
        rcases List.mem_append.mp hy with hy | hy
        · exact hall y hy
        · rw [List.mem_singleton.mp hy]
          exact of_decide_eq_true c1
    · rintro σ Ha ⟨Gi, x2, rfl, wi, si, hall⟩
      rw [List.length_map, List.take_length] at hall
      refine ret_of (good ?_) wi rfl
      unfold goneOf
      rw [List.find?_eq_none]
      intro y hy
      simp only [decide_eq_true (hall y hy), Bool.not_true]
      decide
abbrev nExcl : List Str := ["saying"]
theorem scExcl : FnScope nExcl ["saying"] (defScope sExcl) := ⟨rfl, rfl, rfl, by decide +kernel, rfl, by decide +kernel, by decide +kernel⟩
theorem ok_excl {f : Addr} {fd : FuncData} (F : FnP K "excluded" "excluded" sExcl [] f fd) : FnOk P w K mg base CX0 1 f fd ["saying"] spExcl := by
  refine fnP_ok F scExcl (fun vs H Q E h => ?_) (fun cdv A outer s H vs Q E hr h => ?_)
  · obtain ⟨G, a, rfl, _⟩ := h
    rfl
  · obtain ⟨G, a, rfl, sG, k⟩ := h
    refine ⟨_, (pss_one (ps_ret (pe_tup (pa_cons (pv 0) (pa_cons (pv 0) pa_nil))))), ?_⟩
    have w0 := wd_pure sG
    walk_at "qq"
    rename_i p1 G1 H1 n1 w1 s1 h1 t1
    exact ret_of k w1 ⟨p1, rfl, h1⟩
abbrev nTwo : List Str := ["self", "lives", "is_sound", "other_is_sound"]
theorem scTwo : FnScope nTwo ["self", "lives", "is_sound", "other_is_sound"] (defScope sTwo) := ⟨rfl, rfl, rfl, by decide +kernel, rfl, by decide +kernel, by decide +kernel⟩
theorem ok_two {f : Addr} {fd : FuncData} (F : FnP K "two" "Meeting.two" sTwo [] f fd) (RC : ∀ i, i < 10 → RwC K (CL i) (flN i)) (DSy : MkD P w K mg base (L2.CX P w) 3 "Saying" Cy [] (spSayX K Cy Cn Cm Cs)) (DNT : ∀ i, i < 10 → MetD P w K mg base (L2.CX P w) 4 (CL i) "need_tools" [] (spNeedTools K CL C Ct)) :
    FnOk P w K mg base (L2.CX P w) 6 f fd ["self", "lives", "is_sound", "other_is_sound"] (spTwo K CL C Cy Ct) := by
  refine fnP_okX F scTwo (fun vs H Q E h => ?_) (fun cdv A outer s H vs Q E hr h => ?_)
  · obtain ⟨G, a, i, as, lv, bt, ys, b1, b2, rfl, _⟩ := h
    rfl
  · obtain ⟨G, a, i, as, lv, bt, ys, b1, b2, rfl, h6, sG, hrow, hL, hys, good, bad⟩ := h
    have hu64 := hr.units
    have hi := hrow.1
    have passQ : Passes (L2.CX P w) (cxOf (L2.CX P w) P w K mg base nTwo "Meeting.two" (defScope sTwo) f cdv A outer s H E) E := passD
    have RCi := RC i hi
    have cc := RCi.c
    have efl : flN i = (["one", "moment", "other", "later"] : List Str) := by rcases (by omega : i = 6 ∨ i = 7 ∨ i = 8 ∨ i = 9) with rfl | rfl | rfl | rfl <;> rfl
    have nf := fun f hf => RCi.own f hf
    rw [efl] at nf
    have n_one := nf "one" (by simp)
    have n_moment := nf "moment" (by simp)
    have n_other := nf "other" (by simp)
    have n_later := nf "later" (by simp)
    obtain ⟨x, m, y, l, rfl, r1, r2⟩ := sg_tmtm h6 hi hrow.2.1
    refine ⟨_, (pss_cons (ps_expr (pe_methD (pv 0) (DNT i hi) hr passQ (pa_cons (pv 1) pa_nil)))
        (pss_one (ps_ret (pe_tup (pa_cons (pe_makeD DSy hr passQ (pa_cons (pe_fld (pv 0) rfl) (pa_cons (pe_fld (pv 0) rfl) (pa_cons (pv 2) pa_nil)))) (pa_cons (pe_makeD DSy hr passQ (pa_cons (pe_fld (pv 0) rfl) (pa_cons (pe_fld (pv 0) rfl) (pa_cons (pv 3) pa_nil)))) pa_nil)))))), ?_⟩
    have w0 := wd_pure sG
    obtain ⟨_, sg, dx, aw, an, am, ga, gw, gn, gm⟩ := id hrow
    rw [efl] at ga
    clear gw gn gm
    walk_at "qq"
    refine u_needTools w0 hrow hL hys (fun hg G1 H1 w1 s1 t1 => ?_) (fun z hz d G1 H1 w1 s1 t1 hd => retX_of (bad z hz) w1 hd)
    have ga1 := s1 _ _ ga
    walk_at "qq"
    refine u_sayR w1 r1 fun s2 G2 H2 w2 s2' t2 hs2 => ?_
    have ga2 := s2' _ _ ga1
    walk_at "qq"
    refine u_sayR w2 r2 fun s3 G3 H3 w3 s3' t3 hs3 => ?_
    walk_at "qq"
    rename_i p4 G4 H4 n4 w4 s4 h4 t4
    exact ret_of (good hg x m y l rfl) w4 ⟨p4, rfl, s2, s3, h4, (hs2.same s3').same s4, hs3.same s4⟩
end
section
variable {P : Program} {w : World} {K : PySem.W.Frag} {mg : Str → Option Value} {base : Heap} {CL : Nat → Addr} {C Cy Cn Cm Cs Ct Cl : Addr}
abbrev nPBegun : List Str := ["self", "lives"]
theorem scPBegun : FnScope nPBegun ["self", "lives"] (defScope sPBegun) := ⟨rfl, rfl, rfl, by decide +kernel, rfl, by decide +kernel, by decide +kernel⟩
theorem ok_PBegun {f : Addr} {fd : FuncData} (F : FnP K "pairs" "Begun.pairs" sPBegun [] f fd) (RC : ∀ i, i < 10 → RwC K (CL i) (flN i)) (DNT : ∀ i, i < 10 → MetD P w K mg base (L2.CX P w) 4 (CL i) "need_tools" [] (spNeedTools K CL C Ct)) :
    FnOk P w K mg base (L2.CX P w) 8 f fd ["self", "lives"] (spPairs K CL C Cy Ct 0) := by
  refine fnP_okX F scPBegun (fun vs H Q E h => ?_) (fun cdv A outer s H vs Q E hr h => ?_)
  · obtain ⟨G, a, as, lv, bt, ys, rfl, _⟩ := h
    rfl
  · obtain ⟨G, a, as, lv, bt, ys, rfl, sG, hrow, hL, hys, hbt, good, bad⟩ := h
    have hu64 := hr.units
    have passL0 : ∀ {X : Cx}, Passes CX0 X E0 := fun {X} => pass0
    have passQ : Passes (L2.CX P w) (cxOf (L2.CX P w) P w K mg base nPBegun "Begun.pairs" (defScope sPBegun) f cdv A outer s H E) E := passD
    have RCi := RC 0 (by decide)
    have cc := RCi.c
    have nf := fun f hf => RCi.own f hf
    have n_tool := nf "tool" (by simp [flN, flsT])
    have n_moment := nf "moment" (by simp [flN, flsT])
    obtain ⟨t, m, rfl, r1⟩ := sg_tm hrow.2.1
    refine ⟨_, (pss_cons (ps_expr (pe_methD (pv 0) (DNT 0 (by decide)) hr passQ (pa_cons (pv 1) pa_nil)))
        (pss_one (ps_ret (pe_tup pa_nil)))), ?_⟩
    have w0 := wd_pure sG
    obtain ⟨_, sg, dx, aw, an, am, ga, gw, gn, gm⟩ := id hrow
    clear gw gn gm
    walk_at "qq"
    refine u_needTools w0 hrow hL hys (fun hg G1 H1 w1 s1 t1 => ?_) (fun z hz d G1 H1 w1 s1 t1 hd => retX_of (bad z hz) w1 hd)
    have ga1 := s1 _ _ ga
    walk_at "qq"
    rename_i p4 G4 H4 n4 w4 s4 h4 t4
    exact ret_of (good hg) w4 ⟨p4, [], rfl, h4, TwoAt.nil⟩
abbrev nPSetBy : List Str := ["self", "lives"]
theorem scPSetBy : FnScope nPSetBy ["self", "lives"] (defScope sPSetBy) := ⟨rfl, rfl, rfl, by decide +kernel, rfl, by decide +kernel, by decide +kernel⟩
theorem ok_PSetBy {f : Addr} {fd : FuncData} (F : FnP K "pairs" "SetBy.pairs" sPSetBy [] f fd) (RC : ∀ i, i < 10 → RwC K (CL i) (flN i)) (DNT : ∀ i, i < 10 → MetD P w K mg base (L2.CX P w) 4 (CL i) "need_tools" [] (spNeedTools K CL C Ct)) (DSy : MkD P w K mg base (L2.CX P w) 3 "Saying" Cy [] (spSayX K Cy Cn Cm Cs)) :
    FnOk P w K mg base (L2.CX P w) 8 f fd ["self", "lives"] (spPairs K CL C Cy Ct 1) := by
  refine fnP_okX F scPSetBy (fun vs H Q E h => ?_) (fun cdv A outer s H vs Q E hr h => ?_)
  · obtain ⟨G, a, as, lv, bt, ys, rfl, _⟩ := h
    rfl
  · obtain ⟨G, a, as, lv, bt, ys, rfl, sG, hrow, hL, hys, hbt, good, bad⟩ := h
    have hu64 := hr.units
    have passL0 : ∀ {X : Cx}, Passes CX0 X E0 := fun {X} => pass0
    have passQ : Passes (L2.CX P w) (cxOf (L2.CX P w) P w K mg base nPSetBy "SetBy.pairs" (defScope sPSetBy) f cdv A outer s H E) E := passD
    have RCi := RC 1 (by decide)
    have cc := RCi.c
    have nf := fun f hf => RCi.own f hf
    have n_tool := nf "tool" (by simp [flN, flsT])
    have n_moment := nf "moment" (by simp [flN, flsT])
    have n_by := nf "by" (by simp [flN, flsT])
    obtain ⟨t, m, b, rfl, r1, r2⟩ := sg_tmt (by decide) hrow.2.1
    refine ⟨_, (pss_cons (ps_expr (pe_methD (pv 0) (DNT 1 (by decide)) hr passQ (pa_cons (pv 1) pa_nil)))
        (pss_one (ps_ret (pe_tup (pa_cons (pe_tup (pa_cons (pe_makeD DSy hr passQ (pa_cons (pe_fld (pv 0) rfl) (pa_cons (pe_fld (pv 0) rfl) (pa_cons pe_bl pa_nil)))) (pa_cons (pe_makeD DSy hr passQ (pa_cons (pe_fld (pv 0) rfl) (pa_cons (pe_fld (pv 0) rfl) (pa_cons pe_bl pa_nil)))) pa_nil))) pa_nil))))), ?_⟩
    have w0 := wd_pure sG
    obtain ⟨_, sg, dx, aw, an, am, ga, gw, gn, gm⟩ := id hrow
    clear gw gn gm
    walk_at "qq"
    refine u_needTools w0 hrow hL hys (fun hg G1 H1 w1 s1 t1 => ?_) (fun z hz d G1 H1 w1 s1 t1 hd => retX_of (bad z hz) w1 hd)
    have ga1 := s1 _ _ ga
    walk_at "qq"
    refine u_sayR w1 r1 fun s2 G2 H2 w2 s2' t2 hs2 => ?_
    have ga2 := s2' _ _ ga1
    walk_at "qq"
    refine u_sayR w2 r2 fun s3 G3 H3 w3 s3' t3 hs3 => ?_
    walk_at "qq"
    rename_i p4 G4 H4 n4 w4 s4 h4 t4 p5 G5 H5 n5 w5 s5 h5 t5
    exact ret_of (good hg) w5 ⟨p5, [p4], rfl, h5, TwoAt.one ⟨s2, s3, s5 _ _ h4, ((hs2.same s3').same s4).same s5, (hs3.same s4).same s5⟩⟩
abbrev nPFound : List Str := ["self", "lives"]
theorem scPFound : FnScope nPFound ["self", "lives"] (defScope sPFound) := ⟨rfl, rfl, rfl, by decide +kernel, rfl, by decide +kernel, by decide +kernel⟩
theorem ok_PFound {f : Addr} {fd : FuncData} (F : FnP K "pairs" "Found.pairs" sPFound [] f fd) (RC : ∀ i, i < 10 → RwC K (CL i) (flN i)) (DNT : ∀ i, i < 10 → MetD P w K mg base (L2.CX P w) 4 (CL i) "need_tools" [] (spNeedTools K CL C Ct)) (T : Bi mg) (Dex : Df P w K mg base CX0 1 "excluded" [] spExcl) (DSy : MkD P w K mg base (L2.CX P w) 3 "Saying" Cy [] (spSayX K Cy Cn Cm Cs)) :
    FnOk P w K mg base (L2.CX P w) 8 f fd ["self", "lives"] (spPairs K CL C Cy Ct 2) := by
  refine fnP_okX F scPFound (fun vs H Q E h => ?_) (fun cdv A outer s H vs Q E hr h => ?_)
  · obtain ⟨G, a, as, lv, bt, ys, rfl, _⟩ := h
    rfl
  · obtain ⟨G, a, as, lv, bt, ys, rfl, sG, hrow, hL, hys, hbt, good, bad⟩ := h
    have hu64 := hr.units
    have passL0 : ∀ {X : Cx}, Passes CX0 X E0 := fun {X} => pass0
    have passQ : Passes (L2.CX P w) (cxOf (L2.CX P w) P w K mg base nPFound "Found.pairs" (defScope sPFound) f cdv A outer s H E) E := passD
    have RCi := RC 2 (by decide)
    have cc := RCi.c
    have nf := fun f hf => RCi.own f hf
    have n_tool := nf "tool" (by simp [flN, flsT])
    have n_moment := nf "moment" (by simp [flN, flsT])
    have n_is_sound := nf "is_sound" (by simp [flN, flsT])
    obtain ⟨t, m, b, rfl, r1⟩ := sg_tms hrow.2.1
    refine ⟨_, (pss_cons (ps_expr (pe_methD (pv 0) (DNT 2 (by decide)) hr passQ (pa_cons (pv 1) pa_nil)))
        (pss_one (ps_ret (pe_tup (pa_cons (pe_callD Dex hr passL0 (pa_cons (pe_makeD DSy hr passQ (pa_cons (pe_fld (pv 0) rfl) (pa_cons (pe_fld (pv 0) rfl) (pa_cons (pe_not (pe_fld (pv 0) rfl)) pa_nil)))) pa_nil)) pa_nil))))), ?_⟩
    have w0 := wd_pure sG
    obtain ⟨_, sg, dx, aw, an, am, ga, gw, gn, gm⟩ := id hrow
    clear gw gn gm
    walk_at "qq"
    refine u_needTools w0 hrow hL hys (fun hg G1 H1 w1 s1 t1 => ?_) (fun z hz d G1 H1 w1 s1 t1 hd => retX_of (bad z hz) w1 hd)
    have ga1 := s1 _ _ ga
    walk_at "qq"
    refine u_sayR w1 r1 fun s2 G2 H2 w2 s2' t2 hs2 => ?_
    walk_at "qq"
    refine u_excl w2 fun p3 G3 H3 w3 s3 t3 h3 => ?_
    walk_at "qq"
    rename_i p5 G5 H5 n5 w5 s5 h5 t5
    exact ret_of (good hg) w5 ⟨p5, [p3], rfl, h5, TwoAt.one ⟨s2, s2, s5 _ _ h3, (hs2.same s3).same s5, (hs2.same s3).same s5⟩⟩
abbrev nPTrusted : List Str := ["self", "lives", "lasts", "beginning", "last"]
theorem scPTrusted : FnScope nPTrusted ["self", "lives"] (defScope sPTrusted) := ⟨rfl, rfl, rfl, by decide +kernel, rfl, by decide +kernel, by decide +kernel⟩
theorem ok_PTrusted {f : Addr} {fd : FuncData} (F : FnP K "pairs" "Trusted.pairs" sPTrusted [] f fd) (RC : ∀ i, i < 10 → RwC K (CL i) (flN i)) (DBg : MetD P w K mg base (L2.CX P w) 3 C "beginnings" [] (spBegin K C Ct)) (DLa : MetD P w K mg base (L2.CX P w) 5 C "last_of" [] (spLastOf K C Cl)) (T : Bi mg) (Dex : Df P w K mg base CX0 1 "excluded" [] spExcl) (DSy : MkD P w K mg base (L2.CX P w) 3 "Saying" Cy [] (spSayX K Cy Cn Cm Cs)) :
    FnOk P w K mg base (L2.CX P w) 8 f fd ["self", "lives"] (spPairs K CL C Cy Ct 3) := by
  refine fnP_okX F scPTrusted (fun vs H Q E h => ?_) (fun cdv A outer s H vs Q E hr h => ?_)
  · obtain ⟨G, a, as, lv, bt, ys, rfl, _⟩ := h
    rfl
  · obtain ⟨G, a, as, lv, bt, ys, rfl, sG, hrow, hL, hys, hbt, good, bad⟩ := h
    have hu64 := hr.units
    have passL0 : ∀ {X : Cx}, Passes CX0 X E0 := fun {X} => pass0
    have passQ : Passes (L2.CX P w) (cxOf (L2.CX P w) P w K mg base nPTrusted "Trusted.pairs" (defScope sPTrusted) f cdv A outer s H E) E := passD
    have RCi := RC 3 (by decide)
    have cc := RCi.c
    have nf := fun f hf => RCi.own f hf
    have n_tool := nf "tool" (by simp [flN, flsT])
    obtain ⟨t, rfl, r1⟩ := sg_t hrow.2.1
    refine ⟨_, (pss_cons (ps_setLc (i := 2) (own := [("beginning", 3)]) (g := gName 3) (tt := tYes) rfl scPTrusted.nd rfl rfl (sw_true rfl rfl rfl (by decide +kernel)) (pi_tup (pe_methD (pv 1) DBg hr passQ (pa_cons (pe_fldK (K := K) rfl (pv 0) rfl) pa_nil))) (blkOk_by (own := [("beginning", 3)]) (N := nPTrusted) (sc := defScope sPTrusted) (by decide +kernel)) (fun _ _ _ _ _ => (pg_name (i := 3) scPTrusted.nd rfl (by first | exact Or.inl rfl | exact Or.inr rfl))) (fun _ _ _ _ _ => pts_nil) (fun _ _ _ _ _ => (pe_methD (pv 1) DLa hr passX0 (pa_cons (pe_tup (pa_cons (pe_fldK (K := K) rfl (pv 0) rfl) (pa_cons (pv 3) pa_nil))) pa_nil))))
        (pss_one (ps_ret (pe_callTy q_tupOf (by rfl) T.tuple (by decide +kernel) (pa_cons (pe_lc (own := [("last", 4)]) (g := gName 4) (tt := tYes) rfl scPTrusted.nd (pi_list (pv 2)) (blkOk_by (own := [("last", 4)]) (N := nPTrusted) (sc := defScope sPTrusted) (by decide +kernel)) (fun _ _ _ _ _ => (pg_name (i := 4) scPTrusted.nd rfl (by first | exact Or.inl rfl | exact Or.inr rfl))) (fun _ _ _ _ _ => pts_nil) (fun _ _ _ _ _ => (pe_callD Dex hr pass0 (pa_cons (pe_makeD DSy hr passX0 (pa_cons (pe_fldK (K := K) rfl (pv 0) rfl) (pa_cons (pv 4) (pa_cons pe_bl pa_nil)))) pa_nil)))) pa_nil))))), ?_⟩
    have w0 := wd_pure sG
    obtain ⟨_, sg, dx, aw, an, am, ga, gw, gn, gm⟩ := id hrow
    clear gw gn gm
    obtain ⟨dxl, Dl, odl, kvl, hil, _⟩ := id hL
    obtain rfl := tools_t hys
    walk_at "qq"
    refine u_begin w0 hL (kd_str t) (fun ns p1 G1 H1 hns w1 s1 t1 h1 => ?_) (fun hn d G1 H1 w1 s1 t1 hd => retX_of (bad t (gone_t (by exact hn))) w1 hd)
    have hns : nsOf bt t = some ns := hns
    have hg : goneOf [t] bt = none := gone_n hns
    obtain ⟨lns, hne, asc, bd⟩ := hbt _ (nsOf_mem hns)
    have hne : ns ≠ [] := hne
    have lns : ns.length ≤ 1000 := lns
    have asc : ns.Pairwise (· < ·) := asc
    have bd : ∀ k ∈ ns, 0 ≤ k ∧ k ≤ 1000000000000000000000000000000 := bd
    have ga1 := s1 _ _ ga
    have hil1 := s1 _ _ hil
    walk_at "qq"
    refine lc_go w1 (walk_tup (xs := ns.map V.int)) (fun j acc _ _ => acc = ((lastsOf ns).take j).map V.int) (fun _ _ _ _ _ => rfl) (fun j acc Gy Hy wy sy _ => wd_sqT wy (SqT.of (sy _ _ h1))) ?_ ?_
    · rintro Dd j acc G3 H3 x' H4 hj hl3 w3 s3 hDd nm rfl ⟨rfl, hx'⟩
      obtain ⟨b, hb', rfl⟩ : ∃ b, ns[j]? = some b ∧ x' = .int b := by
        rw [List.getElem?_map] at hx'
        cases e : ns[j]? with
        | none => rw [e] at hx'; cases hx'
        | some b => rw [e] at hx'; exact ⟨b, rfl, (Option.some.inj hx').symm⟩
      have hj6 : j ≤ 1000000 := by
        have : j < ns.length := (List.getElem?_eq_some_iff.mp hb').1
        omega
      have ga3 := s3 _ _ ga1
      have hil3 := s3 _ _ hil1
      walk_at "qq"
      rename_i p4 G4 H4' n4 w4 s4 h4 t4
      refine u_lastOf w4 ((hL.same s1).same (s3.trans s4)) (q := some [.str t, .int b]) ⟨p4, rfl, h4, fun y hy => ?_⟩ (fun p hp => (hbt p hp).1) (fun s' i' ns' e1' e2' e3' G5 H5 w5 s5 t5 => ?_) (fun h => absurd (h.symm.trans (isLife_yes hns (List.mem_of_getElem? hb'))) (by decide))
      · simp only [List.mem_cons, List.not_mem_nil, or_false] at hy
        rcases hy with rfl | rfl
        · exact ⟨_, kd_str _⟩
        · exact ⟨_, kd_int _⟩
      cases e1'
      rw [hns] at e2'
      cases e2'
      walk_at "qq"
      rw [List.take_add_one, next_at asc hb', List.map_append]
      rfl
    · rintro l2 acc G2 G3 H3 hl2 w3 s2 s23 h3 rfl
      have hll : (lastsOf ns).length = ns.length := lasts_len hne
      rw [List.length_map, ← hll, List.take_length] at h3
      have ga3 := s2 _ _ ga1
      have lbd := lasts_bd asc bd
      walk_at "qq"
      refine lc_go w3 (walk_list (xs := (lastsOf ns).map V.int)) (fun j acc Gy _ => ∃ ps : List Addr, acc = ps.map V.ref ∧ TwoAt Cy Gy ps (((lastsOf ns).take j).map fun l => ((t, l, false), (t, l, false)))) (fun _ _ _ _ _ => ⟨[], rfl, TwoAt.nil⟩) (fun j acc Gy Hy wy sy _ => wd_sqL wy (SqL.of (sy _ _ h3))) ?_ ?_
      · rintro Dd j acc G5 H5 x' H6 hj hl5 w5 s5 hDd nm ⟨ps, rfl, htw⟩ ⟨rfl, hx'⟩
        obtain ⟨b, hb', rfl⟩ : ∃ b, (lastsOf ns)[j]? = some b ∧ x' = .int b := by
          rw [List.getElem?_map] at hx'
          cases e : (lastsOf ns)[j]? with
          | none => rw [e] at hx'; cases hx'
          | some b => rw [e] at hx'; exact ⟨b, rfl, (Option.some.inj hx').symm⟩
        have hj6 : j ≤ 1000000 := by
          have : j < (lastsOf ns).length := (List.getElem?_eq_some_iff.mp hb').1
          omega
        have ga5 := s5 _ _ ga3
        have rb := lbd b (List.mem_of_getElem? hb')
        walk_at "qq"
        refine u_sayR w5 ⟨r1, rb.1, rb.2⟩ fun q6 G6 H6 w6 s6 t6 hs6 => ?_
        walk_at "qq"
        refine u_excl w6 fun q7 G7 H7 w7 s7 t7 h7 => ?_
        have hDd7 := t7 _ _ (t6 _ _ hDd)
        walk_at "qq"
        rename_i H8 w8 b8
        refine ⟨ps ++ [q7], by rw [List.map_append]; rfl, ?_⟩
        rw [List.take_add_one, hb', List.map_append]
        exact ((htw.same s6).same s7).snoc ⟨q6, q6, h7, hs6.same s7, hs6.same s7⟩
      · rintro l6 acc G5 G6 H6 hl6 w6 s5 s56 h6 ⟨ps, rfl, htw⟩
        rw [List.length_map, List.take_length] at htw
        walk_at "qq"
        refine r_tupOf (SqL.of (w6.le _ _ h6)) ?_
        walk_at "qq"
        rename_i p8 G8 H8 n8 w8 s8 h8 t8
        refine ret_of (good hg) w8 ⟨p8, ps, rfl, h8, ?_⟩
        show TwoAt Cy G8 ps ((((nsOf bt t).map lastsOf).getD []).map fun l => ((t, l, false), (t, l, false)))
        rw [hns]
        exact (htw.same s56).same s8
abbrev nPPassed : List Str := ["self", "lives"]
theorem scPPassed : FnScope nPPassed ["self", "lives"] (defScope sPPassed) := ⟨rfl, rfl, rfl, by decide +kernel, rfl, by decide +kernel, by decide +kernel⟩
theorem ok_PPassed {f : Addr} {fd : FuncData} (F : FnP K "pairs" "Passed.pairs" sPPassed [] f fd) (RC : ∀ i, i < 10 → RwC K (CL i) (flN i)) (DNT : ∀ i, i < 10 → MetD P w K mg base (L2.CX P w) 4 (CL i) "need_tools" [] (spNeedTools K CL C Ct)) (DSy : MkD P w K mg base (L2.CX P w) 3 "Saying" Cy [] (spSayX K Cy Cn Cm Cs)) :
    FnOk P w K mg base (L2.CX P w) 8 f fd ["self", "lives"] (spPairs K CL C Cy Ct 4) := by
  refine fnP_okX F scPPassed (fun vs H Q E h => ?_) (fun cdv A outer s H vs Q E hr h => ?_)
  · obtain ⟨G, a, as, lv, bt, ys, rfl, _⟩ := h
    rfl
  · obtain ⟨G, a, as, lv, bt, ys, rfl, sG, hrow, hL, hys, hbt, good, bad⟩ := h
    have hu64 := hr.units
    have passL0 : ∀ {X : Cx}, Passes CX0 X E0 := fun {X} => pass0
    have passQ : Passes (L2.CX P w) (cxOf (L2.CX P w) P w K mg base nPPassed "Passed.pairs" (defScope sPPassed) f cdv A outer s H E) E := passD
    have RCi := RC 4 (by decide)
    have cc := RCi.c
    have nf := fun f hf => RCi.own f hf
    have n_tool := nf "tool" (by simp [flN, flsT])
    have n_moment := nf "moment" (by simp [flN, flsT])
    have n_by := nf "by" (by simp [flN, flsT])
    obtain ⟨t, m, b, rfl, r1, r2⟩ := sg_tmt (by decide) hrow.2.1
    refine ⟨_, (pss_cons (ps_expr (pe_methD (pv 0) (DNT 4 (by decide)) hr passQ (pa_cons (pv 1) pa_nil)))
        (pss_one (ps_ret (pe_tup (pa_cons (pe_tup (pa_cons (pe_makeD DSy hr passQ (pa_cons (pe_fld (pv 0) rfl) (pa_cons (pe_fld (pv 0) rfl) (pa_cons pe_bl pa_nil)))) (pa_cons (pe_makeD DSy hr passQ (pa_cons (pe_fld (pv 0) rfl) (pa_cons (pe_fld (pv 0) rfl) (pa_cons pe_bl pa_nil)))) pa_nil))) pa_nil))))), ?_⟩
    have w0 := wd_pure sG
    obtain ⟨_, sg, dx, aw, an, am, ga, gw, gn, gm⟩ := id hrow
    clear gw gn gm
    walk_at "qq"
    refine u_needTools w0 hrow hL hys (fun hg G1 H1 w1 s1 t1 => ?_) (fun z hz d G1 H1 w1 s1 t1 hd => retX_of (bad z hz) w1 hd)
    have ga1 := s1 _ _ ga
    walk_at "qq"
    refine u_sayR w1 r2 fun s2 G2 H2 w2 s2' t2 hs2 => ?_
    have ga2 := s2' _ _ ga1
    walk_at "qq"
    refine u_sayR w2 r1 fun s3 G3 H3 w3 s3' t3 hs3 => ?_
    walk_at "qq"
    rename_i p4 G4 H4 n4 w4 s4 h4 t4 p5 G5 H5 n5 w5 s5 h5 t5
    exact ret_of (good hg) w5 ⟨p5, [p4], rfl, h5, TwoAt.one ⟨s2, s3, s5 _ _ h4, ((hs2.same s3').same s4).same s5, (hs3.same s4).same s5⟩⟩
abbrev nPFailed : List Str := ["self", "lives"]
theorem scPFailed : FnScope nPFailed ["self", "lives"] (defScope sPFailed) := ⟨rfl, rfl, rfl, by decide +kernel, rfl, by decide +kernel, by decide +kernel⟩
theorem ok_PFailed {f : Addr} {fd : FuncData} (F : FnP K "pairs" "Failed.pairs" sPFailed [] f fd) (RC : ∀ i, i < 10 → RwC K (CL i) (flN i)) (DNT : ∀ i, i < 10 → MetD P w K mg base (L2.CX P w) 4 (CL i) "need_tools" [] (spNeedTools K CL C Ct)) (DSy : MkD P w K mg base (L2.CX P w) 3 "Saying" Cy [] (spSayX K Cy Cn Cm Cs)) :
    FnOk P w K mg base (L2.CX P w) 8 f fd ["self", "lives"] (spPairs K CL C Cy Ct 5) := by
  refine fnP_okX F scPFailed (fun vs H Q E h => ?_) (fun cdv A outer s H vs Q E hr h => ?_)
  · obtain ⟨G, a, as, lv, bt, ys, rfl, _⟩ := h
    rfl
  · obtain ⟨G, a, as, lv, bt, ys, rfl, sG, hrow, hL, hys, hbt, good, bad⟩ := h
    have hu64 := hr.units
    have passL0 : ∀ {X : Cx}, Passes CX0 X E0 := fun {X} => pass0
    have passQ : Passes (L2.CX P w) (cxOf (L2.CX P w) P w K mg base nPFailed "Failed.pairs" (defScope sPFailed) f cdv A outer s H E) E := passD
    have RCi := RC 5 (by decide)
    have cc := RCi.c
    have nf := fun f hf => RCi.own f hf
    have n_tool := nf "tool" (by simp [flN, flsT])
    have n_moment := nf "moment" (by simp [flN, flsT])
    have n_by := nf "by" (by simp [flN, flsT])
    obtain ⟨t, m, b, rfl, r1, r2⟩ := sg_tmt (by decide) hrow.2.1
    refine ⟨_, (pss_cons (ps_expr (pe_methD (pv 0) (DNT 5 (by decide)) hr passQ (pa_cons (pv 1) pa_nil)))
        (pss_one (ps_ret (pe_tup (pa_cons (pe_tup (pa_cons (pe_makeD DSy hr passQ (pa_cons (pe_fld (pv 0) rfl) (pa_cons (pe_fld (pv 0) rfl) (pa_cons pe_bl pa_nil)))) (pa_cons (pe_makeD DSy hr passQ (pa_cons (pe_fld (pv 0) rfl) (pa_cons (pe_fld (pv 0) rfl) (pa_cons pe_bl pa_nil)))) pa_nil))) pa_nil))))), ?_⟩
    have w0 := wd_pure sG
    obtain ⟨_, sg, dx, aw, an, am, ga, gw, gn, gm⟩ := id hrow
    clear gw gn gm
    walk_at "qq"
    refine u_needTools w0 hrow hL hys (fun hg G1 H1 w1 s1 t1 => ?_) (fun z hz d G1 H1 w1 s1 t1 hd => retX_of (bad z hz) w1 hd)
    have ga1 := s1 _ _ ga
    walk_at "qq"
    refine u_sayR w1 r2 fun s2 G2 H2 w2 s2' t2 hs2 => ?_
    have ga2 := s2' _ _ ga1
    walk_at "qq"
    refine u_sayR w2 r1 fun s3 G3 H3 w3 s3' t3 hs3 => ?_
    walk_at "qq"
    rename_i p4 G4 H4 n4 w4 s4 h4 t4 p5 G5 H5 n5 w5 s5 h5 t5
    exact ret_of (good hg) w5 ⟨p5, [p4], rfl, h5, TwoAt.one ⟨s2, s3, s5 _ _ h4, ((hs2.same s3').same s4).same s5, (hs3.same s4).same s5⟩⟩
abbrev nPAgreed : List Str := ["self", "lives"]
theorem scPAgreed : FnScope nPAgreed ["self", "lives"] (defScope sPAgreed) := ⟨rfl, rfl, rfl, by decide +kernel, rfl, by decide +kernel, by decide +kernel⟩
theorem ok_PAgreed {f : Addr} {fd : FuncData} (F : FnP K "pairs" "Agreed.pairs" sPAgreed [] f fd) (RC : ∀ i, i < 10 → RwC K (CL i) (flN i)) (DTw : ∀ i, 6 ≤ i → i < 10 → MetD P w K mg base (L2.CX P w) 6 (CL i) "two" [] (spTwo K CL C Cy Ct)) :
    FnOk P w K mg base (L2.CX P w) 8 f fd ["self", "lives"] (spPairs K CL C Cy Ct 6) := by
  refine fnP_okX F scPAgreed (fun vs H Q E h => ?_) (fun cdv A outer s H vs Q E hr h => ?_)
  · obtain ⟨G, a, as, lv, bt, ys, rfl, _⟩ := h
    rfl
  · obtain ⟨G, a, as, lv, bt, ys, rfl, sG, hrow, hL, hys, hbt, good, bad⟩ := h
    have hu64 := hr.units
    have passL0 : ∀ {X : Cx}, Passes CX0 X E0 := fun {X} => pass0
    have passQ : Passes (L2.CX P w) (cxOf (L2.CX P w) P w K mg base nPAgreed "Agreed.pairs" (defScope sPAgreed) f cdv A outer s H E) E := passD
    have RCi := RC 6 (by decide)
    have cc := RCi.c
    have nf := fun f hf => RCi.own f hf
    obtain ⟨x, m, y, l, rfl, r1, r2⟩ := sg_tmtm (by decide) (by decide) hrow.2.1
    refine ⟨_, (pss_one (ps_ret (pe_tup (pa_cons (pe_methD (pv 0) (DTw 6 (by decide) (by decide)) hr passQ (pa_cons (pv 1) (pa_cons pe_bl (pa_cons pe_bl pa_nil)))) (pa_cons (pe_methD (pv 0) (DTw 6 (by decide) (by decide)) hr passQ (pa_cons (pv 1) (pa_cons pe_bl (pa_cons pe_bl pa_nil)))) pa_nil))))), ?_⟩
    have w0 := wd_pure sG
    obtain ⟨_, sg, dx, aw, an, am, ga, gw, gn, gm⟩ := id hrow
    clear gw gn gm
    walk_at "qq"
    refine u_two w0 (by decide) hrow hL hys (fun hg p1 G1 H1 w1 s1 t1 h1 => ?_) (fun z hz d G1 H1 w1 s1 t1 hd => retX_of (bad z hz) w1 hd)
    walk_at "qq"
    have ga1 := s1 _ _ ga
    walk_at "qq"
    refine u_two w1 (by decide) (hrow.same s1) (hL.same s1) hys (fun hg p2 G2 H2 w2 s2 t2 h2 => ?_) (fun z hz d G1 H1 w1 s1 t1 hd => by rw [hg] at hz; cases hz)
    walk_at "qq"
    rename_i p4 G4 H4 n4 w4 s4 h4 t4
    exact ret_of (good hg) w4 ⟨p4, [p1, p2], rfl, h4, TwoAt.two ((h1.same s2).same s4) (h2.same s4)⟩
abbrev nPDiffered : List Str := ["self", "lives"]
theorem scPDiffered : FnScope nPDiffered ["self", "lives"] (defScope sPDiffered) := ⟨rfl, rfl, rfl, by decide +kernel, rfl, by decide +kernel, by decide +kernel⟩
theorem ok_PDiffered {f : Addr} {fd : FuncData} (F : FnP K "pairs" "Differed.pairs" sPDiffered [] f fd) (RC : ∀ i, i < 10 → RwC K (CL i) (flN i)) (DTw : ∀ i, 6 ≤ i → i < 10 → MetD P w K mg base (L2.CX P w) 6 (CL i) "two" [] (spTwo K CL C Cy Ct)) :
    FnOk P w K mg base (L2.CX P w) 8 f fd ["self", "lives"] (spPairs K CL C Cy Ct 7) := by
  refine fnP_okX F scPDiffered (fun vs H Q E h => ?_) (fun cdv A outer s H vs Q E hr h => ?_)
  · obtain ⟨G, a, as, lv, bt, ys, rfl, _⟩ := h
    rfl
  · obtain ⟨G, a, as, lv, bt, ys, rfl, sG, hrow, hL, hys, hbt, good, bad⟩ := h
    have hu64 := hr.units
    have passL0 : ∀ {X : Cx}, Passes CX0 X E0 := fun {X} => pass0
    have passQ : Passes (L2.CX P w) (cxOf (L2.CX P w) P w K mg base nPDiffered "Differed.pairs" (defScope sPDiffered) f cdv A outer s H E) E := passD
    have RCi := RC 7 (by decide)
    have cc := RCi.c
    have nf := fun f hf => RCi.own f hf
    obtain ⟨x, m, y, l, rfl, r1, r2⟩ := sg_tmtm (by decide) (by decide) hrow.2.1
    refine ⟨_, (pss_one (ps_ret (pe_tup (pa_cons (pe_methD (pv 0) (DTw 7 (by decide) (by decide)) hr passQ (pa_cons (pv 1) (pa_cons pe_bl (pa_cons pe_bl pa_nil)))) pa_nil)))), ?_⟩
    have w0 := wd_pure sG
    obtain ⟨_, sg, dx, aw, an, am, ga, gw, gn, gm⟩ := id hrow
    clear gw gn gm
    walk_at "qq"
    refine u_two w0 (by decide) hrow hL hys (fun hg p1 G1 H1 w1 s1 t1 h1 => ?_) (fun z hz d G1 H1 w1 s1 t1 hd => retX_of (bad z hz) w1 hd)
    walk_at "qq"
    rename_i p4 G4 H4 n4 w4 s4 h4 t4
    exact ret_of (good hg) w4 ⟨p4, [p1], rfl, h4, TwoAt.one (h1.same s4)⟩
abbrev nPServed : List Str := ["self", "lives"]
theorem scPServed : FnScope nPServed ["self", "lives"] (defScope sPServed) := ⟨rfl, rfl, rfl, by decide +kernel, rfl, by decide +kernel, by decide +kernel⟩
theorem ok_PServed {f : Addr} {fd : FuncData} (F : FnP K "pairs" "Served.pairs" sPServed [] f fd) (RC : ∀ i, i < 10 → RwC K (CL i) (flN i)) (DTw : ∀ i, 6 ≤ i → i < 10 → MetD P w K mg base (L2.CX P w) 6 (CL i) "two" [] (spTwo K CL C Cy Ct)) :
    FnOk P w K mg base (L2.CX P w) 8 f fd ["self", "lives"] (spPairs K CL C Cy Ct 8) := by
  refine fnP_okX F scPServed (fun vs H Q E h => ?_) (fun cdv A outer s H vs Q E hr h => ?_)
  · obtain ⟨G, a, as, lv, bt, ys, rfl, _⟩ := h
    rfl
  · obtain ⟨G, a, as, lv, bt, ys, rfl, sG, hrow, hL, hys, hbt, good, bad⟩ := h
    have hu64 := hr.units
    have passL0 : ∀ {X : Cx}, Passes CX0 X E0 := fun {X} => pass0
    have passQ : Passes (L2.CX P w) (cxOf (L2.CX P w) P w K mg base nPServed "Served.pairs" (defScope sPServed) f cdv A outer s H E) E := passD
    have RCi := RC 8 (by decide)
    have cc := RCi.c
    have nf := fun f hf => RCi.own f hf
    obtain ⟨x, m, y, l, rfl, r1, r2⟩ := sg_tmtm (by decide) (by decide) hrow.2.1
    refine ⟨_, (pss_one (ps_ret (pe_tup (pa_cons (pe_methD (pv 0) (DTw 8 (by decide) (by decide)) hr passQ (pa_cons (pv 1) (pa_cons pe_bl (pa_cons pe_bl pa_nil)))) pa_nil)))), ?_⟩
    have w0 := wd_pure sG
    obtain ⟨_, sg, dx, aw, an, am, ga, gw, gn, gm⟩ := id hrow
    clear gw gn gm
    walk_at "qq"
    refine u_two w0 (by decide) hrow hL hys (fun hg p1 G1 H1 w1 s1 t1 h1 => ?_) (fun z hz d G1 H1 w1 s1 t1 hd => retX_of (bad z hz) w1 hd)
    walk_at "qq"
    rename_i p4 G4 H4 n4 w4 s4 h4 t4
    exact ret_of (good hg) w4 ⟨p4, [p1], rfl, h4, TwoAt.one (h1.same s4)⟩
abbrev nPBacked : List Str := ["self", "lives"]
theorem scPBacked : FnScope nPBacked ["self", "lives"] (defScope sPBacked) := ⟨rfl, rfl, rfl, by decide +kernel, rfl, by decide +kernel, by decide +kernel⟩
theorem ok_PBacked {f : Addr} {fd : FuncData} (F : FnP K "pairs" "Backed.pairs" sPBacked [] f fd) (RC : ∀ i, i < 10 → RwC K (CL i) (flN i)) (DTw : ∀ i, 6 ≤ i → i < 10 → MetD P w K mg base (L2.CX P w) 6 (CL i) "two" [] (spTwo K CL C Cy Ct)) :
    FnOk P w K mg base (L2.CX P w) 8 f fd ["self", "lives"] (spPairs K CL C Cy Ct 9) := by
  refine fnP_okX F scPBacked (fun vs H Q E h => ?_) (fun cdv A outer s H vs Q E hr h => ?_)
  · obtain ⟨G, a, as, lv, bt, ys, rfl, _⟩ := h
    rfl
  · obtain ⟨G, a, as, lv, bt, ys, rfl, sG, hrow, hL, hys, hbt, good, bad⟩ := h
    have hu64 := hr.units
    have passL0 : ∀ {X : Cx}, Passes CX0 X E0 := fun {X} => pass0
    have passQ : Passes (L2.CX P w) (cxOf (L2.CX P w) P w K mg base nPBacked "Backed.pairs" (defScope sPBacked) f cdv A outer s H E) E := passD
    have RCi := RC 9 (by decide)
    have cc := RCi.c
    have nf := fun f hf => RCi.own f hf
    obtain ⟨x, m, y, l, rfl, r1, r2⟩ := sg_tmtm (by decide) (by decide) hrow.2.1
    refine ⟨_, (pss_one (ps_ret (pe_tup (pa_cons (pe_methD (pv 0) (DTw 9 (by decide) (by decide)) hr passQ (pa_cons (pv 1) (pa_cons pe_bl (pa_cons pe_bl pa_nil)))) pa_nil)))), ?_⟩
    have w0 := wd_pure sG
    obtain ⟨_, sg, dx, aw, an, am, ga, gw, gn, gm⟩ := id hrow
    clear gw gn gm
    walk_at "qq"
    refine u_two w0 (by decide) hrow hL hys (fun hg p1 G1 H1 w1 s1 t1 h1 => ?_) (fun z hz d G1 H1 w1 s1 t1 hd => retX_of (bad z hz) w1 hd)
    walk_at "qq"
    rename_i p4 G4 H4 n4 w4 s4 h4 t4
    exact ret_of (good hg) w4 ⟨p4, [p1], rfl, h4, TwoAt.one (h1.same s4)⟩
end
section
variable {P : Program} {w : World} {K : PySem.W.Frag} {mg : Str → Option Value} {base : Heap} {C : Addr}
abbrev nStarts13 : List Str := ["_law_pen_here", "_law_crew_here", "_law_starts_here", "_law_word", "_law_base", "_law_k"]
theorem scStarts13 : FnScope nStarts13 ["_law_pen_here", "_law_crew_here"] (defScope sStarts13) := ⟨rfl, rfl, rfl, by decide +kernel, rfl, by decide +kernel, by decide +kernel⟩
theorem ok_starts13 {f : Addr} {fd : FuncData} (F : FnP K "_law_starts" "_law_starts" sStarts13 [] f fd) (T : Bi mg) (Dd : Df P w K mg base CX0 2 "_law_draw" [] spDraw) (Dp : Df P w K mg base CX0 3 "_law_pick" [] (spPick K)) : FnOk P w K mg base CX0 4 f fd ["_law_pen_here", "_law_crew_here"] spStarts13 := by
  refine fnP_ok F scStarts13 (fun vs H Q E h => ?_) (fun cdv A outer s H vs Q E hr h => ?_)
  · obtain ⟨G, p, c, l, n, ns, rfl, _⟩ := h
    rfl
  · obtain ⟨G, p, c, l, n, ts, rfl, sG, gp, hc, hp, hn, hl, lts, hok, k⟩ := h
    have hu64 := hr.units
    have hu1 : (A.deeper (envOfC "_law_starts" (defScope sStarts13) s.heap.objs.size f cdv)).units + 1 < cLine := by omega
    have w0 : Wd ⟨H, G, [p], []⟩ G H [p] := by
      obtain ⟨a, g, h1, _⟩ := id hp
      exact wd_start sG (fun a h => by rw [List.mem_singleton.mp h]; exact ⟨gp, _, h1, rfl⟩) (by simp)
    have e30 : (10 : Int) ^ Int.toNat 30 = 1000000000000000000000000000000 := by decide
    refine ⟨_, (pss_cons (ps_set (i := 2) scStarts13.nd rfl (Or.inl rfl) pe_dnewM)
        (pss_cons (ps_for PassesOwn.never rfl (pi_list (pe_op q_add (pv 1) (pe_lst (pa_cons pe_str pa_nil)))) (pg_name (i := 3) scStarts13.nd rfl (Or.inl rfl)) (pss_cons (ps_set (i := 4) scStarts13.nd rfl (Or.inr rfl) (pe_callD Dp hr pass0 (pa_cons (pv 0) (pa_cons (pe_lst (pa_cons pe_int (pa_cons pe_int (pa_cons pe_int (pa_cons pe_int (pa_cons (pe_op q_sub (pe_op q_pow pe_int pe_int) pe_int) pa_nil)))))) pa_nil))))
        (pss_one (ps_dput hu1 (pv 2) (pv 3) (pe_lc (own := [("_law_k", 5)]) (g := gName 5) (tt := tYes) rfl scStarts13.nd (pi_range1 rfl T.range (pa_cons (pe_callD Dp hr pass0 (pa_cons (pv 0) (pa_cons (pe_lst (pa_cons pe_int (pa_cons pe_int (pa_cons pe_int (pa_cons pe_int (pa_cons pe_int pa_nil)))))) pa_nil))) pa_nil)) (blkOk_by (own := [("_law_k", 5)]) (N := nStarts13) (sc := defScope sStarts13) (by decide +kernel)) (fun _ _ _ _ _ => (pg_name (i := 5) scStarts13.nd rfl (by first | exact Or.inl rfl | exact Or.inr rfl))) (fun _ _ _ _ _ => pts_nil) (fun _ _ _ _ _ => (pe_op q_add (pv 4) (pe_callD Dd hr pass0 (pa_cons (pv 0) (pa_cons pe_int pa_nil)))))) rfl))))
        (pss_one (ps_ret (pe_frzV (pv 2)))))), ?_⟩
    walk_at "qq"
    rename_i dd H1 n1 w1 hd1 t1 nm1 l2 G2 H2 n2 w2 s2 h2 t2 l3 G3 H3 n3 w3 s3 h3 t3
    have nep : dd ≠ p := nm1 p (by simp)
    have d00 := w0.n0 n1
    have hd3 := t3 _ _ (t2 _ _ hd1)
    have hc3 := (hc.same s2).same s3
    have P3 := ((hp.same t1).same t2).same t3
    have emore : ts.map V.str ++ [V.str (Str.ofString "more")] = (ts ++ [Str.ofString "more"]).map V.str := by rw [List.map_append]; rfl
    rw [emore] at h3
    have hok2 : ∀ z ∈ ts ++ [Str.ofString "more"], nmOk z = true := fun z hz => by
      rcases List.mem_append.mp hz with hz | hz
      · exact hok z hz
      · rw [List.mem_singleton.mp hz]
        decide +kernel
    have lw : (ts ++ [Str.ofString "more"]).length ≤ 4 := by rw [List.length_append, List.length_singleton]; omega
    have hin : ∀ z ∈ ts, z ∈ ts ++ [Str.ofString "more"] := fun z hz => List.mem_append_left _ hz
    generalize ts ++ [Str.ofString "more"] = ws at *
    refine for_go (walk_list (xs := ws.map V.str)) (fun i σ Hx => ∃ (Gi : Hp) (kvs : List (Key × V)) (bt : List (Str × List Int)) (y3 y4 y5 : Option V), σ = [some (.ref p), some (.ref l), some (.ref dd), y3, y4, y5] ∧ Wd ⟨H, G, [p], []⟩ Gi Hx [dd, p] ∧ Same G3 Gi ∧ PenAt p c (n + 20 * i) Hx ∧
      Hx dd = some (.dK kvs) ∧ LsAt Gi kvs bt ∧ (∀ q ∈ bt, nmOk q.1 = true) ∧ (∀ q ∈ bt, q.2.length ≤ 4 ∧ ∀ k ∈ q.2, 1 ≤ k ∧ k ≤ 1000000000000000000000000000000) ∧ (bt.map (·.1)).Nodup ∧ bt.length ≤ i ∧ ∀ z ∈ ws.take i, z ∈ bt.map (·.1))
      ⟨G3, [], [], _, _, _, rfl, w3, Same.refl _, P3.more (by omega), hd3, .nil, (fun q h => by cases h), (fun q h => by cases h), List.nodup_nil, Nat.le_refl _, fun z hz => by simp at hz⟩ (fun i σ Hx _ ⟨Gi, _, _, _, _, _, _, wi, si, _⟩ => wd_sqL wi (SqL.of (si _ _ h3))) ?_ ?_
    · rintro i xi σ Ha Hb hi ⟨Gi, kvs, bt, y3, y4, y5, rfl, wi, si, Pi, hdi, ls, o1, o2, o3, o4, o5⟩ ⟨rfl, hx⟩
      obtain ⟨z, hz, rfl⟩ : ∃ z, ws[i]? = some z ∧ xi = .str z := by
        rw [List.getElem?_map] at hx
        cases e : ws[i]? with
        | none => rw [e] at hx; cases hx
        | some b => rw [e] at hx; exact ⟨b, rfl, (Option.some.inj hx).symm⟩
      have hi4 : i < 4 := Nat.lt_of_lt_of_le (List.getElem?_eq_some_iff.mp hz).1 lw
      have hci := hc3.same si
      walk_at "qq"
      rename_i l5 G5 H5 n5 w5 s5 h5 t5
      have hd5 := t5 _ _ hdi
      refine u_pick w5 (by simp) (hci.same s5) (Pi.same t5) (by omega) (.inl ⟨l5, rfl, .inl (SqL.of h5)⟩) (by simp) (Nat.le_of_ble_eq_true rfl) fun v6 G6 H6 w6 s6 b6 P6 m6 => ?_
      have hd6 := b6 _ _ nep hd5
      obtain ⟨bs, rfl, bs0, bs1⟩ : ∃ b : Int, v6 = .int b ∧ 1 ≤ b ∧ b ≤ 999999999999999999999999999996 := by
        simp only [List.mem_cons, List.not_mem_nil, or_false] at m6
        rcases m6 with rfl | rfl | rfl | rfl | rfl
        · exact ⟨_, rfl, by decide, by decide⟩
        · exact ⟨_, rfl, by decide, by decide⟩
        · exact ⟨_, rfl, by decide, by decide⟩
        · exact ⟨_, rfl, by decide, by decide⟩
        · exact ⟨_, rfl, by omega, by omega⟩
      clear m6
      have hc6 := (hci.same s5).same s6
      walk_at "qq"
      rename_i l7 G7 H7 n7 w7 s7 h7 t7
      have hd7 := t7 _ _ hd6
      refine u_pick w7 (by simp) (hc6.same s7) (P6.same t7) (by omega) (.inl ⟨l7, rfl, .inl (SqL.of h7)⟩) (by simp) (Nat.le_of_ble_eq_true rfl) fun v8 G8 H8 w8 s8 b8 P8 m8 => ?_
      have hd8 := b8 _ _ nep hd7
      obtain ⟨m, rfl, m0, m1⟩ : ∃ b : Int, v8 = .int b ∧ 0 ≤ b ∧ b ≤ 4 := by
        simp only [List.mem_cons, List.not_mem_nil, or_false] at m8
        rcases m8 with rfl | rfl | rfl | rfl | rfl <;> exact ⟨_, rfl, by decide, by decide⟩
      clear m8
      have hc8 := (hc6.same s7).same s8
      walk_at "qq"
      refine lc_go w8 walk_range (fun j acc Gy Hy => ∃ ks : List Int, acc = ks.map V.int ∧ ks.length = j ∧ (∀ k ∈ ks, 1 ≤ k ∧ k ≤ 1000000000000000000000000000000) ∧ PenAt p c (n + 20 * i + 2 + j) Hy ∧ Hy dd = some (.dK kvs)) (fun Dd H' _ s' _ => ⟨[], rfl, rfl, (fun k h => by cases h), (P8.same s').more (by omega), s' _ _ hd8⟩) (fun _ _ _ _ _ _ _ => trivial) ?_ ?_
      · rintro De j acc G9 H9 x9 H10 hj hl9 w9 s9 hDe nm9 ⟨ks, rfl, hlen, hks, P9, hd9⟩ ⟨rfl, hx9⟩
        have hne1 : De ≠ p := nm9 p (by simp)
        have hne2 : De ≠ dd := nm9 dd (by simp)
        have hj4 : j < 4 := by
          have h : j < m.toNat := hj
          omega
        have hj6 : j ≤ 1000000 := by omega
        walk_at "qq"
        refine u_draw w9 (by simp) (hc8.same s9) P9 (by omega) (by decide) (by decide) fun d9 G10 H10 w10 s10 b10 P10 d90 d91 => ?_
        have hD10 := b10 _ _ hne1 hDe
        have hd10 := b10 _ _ nep hd9
        walk_at "qq"
        rename_i H11 w11 b11
        refine ⟨ks ++ [bs + d9], by rw [List.map_append]; rfl, by simp [hlen], fun k hk => ?_, (P10.but b11 hne1.symm).more (by omega), b11 _ _ hne2.symm hd10⟩
        rcases List.mem_append.mp hk with hk | hk
        · exact hks k hk
        · rw [List.mem_singleton.mp hk]; omega
      · rintro l9 acc G9 G10 H10 hl9 w10 s9 s10 h10 ⟨ks, rfl, hlen, hks, P10, hd10⟩
        have lks : ks.length ≤ 4 := by
          have h : ks.length = m.toNat := hlen
          omega
        have P10 := P10.more (m := n + 20 * i + 12) (by have h : ks.length = m.toNat := hlen; omega)
        have lk : kvs.length ≤ 1000 := by rw [ls.len]; omega
        walk_at "qq"
        refine r_dputS w10 (by simp) hd10 (Nat.lt_of_le_of_lt lk (by decide)) fun H11 w11 hd11 b11 => ?_
        walk_at "qq"
        have S10 := s5.trans (s6.trans (s7.trans (s8.trans s9)))
        refine ⟨G10, _, putB bt z ks, _, _, _, rfl, w11, si.trans S10, (P10.but b11 nep.symm).more (by omega), hd11, (ls.same S10).put h10, fun q hq => ?_, fun q hq => ?_, putB_nd o3, Nat.le_trans putB_len (by omega), fun y hy => ?_⟩
        · rcases putB_mem hq with hq | rfl
          · exact o1 q hq
          · exact hok2 z (List.mem_of_getElem? hz)
        · rcases putB_mem hq with hq | rfl
          · exact o2 q hq
          · exact ⟨lks, hks⟩
        · rw [List.take_add_one, hz] at hy
          rcases List.mem_append.mp hy with hy | hy
          · exact putB_old (o5 y hy)
          · rw [List.mem_singleton.mp hy]
            exact putB_new
    · rintro σ Hb ⟨Gi, kvs, bt, y3, y4, y5, rfl, wi, si, Pi, hdi, ls, o1, o2, o3, o4, o5⟩
      rw [List.length_map] at o4 o5 Pi
      rw [List.take_length] at o5
      walk_at "qq"
      refine r_frzD wi d00 hdi fun od G4 H4 w4 s4 b4 h4 => ?_
      exact retP_of k w4 ((Pi.but b4 nep.symm).more (by omega)) ⟨dd, bt, rfl, ⟨⟨od, kvs, h4, ls.same s4⟩, o1, fun q hq => ⟨by have := (o2 q hq).1; omega, (o2 q hq).2⟩, o3, by omega⟩, fun q hq => (o2 q hq).1, fun y hy => o5 y (hin y hy)⟩
abbrev nLasts13 : List Str := ["_law_begun", "_law_tool", "_law_firsts", "_law_first"]
theorem scLasts13 : FnScope nLasts13 ["_law_begun", "_law_tool"] (defScope sLasts13) := ⟨rfl, rfl, rfl, by decide +kernel, rfl, by decide +kernel, by decide +kernel⟩
theorem ok_lasts13 {f : Addr} {fd : FuncData} (F : FnP K "_law_lasts" "_law_lasts" sLasts13 [] f fd) (T : Bi mg) : FnOk P w K mg base CX0 1 f fd ["_law_begun", "_law_tool"] spLasts13 := by
  refine fnP_ok F scLasts13 (fun vs H Q E h => ?_) (fun cdv A outer s H vs Q E hr h => ?_)
  · obtain ⟨G, d, u, bt, rfl, _⟩ := h
    rfl
  · obtain ⟨G, d, u, bt, rfl, sG, hb, hu, k⟩ := h
    have hu64 := hr.units
    have hu1 : (A.deeper (envOfC "_law_lasts" (defScope sLasts13) s.heap.objs.size f cdv)).units + 1 < cLine := by omega
    have e30 : (10 : Int) ^ Int.toNat 30 = 1000000000000000000000000000000 := by decide
    obtain ⟨od, kvs, hd, ls⟩ := hb.ex
    obtain ⟨ns, hns⟩ := nsOf_in hu
    obtain ⟨ra, hv, hra⟩ : ∃ ra, valV kvs (.inr u) = some (.ref ra) ∧ G ra = some (.lst (ns.map V.int)) := by
      rcases ls.val u with ⟨e, _⟩ | ⟨ra, ns', e1, e2, e3⟩
      · rw [hns] at e; cases e
      · rw [hns] at e1
        cases e1
        exact ⟨ra, e2, e3⟩
    have lns := (hb.ok.ks _ (nsOf_mem hns)).1
    have lns : ns.length ≤ 6 := lns
    have bns := (hb.ok.ks _ (nsOf_mem hns)).2
    have bns : ∀ k ∈ ns, 1 ≤ k ∧ k ≤ 1000000000000000000000000000000 := bns
    refine ⟨_, (pss_cons (ps_set (i := 2) scLasts13.nd rfl (Or.inl rfl) (pe_callB (show CallR _ (.builtin "sorted") (rSortedSet w) from cr_sortedSet rfl) (by rfl) T.sorted (by decide +kernel) (pa_cons (pe_callTy (show CallR _ (.type "set") (rSetL K w) from cr_setL rfl) (by rfl) T.set (by decide +kernel) (pa_cons (pe_dget2 hu1 (pv 0) (pv 1) (pe_lst pa_nil) ⟨rfl, rfl, rfl, rfl⟩) pa_nil)) pa_nil)))
        (pss_one (ps_ret (pe_op q_add (pe_lc (own := [("_law_first", 3)]) (g := gName 3) (tt := tYes) rfl scLasts13.nd (pi_list (pv 2)) (blkOk_by (own := [("_law_first", 3)]) (N := nLasts13) (sc := defScope sLasts13) (by decide +kernel)) (fun _ _ _ _ _ => (pg_name (i := 3) scLasts13.nd rfl (by first | exact Or.inl rfl | exact Or.inr rfl))) (fun _ _ _ _ _ => pts_nil) (fun _ _ _ _ _ => (pe_op q_sub (pv 3) pe_int))) (pe_lst (pa_cons (pe_op q_pow pe_int pe_int) pa_nil)))))), ?_⟩
    have w0 := wd_pure sG
    have hd0 := w0.le _ _ hd
    walk_at "qq"
    refine ⟨d, rfl, .inl ⟨kvs, .inr ⟨od, hd0⟩⟩, ?_⟩
    walk_at "qq"
    rename_i l1 G1 H1 n1 w1 s1 h1 t1
    refine ⟨some (.ref ra), DGet.frz (k := .inr u) (w1.le _ _ (s1 _ _ hd)) hv, ?_⟩
    walk_at "qq"
    refine r_setOfL (SqL.of (w1.le _ _ (s1 _ _ hra))) (by omega) fun nn hnn sa hsa => ?_
    have w2 := wd_lay (o := SetO w sa (fun j => decide (j ∈ ns)) nn) w1 hsa setO_nt
    have s2 : Same G1 (upd G1 sa (SetO w sa (fun j => decide (j ∈ ns)) nn)) := same_upd (w1.g hsa)
    have h2 : upd H1 sa (SetO w sa (fun j => decide (j ∈ ns)) nn) sa = some (SetO w sa (fun j => decide (j ∈ ns)) nn) := upd_same
    generalize upd G1 sa (SetO w sa (fun j => decide (j ∈ ns)) nn) = G2 at *
    generalize upd H1 sa (SetO w sa (fun j => decide (j ∈ ns)) nn) = H2 at *
    walk_at "qq"
    refine r_sortSet h2 (by omega) fun ms hms hmem hml => ?_
    refine r_lay w2 (Nat.zero_le _) (by intro ps z; cases z) fun l3 G3 H3 n3 w3 s3 h3 t3 => ?_
    walk_at "qq"
    refine lc_go w3 (walk_list (xs := ms.map V.int)) (fun j acc _ _ => acc = ((ms.take j).map (· - 1)).map V.int) (fun _ _ _ _ _ => rfl) (fun j acc Gy Hy wy sy _ => wd_sqL wy (SqL.of (sy _ _ h3))) ?_ ?_
    · rintro Dd j acc G4 H4 x' H5 hj hl4 w4 s4 hDd nm rfl ⟨rfl, hx'⟩
      obtain ⟨b, hb', rfl⟩ : ∃ b, ms[j]? = some b ∧ x' = .int b := by
        rw [List.getElem?_map] at hx'
        cases e : ms[j]? with
        | none => rw [e] at hx'; cases hx'
        | some b => rw [e] at hx'; exact ⟨b, rfl, (Option.some.inj hx').symm⟩
      have hj6 : j ≤ 1000000 := by
        have : j < ms.length := (List.getElem?_eq_some_iff.mp hb').1
        omega
      walk_at "qq"
      rw [List.take_add_one, hb', List.map_append, List.map_append]
      rfl
    · rintro l4 acc G4 G5 H5 hl4 w5 s4 s5 h5 rfl
      rw [List.length_map, List.take_length] at h5
      walk_at "qq"
      rename_i l6 G6 H6 n6 w6 s6 h6 t6 l7 G7 H7 n7 w7 s7 h7 t7
      refine ret_of k w7 ⟨l7, ms.map (· - 1) ++ [1000000000000000000000000000000], rfl, ?_, ns, ms, hns, rfl, hms, fun k => by rw [hmem k, decide_eq_true_iff]⟩
      rw [h7, List.map_append]
      rfl
abbrev nTold13 : List Str := ["_law_pairs_here", "_law_found", "_law_one", "_law_other", "_law_left", "_law_pair"]
theorem scTold13 : FnScope nTold13 ["_law_pairs_here"] (defScope sTold13) := ⟨rfl, rfl, rfl, by decide +kernel, rfl, by decide +kernel, by decide +kernel⟩
theorem ok_told13 {f : Addr} {fd : FuncData} (F : FnP K "_law_told" "_law_told" sTold13 [] f fd) (T : Bi mg) (SC : SyC K C) (hSay : Gc mg "Saying" (.ref C)) : FnOk P w K mg base CX0 1 f fd ["_law_pairs_here"] (spTold13 C) := by
  refine fnP_ok F scTold13 (fun vs H Q E h => ?_) (fun cdv A outer s H vs Q E hr h => ?_)
  · obtain ⟨G, q, ps, ts, rfl, _⟩ := h
    rfl
  · obtain ⟨G, q, ps, ts, rfl, sG, hq, htw, hl, k⟩ := h
    have hu64 := hr.units
    refine ⟨_, (pss_cons (ps_if (pt_not (pt_val (pe_callB call_isi (by rfl) T.isinstance (by decide +kernel) (pa_cons (pv 0) (pa_cons (pe_bltn (v := .ty "tuple") (by rfl) T.tuple (by decide +kernel) rfl) pa_nil))))) (pss_one (ps_ret pe_non)) pss_nil)
        (pss_cons (ps_if (pt_cmpR (q_ne hu64) (pe_lc (own := [("_law_pair", 5)]) (g := gName 5) rfl scTold13.nd (pi_tup (pv 0)) (blkOk_by (own := [("_law_pair", 5)]) (N := nTold13) (sc := defScope sTold13) (by decide +kernel)) (fun _ _ _ _ _ => (pg_name (i := 5) scTold13.nd rfl (by first | exact Or.inl rfl | exact Or.inr rfl))) (fun _ _ _ _ _ => (pts_one (PW.pt (pw_or (pt_not (pt_val (pe_callB (show CallR _ (.builtin "isinstance") (rIsi K) from call_isi) (by rfl) T.isinstance (by decide +kernel) (pa_cons (pv 5) (pa_cons (pe_bltn (v := .ty "tuple") (by rfl) T.tuple (by decide +kernel) rfl) pa_nil))))) (pw_or1 (pt_cmpR (show OpR _ (compareOp .NotEq) (rNeX K) from q_ne hu64) (pe_callB (show CallR _ (.builtin "len") (rLenX K) from q_len) (by rfl) T.len (by decide +kernel) (pa_cons (pv 5) pa_nil)) pe_int (nomark _))))))) (fun _ _ _ _ _ => (pv 5))) (pe_lstM pa_nil) (nomark _)) (pss_one (ps_ret pe_non)) pss_nil)
        (pss_cons (ps_set (i := 1) scTold13.nd rfl (Or.inl rfl) (pe_lstM pa_nil))
        (pss_cons (ps_for PassesOwn.never rfl (pi_tup (pv 0)) (pg_tup rfl (pgs_cons (pg_name (i := 2) scTold13.nd rfl (Or.inl rfl)) (pgs_cons (pg_name (i := 3) scTold13.nd rfl (Or.inl rfl)) pgs_nil))) (pss_cons (ps_if (PW.pt (pw_or (pt_not (pt_val (pe_callB call_isi (by rfl) T.isinstance (by decide +kernel) (pa_cons (pv 2) (pa_cons (pe_gc hSay) pa_nil))))) (pw_or1 (pt_not (pt_val (pe_callB call_isi (by rfl) T.isinstance (by decide +kernel) (pa_cons (pv 3) (pa_cons (pe_gc hSay) pa_nil)))))))) (pss_one (ps_ret pe_non)) pss_nil)
        (pss_cons (ps_set (i := 4) scTold13.nd rfl (Or.inl rfl) (pe_tup (pa_cons (pe_fld (pv 2) rfl) (pa_cons (pe_fld (pv 2) rfl) (pa_cons (pe_fld (pv 2) rfl) pa_nil)))))
        (pss_one (ps_expr (pe_bm PySem.F.plainAttrs_list PySem.F.slot_list_append PySem.F.type_list_append mt_append (pv 1) (pa_cons (pe_tup (pa_cons (pv 4) (pa_cons (pe_tup (pa_cons (pe_fld (pv 3) rfl) (pa_cons (pe_fld (pv 3) rfl) (pa_cons (pe_fld (pv 3) rfl) pa_nil)))) pa_nil))) pa_nil)))))))
        (pss_one (ps_ret (pv 1))))))), ?_⟩
    have w0 := wd_pure sG
    walk_at "qq"
    have isiT : ∀ {Ga Ha : Hp} {y : Addr} {xs : List V} {Qv : VK}, Same Ga Ha → Ga y = some (.tup xs) → Qv (.bl true) Ha → rIsi K [.ref y, .ty "tuple"] Ha Qv := fun sg hy q => r_isi (same_ty sg (kd_tup (K := K) hy).ty) (kit_ty (by decide +kernel)) q
    refine isiT w0.le hq ⟨_, rfl, ?_⟩
    refine iteF ?_
    walk_at "qq"
    refine lc_go w0 (walk_tup (xs := ps.map V.ref)) (fun j acc _ _ => acc = []) (fun _ _ _ _ _ => rfl) (fun j acc Gy Hy wy sy _ => wd_sqT wy (SqT.of (sy _ _ hq))) ?_ ?_
    · rintro Dd j acc G1 H1 x' H2 hj hl1 w1 s1 hDd nm rfl ⟨rfl, hx'⟩
      obtain ⟨y, hy, rfl⟩ : ∃ y, ps[j]? = some y ∧ x' = .ref y := by
        rw [List.getElem?_map] at hx'
        cases e : ps[j]? with
        | none => rw [e] at hx'; cases hx'
        | some b => rw [e] at hx'; exact ⟨b, rfl, (Option.some.inj hx').symm⟩
      obtain ⟨t, ht⟩ : ∃ t, ts[j]? = some t := ⟨_, List.getElem?_eq_getElem (by rw [← htw.1]; exact (List.getElem?_eq_some_iff.mp hy).1)⟩
      obtain ⟨a, b, h1, h2, h3⟩ := htw.2 j y t hy ht
      have h1' := s1 _ _ h1
      walk_at "qq"
      refine isiT w1.le h1' ⟨_, rfl, ?_⟩
      refine iteF ?_
      walk_at "qq"
      exact ⟨[], G1, w1, s1, hDd, Nat.zero_le _, rfl⟩
    · rintro l1 acc G1 G2 H2 hl1 w2 s1 s12 h2 rfl
      walk_at "qq"
      rename_i q3 H3 n3 w3 h3 t3 nm3
      rw [eqv_nil]
      refine iteF ?_
      have hq2 := s1 _ _ hq
      walk_at "qq"
      rename_i fo H4 n4 w4 h4 t4 nm4
      have f00 := w3.n0 n4
      have cc := SC.c
      have n1 := SC.n1
      have n2 := SC.n2
      have n3 := SC.n3
      refine for_go (walk_tup (xs := ps.map V.ref)) (fun j σ Hx => ∃ (Gi : Hp) (qs : List Addr) (x2 x3 x4 x5 : Option V), σ = [some (.ref q), some (.ref fo), x2, x3, x4, x5] ∧ Wd ⟨H, G, [], []⟩ Gi Hx [fo, q3] ∧ Same G2 Gi ∧ Hx fo = some (.lst (qs.map V.ref)) ∧ qs.length ≤ j ∧ DuosAt Gi qs (ts.take j))
        ⟨G2, [], _, _, _, _, rfl, w4, Same.refl _, h4, Nat.le_refl _, .nil⟩ (fun j σ Hx _ ⟨Gi, _, _, _, _, _, _, wi, si, _⟩ => wd_sqT wi (SqT.of (si _ _ (s1 _ _ hq)))) ?_ ?_
      · rintro j xj σ Ha Hb hj ⟨Gi, qs, x2, x3, x4, x5, rfl, wi, si, hfo, lqs, du⟩ ⟨rfl, hx'⟩
        obtain ⟨y, hy, rfl⟩ : ∃ y, ps[j]? = some y ∧ xj = .ref y := by
          rw [List.getElem?_map] at hx'
          cases e : ps[j]? with
          | none => rw [e] at hx'; cases hx'
          | some b => rw [e] at hx'; exact ⟨b, rfl, (Option.some.inj hx').symm⟩
        have hj60 : j < 60 := by
          have := (List.getElem?_eq_some_iff.mp hy).1
          have := htw.1
          omega
        obtain ⟨t, ht⟩ : ∃ t, ts[j]? = some t := ⟨_, List.getElem?_eq_getElem (by rw [← htw.1]; exact (List.getElem?_eq_some_iff.mp hy).1)⟩
        obtain ⟨a, b, h1, sa, sb⟩ := htw.2 j y t hy ht
        have Si := s1.trans si
        have sa := sa.same Si
        have sb := sb.same Si
        obtain ⟨ra, dxa, fca, hia, _⟩ := id sa
        obtain ⟨rb, dxb, fcb, hib, _⟩ := id sb
        refine r_gTup (SqT.of (wi.le _ _ (Si _ _ h1))) rfl ?_
        walk_at "qq"
        refine r_isiC (same_ty wi.le (SC.ty sa)) SC.me ?_
        walk_at "qq"
        refine r_isiC (same_ty wi.le (SC.ty sb)) SC.me ⟨_, rfl, ?_⟩
        refine iteF ?_
        walk_at "qq"
        rename_i l5 G5 H5 n5 w5 s5 h5 t5 l6 G6 H6 n6 w6 s6 h6 t6 l7 G7 H7 n7 w7 s7 h7 t7 H8 w8 h8 b8
        refine ⟨G7, qs ++ [l7], _, _, _, _, rfl, w8, si.trans (s5.trans (s6.trans s7)), by rw [h8, List.map_append]; rfl, by simp; omega, ?_⟩
        rw [take_snoc ht]
        exact (du.same (s5.trans (s6.trans s7))).snoc ⟨l5, l6, h7, s7 _ _ (s6 _ _ h5), s7 _ _ h6⟩
      · rintro σ Ha ⟨Gi, qs, x2, x3, x4, x5, rfl, wi, si, hfo, lqs, du⟩
        obtain ⟨w5, s5⟩ := wd_freeze wi hfo f00
        rw [List.length_map, htw.1, List.take_length] at du
        walk_at "qq"
        exact ret_of k w5 ⟨fo, qs, rfl, upd_same, du.same s5⟩
abbrev nPairsD : List Str := ["_law_row", "_law_begun", "_law_kind", "_law_one", "_law_some", "_law_two", "_law_last", "_law_other"]
theorem scPairsD : FnScope nPairsD ["_law_row", "_law_begun"] (defScope sPairsD) := ⟨rfl, rfl, rfl, by decide +kernel, rfl, by decide +kernel, by decide +kernel⟩
theorem ok_pairsD {f : Addr} {fd : FuncData} (F : FnP K "_law_pairs" "_law_pairs" sPairsD [] f fd) (Dls : Df P w K mg base CX0 1 "_law_lasts" [] spLasts13) : FnOk P w K mg base CX0 2 f fd ["_law_row", "_law_begun"] spPairsD := by
  refine fnP_ok F scPairsD (fun vs H Q E h => ?_) (fun cdv A outer s H vs Q E hr h => ?_)
  · obtain ⟨G, t, d, i, as, bt, rfl, _⟩ := h
    rfl
  · obtain ⟨G, t, d, i, as, bt, rfl, sG, ht, hb, hu, k⟩ := h
    have hu64 := hr.units
    have hu1 : (A.deeper (envOfC "_law_pairs" (defScope sPairsD) s.heap.objs.size f cdv)).units + 1 < cLine := by omega
    refine ⟨_, (pss_cons (ps_set (i := 2) scPairsD.nd rfl (Or.inl rfl) (pe_ix q_ix (pv 0) pe_int (fun _ _ => rfl)))
        (pss_cons (ps_if (pt_cmpR (q_eq hu64) (pv 2) pe_str (nomark _)) (pss_one (ps_ret (pe_lst pa_nil))) pss_nil)
        (pss_cons (ps_if (pt_cmpR (q_eq hu64) (pv 2) pe_str (nomark _)) (pss_one (ps_ret (pe_lc (own := [("_law_last", 6)]) (g := gName 6) (tt := tYes) rfl scPairsD.nd (pi_list (pe_callD Dls hr pass0 (pa_cons (pv 1) (pa_cons (pe_ix q_ix (pv 0) pe_int (fun _ _ => rfl)) pa_nil)))) (blkOk_by (own := [("_law_last", 6)]) (N := nPairsD) (sc := defScope sPairsD) (by decide +kernel)) (fun _ _ _ _ _ => (pg_name (i := 6) scPairsD.nd rfl (by first | exact Or.inl rfl | exact Or.inr rfl))) (fun _ _ _ _ _ => pts_nil) (fun _ _ _ _ _ => (pe_tup (pa_cons (pe_tup (pa_cons (pe_ix (show IxR _ (rIx K) from q_ix) (pv 0) pe_int (fun _ _ => rfl)) (pa_cons (pv 6) (pa_cons pe_bl pa_nil)))) (pa_cons (pe_tup (pa_cons (pe_ix (show IxR _ (rIx K) from q_ix) (pv 0) pe_int (fun _ _ => rfl)) (pa_cons (pv 6) (pa_cons pe_bl pa_nil)))) pa_nil))))))) pss_nil)
        (pss_cons (ps_if (pt_cmpR (q_eq hu64) (pv 2) pe_str (nomark _)) (pss_cons (ps_set (i := 3) scPairsD.nd rfl (Or.inl rfl) (pe_tup (pa_cons (pe_ix q_ix (pv 0) pe_int (fun _ _ => rfl)) (pa_cons (pe_ix q_ix (pv 0) pe_int (fun _ _ => rfl)) (pa_cons (pe_not (pe_ix q_ix (pv 0) pe_int (fun _ _ => rfl))) pa_nil)))))
        (pss_one (ps_ret (pe_lst (pa_cons (pe_tup (pa_cons (pv 3) (pa_cons (pv 3) pa_nil))) pa_nil))))) pss_nil)
        (pss_cons (ps_if (pt_cmpR (q_eq hu64) (pv 2) pe_str (nomark _)) (pss_one (ps_ret (pe_lst (pa_cons (pe_tup (pa_cons (pe_tup (pa_cons (pe_ix q_ix (pv 0) pe_int (fun _ _ => rfl)) (pa_cons (pe_ix q_ix (pv 0) pe_int (fun _ _ => rfl)) (pa_cons pe_bl pa_nil)))) (pa_cons (pe_tup (pa_cons (pe_ix q_ix (pv 0) pe_int (fun _ _ => rfl)) (pa_cons (pe_ix q_ix (pv 0) pe_int (fun _ _ => rfl)) (pa_cons pe_bl pa_nil)))) pa_nil))) pa_nil)))) pss_nil)
        (pss_cons (ps_if (pt_cmpR op_in_seq (pv 2) (pe_tup (pa_cons pe_str (pa_cons pe_str pa_nil))) (by rfl)) (pss_one (ps_ret (pe_lst (pa_cons (pe_tup (pa_cons (pe_tup (pa_cons (pe_ix q_ix (pv 0) pe_int (fun _ _ => rfl)) (pa_cons (pe_ix q_ix (pv 0) pe_int (fun _ _ => rfl)) (pa_cons pe_bl pa_nil)))) (pa_cons (pe_tup (pa_cons (pe_ix q_ix (pv 0) pe_int (fun _ _ => rfl)) (pa_cons (pe_ix q_ix (pv 0) pe_int (fun _ _ => rfl)) (pa_cons (pe_cmpR (q_eq hu64) (pv 2) pe_str (nomark _)) pa_nil)))) pa_nil))) pa_nil)))) pss_nil)
        (pss_cons (ps_set (i := 4) scPairsD.nd rfl (Or.inl rfl) (pe_disp (pps_cons pe_str (pe_lst (pa_cons (pe_tup (pa_cons pe_bl (pa_cons pe_bl pa_nil))) (pa_cons (pe_tup (pa_cons pe_bl (pa_cons pe_bl pa_nil))) pa_nil))) (pps_cons pe_str (pe_lst (pa_cons (pe_tup (pa_cons pe_bl (pa_cons pe_bl pa_nil))) pa_nil)) (pps_cons pe_str (pe_lst (pa_cons (pe_tup (pa_cons pe_bl (pa_cons pe_bl pa_nil))) pa_nil)) pps_nil))) rfl rfl (by simp) (by decide)))
        (pss_cons (ps_set (i := 5) scPairsD.nd rfl (Or.inl rfl) (pe_dget2 hu1 (pv 4) (pv 2) (pe_lst (pa_cons (pe_tup (pa_cons pe_bl (pa_cons pe_bl pa_nil))) pa_nil)) ⟨rfl, rfl, rfl, rfl⟩))
        (pss_one (ps_ret (pe_lc (own := [("_law_other", 7), ("_law_one", 3)]) (g := gTup K 2 (gCons (gName 3) (gCons (gName 7) gNil))) (tt := tYes) rfl scPairsD.nd (pi_list (pv 5)) (blkOk_by (own := [("_law_other", 7), ("_law_one", 3)]) (N := nPairsD) (sc := defScope sPairsD) (by decide +kernel)) (fun _ _ _ _ _ => (pg_tup rfl (pgs_cons (pg_name (i := 3) scPairsD.nd rfl (by first | exact Or.inl rfl | exact Or.inr rfl)) (pgs_cons (pg_name (i := 7) scPairsD.nd rfl (by first | exact Or.inl rfl | exact Or.inr rfl)) pgs_nil)))) (fun _ _ _ _ _ => pts_nil) (fun _ _ _ _ _ => (pe_tup (pa_cons (pe_tup (pa_cons (pe_ix (show IxR _ (rIx K) from q_ix) (pv 0) pe_int (fun _ _ => rfl)) (pa_cons (pe_ix (show IxR _ (rIx K) from q_ix) (pv 0) pe_int (fun _ _ => rfl)) (pa_cons (pv 3) pa_nil)))) (pa_cons (pe_tup (pa_cons (pe_ix (show IxR _ (rIx K) from q_ix) (pv 0) pe_int (fun _ _ => rfl)) (pa_cons (pe_ix (show IxR _ (rIx K) from q_ix) (pv 0) pe_int (fun _ _ => rfl)) (pa_cons (pv 7) pa_nil)))) pa_nil))))))))))))))), ?_⟩
    have w0 := wd_pure sG
    obtain ⟨hi, gt, sg⟩ := id ht
    rcases (by omega : i = 0 ∨ i = 1 ∨ i = 2 ∨ i = 3 ∨ i = 4 ∨ i = 5 ∨ i = 6 ∨ i = 7 ∨ i = 8 ∨ i = 9) with rfl | rfl | rfl | rfl | rfl | rfl | rfl | rfl | rfl | rfl
    · obtain ⟨u, m, rfl, r1⟩ := sg_tm sg
      walk_at "qq"
      refine iteY (by first | rfl | decide +kernel) ?_
      walk_at "qq"
      rename_i l5 G5 H5 n5 w5 s5 h5 t5
      exact ret_of k w5 ⟨l5, [], [], rfl, h5, .nil, fun v e => by cases e⟩
    · obtain ⟨u, m, b, rfl, r1, r2⟩ := sg_tmt (by decide) sg
      walk_at "qq"
      refine iteN (by first | rfl | decide +kernel) ?_
      walk_at "qq"
      refine iteN (by first | rfl | decide +kernel) ?_
      walk_at "qq"
      refine iteN (by first | rfl | decide +kernel) ?_
      walk_at "qq"
      refine iteY (by first | rfl | decide +kernel) ?_
      walk_at "qq"
      rename_i l5 G5 H5 n5 w5 s5 h5 t5 l6 G6 H6 n6 w6 s6 h6 t6 l7 G7 H7 n7 w7 s7 h7 t7 l8 G8 H8 n8 w8 s8 h8 t8
      exact ret_of k w8 ⟨l8, [l7], [], rfl, h8, .cons ⟨l5, l6, s8 _ _ h7, s8 _ _ (s7 _ _ (s6 _ _ h5)), s8 _ _ (s7 _ _ h6)⟩ .nil, fun v e => by cases e⟩
    · obtain ⟨u, m, b, rfl, r1⟩ := sg_tms sg
      walk_at "qq"
      refine iteN (by first | rfl | decide +kernel) ?_
      walk_at "qq"
      refine iteN (by first | rfl | decide +kernel) ?_
      walk_at "qq"
      refine iteY (by first | rfl | decide +kernel) ?_
      walk_at "qq"
      rename_i l5 G5 H5 n5 w5 s5 h5 t5 l6 G6 H6 n6 w6 s6 h6 t6 l7 G7 H7 n7 w7 s7 h7 t7
      exact ret_of k w7 ⟨l7, [l6], [], rfl, h7, .cons ⟨l5, l5, s7 _ _ h6, s7 _ _ (s6 _ _ h5), s7 _ _ (s6 _ _ h5)⟩ .nil, fun v e => by cases e⟩
    · obtain ⟨u, rfl, r1⟩ := sg_t sg
      walk_at "qq"
      refine iteN (by first | rfl | decide +kernel) ?_
      walk_at "qq"
      refine iteY (by first | rfl | decide +kernel) ?_
      walk_at "qq"
      refine u_lasts13 w0 hb (hu u rfl) fun l5 ls G5 H5 w5 s5 t5 h5 hls => ?_
      have gt5 := s5 _ _ gt
      walk_at "qq"
      refine lc_go w5 (walk_list (xs := ls.map V.int)) (fun j acc Gy _ => ∃ ps : List Addr, acc = ps.map V.ref ∧ DuosAt Gy ps ((ls.take j).map fun l => ((u, l, false), (u, l, false)))) (fun _ _ _ _ _ => ⟨[], rfl, .nil⟩) (fun j acc Gy Hy wy sy _ => wd_sqL wy (SqL.of (sy _ _ h5))) ?_ ?_
      · rintro Dd j acc G6 H6 x' H7 hj hl6 w6 s6 hDd nm ⟨ps, rfl, du⟩ ⟨rfl, hx'⟩
        obtain ⟨b, hb', rfl⟩ : ∃ b, ls[j]? = some b ∧ x' = .int b := by
          rw [List.getElem?_map] at hx'
          cases e : ls[j]? with
          | none => rw [e] at hx'; cases hx'
          | some b => rw [e] at hx'; exact ⟨b, rfl, (Option.some.inj hx').symm⟩
        have hj6 : j ≤ 1000000 := by
          have h1 : j < ls.length := (List.getElem?_eq_some_iff.mp hb').1
          have := lasts_few hb.ok (hls)
          omega
        have gt6 := s6 _ _ gt5
        walk_at "qq"
        rename_i l8 G8 H8 n8 w8 s8 h8 t8 l9 G9 H9 n9 w9 s9 h9 t9 l10 G10 H10 n10 w10 s10 h10 t10 H11 w11 b11
        refine ⟨ps ++ [l10], by rw [List.map_append]; rfl, ?_⟩
        rw [List.take_add_one, hb', List.map_append]
        exact (du.same (s8.trans (s9.trans s10))).snoc ⟨l8, l9, h10, s10 _ _ (s9 _ _ h8), s10 _ _ h9⟩
      · rintro l6 acc G6 G7 H7 hl6 w7 s6 s67 h7 ⟨ps, rfl, du⟩
        rw [List.length_map, List.take_length] at du
        walk_at "qq"
        exact ret_of k w7 ⟨l6, ps, ls, rfl, h7, du.same s67, fun v e => by cases e; exact hls⟩
    · obtain ⟨u, m, b, rfl, r1, r2⟩ := sg_tmt (by decide) sg
      walk_at "qq"
      refine iteN (by first | rfl | decide +kernel) ?_
      walk_at "qq"
      refine iteN (by first | rfl | decide +kernel) ?_
      walk_at "qq"
      refine iteN (by first | rfl | decide +kernel) ?_
      walk_at "qq"
      refine iteN (by first | rfl | decide +kernel) ?_
      walk_at "qq"
      refine iteY (by first | rfl | decide +kernel) ?_
      walk_at "qq"
      rename_i l5 G5 H5 n5 w5 s5 h5 t5 l6 G6 H6 n6 w6 s6 h6 t6 l7 G7 H7 n7 w7 s7 h7 t7 l8 G8 H8 n8 w8 s8 h8 t8
      exact ret_of k w8 ⟨l8, [l7], [], rfl, h8, .cons ⟨l5, l6, s8 _ _ h7, s8 _ _ (s7 _ _ (s6 _ _ h5)), s8 _ _ (s7 _ _ h6)⟩ .nil, fun v e => by cases e⟩
    · obtain ⟨u, m, b, rfl, r1, r2⟩ := sg_tmt (by decide) sg
      walk_at "qq"
      refine iteN (by first | rfl | decide +kernel) ?_
      walk_at "qq"
      refine iteN (by first | rfl | decide +kernel) ?_
      walk_at "qq"
      refine iteN (by first | rfl | decide +kernel) ?_
      walk_at "qq"
      refine iteN (by first | rfl | decide +kernel) ?_
      walk_at "qq"
      refine iteY (by first | rfl | decide +kernel) ?_
      walk_at "qq"
      rename_i l5 G5 H5 n5 w5 s5 h5 t5 l6 G6 H6 n6 w6 s6 h6 t6 l7 G7 H7 n7 w7 s7 h7 t7 l8 G8 H8 n8 w8 s8 h8 t8
      exact ret_of k w8 ⟨l8, [l7], [], rfl, h8, .cons ⟨l5, l6, s8 _ _ h7, s8 _ _ (s7 _ _ (s6 _ _ h5)), s8 _ _ (s7 _ _ h6)⟩ .nil, fun v e => by cases e⟩
    · obtain ⟨x, m, y, l, rfl, r1, r2⟩ := sg_tmtm (by decide) (by decide) sg
      walk_at "qq"
      refine iteN (by first | rfl | decide +kernel) ?_
      walk_at "qq"
      refine iteN (by first | rfl | decide +kernel) ?_
      walk_at "qq"
      refine iteN (by first | rfl | decide +kernel) ?_
      walk_at "qq"
      refine iteN (by first | rfl | decide +kernel) ?_
      walk_at "qq"
      refine iteN (by first | rfl | decide +kernel) ?_
      walk_at "qq"
      rename_i l5 G5 H5 n5 w5 s5 h5 t5
      refine r_dispM w5 fun pd H6 w6 t6 h6 h06 d6 => pairs_cons ?_
      walk_at "qq"
      rename_i l7 G7 H7 n7 w7 s7 h7 t7 l8 G8 H8 n8 w8 s8 h8 t8 l9 G9 H9 n9 w9 s9 h9 t9
      refine pairs_cons ?_
      walk_at "qq"
      rename_i l10 G10 H10 n10 w10 s10 h10 t10 l11 G11 H11 n11 w11 s11 h11 t11
      refine pairs_cons ?_
      walk_at "qq"
      rename_i l12 G12 H12 n12 w12 s12 h12 t12 l13 G13 H13 n13 w13 s13 h13 t13
      refine pairs_nil ?_
      have hpd := t13 _ _ (t12 _ _ (t11 _ _ (t10 _ _ (t9 _ _ (t8 _ _ (t7 _ _ h6))))))
      refine r_dispK [(.inr (Str.ofString "agreed"), .ref l9), (.inr (Str.ofString "differed"), .ref l11), (.inr (Str.ofString "served"), .ref l13)] w13 h06 hpd (by show 3 ≤ 15; decide) fun G14 H14 w14 s14 b14 h14 => ?_
      walk_at "qq"
      refine ⟨pd, rfl, .inl ⟨_, .inl (w14.le _ _ h14)⟩, ?_⟩
      walk_at "qq"
      rename_i l15 G15 H15 n15 w15 s15 h15 t15 l16 G16 H16 n16 w16 s16 h16 t16
      refine ⟨(some (.ref l9)), dget_dk (k := .inr (kindN 6)) (w16.le _ _ (s16 _ _ (s15 _ _ h14))) (by first | rfl | decide +kernel), ?_⟩
      have gt16 := s16 _ _ (s15 _ _ (s14 _ _ (s13 _ _ (s12 _ _ (s11 _ _ (s10 _ _ (s9 _ _ (s8 _ _ (s7 _ _ (s5 _ _ gt))))))))))
      have hL : G16 l9 = some (.lst [.ref l7, .ref l8]) := (s16 _ _ (s15 _ _ (s14 _ _ (s13 _ _ (s12 _ _ (s11 _ _ (s10 _ _ h9)))))))
      have hB0 : G16 l7 = some (.tup [.bl true, .bl false]) := (s16 _ _ (s15 _ _ (s14 _ _ (s13 _ _ (s12 _ _ (s11 _ _ (s10 _ _ (s9 _ _ (s8 _ _ h7)))))))))
      have hB1 : G16 l8 = some (.tup [.bl false, .bl true]) := (s16 _ _ (s15 _ _ (s14 _ _ (s13 _ _ (s12 _ _ (s11 _ _ (s10 _ _ (s9 _ _ h8))))))))
      walk_at "qq"
      refine ⟨l9, rfl, ⟨_, SqL.of (w16.le _ _ hL)⟩, ?_⟩
      refine lc_go w16 (walk_list (xs := [V.ref l7, V.ref l8])) (fun j acc Gy _ => ∃ ps : List Addr, acc = ps.map V.ref ∧ DuosAt Gy ps ((rowPairs 6 [.str x, .int m, .str y, .int l] []).take j)) (fun _ _ _ _ _ => ⟨[], rfl, .nil⟩) (fun j acc Gy Hy wy sy _ => wd_sqL wy (SqL.of (sy _ _ hL))) ?_ ?_
      · rintro Dd j acc G17 H17 x' H18 hj hl17 w17 s17 hDd nm ⟨ps, rfl, du⟩ ⟨rfl, hx'⟩
        have hj2 : j < 2 := hj
        have gt17 := s17 _ _ gt16
        rcases (by omega : j = 0 ∨ j = 1) with rfl | rfl
        · cases hx'
          refine r_gTup (SqT.of (w17.le _ _ (s17 _ _ hB0))) rfl ?_
          walk_at "qq"
          rename_i l19 G19 H19 n19 w19 s19 h19 t19 l20 G20 H20 n20 w20 s20 h20 t20 l21 G21 H21 n21 w21 s21 h21 t21 H22 w22 b22
          refine ⟨ps ++ [l21], by rw [List.map_append]; rfl, ?_⟩
          exact (du.same (s19.trans (s20.trans s21))).snoc (t := (rowPairs 6 [.str x, .int m, .str y, .int l] []).getD 0 default) ⟨l19, l20, h21, s21 _ _ (s20 _ _ h19), s21 _ _ h20⟩
        · cases hx'
          refine r_gTup (SqT.of (w17.le _ _ (s17 _ _ hB1))) rfl ?_
          walk_at "qq"
          rename_i l19 G19 H19 n19 w19 s19 h19 t19 l20 G20 H20 n20 w20 s20 h20 t20 l21 G21 H21 n21 w21 s21 h21 t21 H22 w22 b22
          refine ⟨ps ++ [l21], by rw [List.map_append]; rfl, ?_⟩
          exact (du.same (s19.trans (s20.trans s21))).snoc (t := (rowPairs 6 [.str x, .int m, .str y, .int l] []).getD 1 default) ⟨l19, l20, h21, s21 _ _ (s20 _ _ h19), s21 _ _ h20⟩
      · rintro l17 acc G17 G18 H18 hl17 w18 s17 s1718 h18 ⟨ps, rfl, du⟩
        walk_at "qq"
        exact ret_of k w18 ⟨l17, ps, [], rfl, h18, du.same s1718, fun v e => by cases e⟩
    · obtain ⟨x, m, y, l, rfl, r1, r2⟩ := sg_tmtm (by decide) (by decide) sg
      walk_at "qq"
      refine iteN (by first | rfl | decide +kernel) ?_
      walk_at "qq"
      refine iteN (by first | rfl | decide +kernel) ?_
      walk_at "qq"
      refine iteN (by first | rfl | decide +kernel) ?_
      walk_at "qq"
      refine iteN (by first | rfl | decide +kernel) ?_
      walk_at "qq"
      refine iteN (by first | rfl | decide +kernel) ?_
      walk_at "qq"
      rename_i l5 G5 H5 n5 w5 s5 h5 t5
      refine r_dispM w5 fun pd H6 w6 t6 h6 h06 d6 => pairs_cons ?_
      walk_at "qq"
      rename_i l7 G7 H7 n7 w7 s7 h7 t7 l8 G8 H8 n8 w8 s8 h8 t8 l9 G9 H9 n9 w9 s9 h9 t9
      refine pairs_cons ?_
      walk_at "qq"
      rename_i l10 G10 H10 n10 w10 s10 h10 t10 l11 G11 H11 n11 w11 s11 h11 t11
      refine pairs_cons ?_
      walk_at "qq"
      rename_i l12 G12 H12 n12 w12 s12 h12 t12 l13 G13 H13 n13 w13 s13 h13 t13
      refine pairs_nil ?_
      have hpd := t13 _ _ (t12 _ _ (t11 _ _ (t10 _ _ (t9 _ _ (t8 _ _ (t7 _ _ h6))))))
      refine r_dispK [(.inr (Str.ofString "agreed"), .ref l9), (.inr (Str.ofString "differed"), .ref l11), (.inr (Str.ofString "served"), .ref l13)] w13 h06 hpd (by show 3 ≤ 15; decide) fun G14 H14 w14 s14 b14 h14 => ?_
      walk_at "qq"
      refine ⟨pd, rfl, .inl ⟨_, .inl (w14.le _ _ h14)⟩, ?_⟩
      walk_at "qq"
      rename_i l15 G15 H15 n15 w15 s15 h15 t15 l16 G16 H16 n16 w16 s16 h16 t16
      refine ⟨(some (.ref l11)), dget_dk (k := .inr (kindN 7)) (w16.le _ _ (s16 _ _ (s15 _ _ h14))) (by first | rfl | decide +kernel), ?_⟩
      have gt16 := s16 _ _ (s15 _ _ (s14 _ _ (s13 _ _ (s12 _ _ (s11 _ _ (s10 _ _ (s9 _ _ (s8 _ _ (s7 _ _ (s5 _ _ gt))))))))))
      have hL : G16 l11 = some (.lst [.ref l10]) := (s16 _ _ (s15 _ _ (s14 _ _ (s13 _ _ (s12 _ _ h11)))))
      have hB0 : G16 l10 = some (.tup [.bl true, .bl true]) := (s16 _ _ (s15 _ _ (s14 _ _ (s13 _ _ (s12 _ _ (s11 _ _ h10))))))
      walk_at "qq"
      refine ⟨l11, rfl, ⟨_, SqL.of (w16.le _ _ hL)⟩, ?_⟩
      refine lc_go w16 (walk_list (xs := [V.ref l10])) (fun j acc Gy _ => ∃ ps : List Addr, acc = ps.map V.ref ∧ DuosAt Gy ps ((rowPairs 7 [.str x, .int m, .str y, .int l] []).take j)) (fun _ _ _ _ _ => ⟨[], rfl, .nil⟩) (fun j acc Gy Hy wy sy _ => wd_sqL wy (SqL.of (sy _ _ hL))) ?_ ?_
      · rintro Dd j acc G17 H17 x' H18 hj hl17 w17 s17 hDd nm ⟨ps, rfl, du⟩ ⟨rfl, hx'⟩
        have hj2 : j < 1 := hj
        have gt17 := s17 _ _ gt16
        rcases (by omega : j = 0) with rfl
        · cases hx'
          refine r_gTup (SqT.of (w17.le _ _ (s17 _ _ hB0))) rfl ?_
          walk_at "qq"
          rename_i l19 G19 H19 n19 w19 s19 h19 t19 l20 G20 H20 n20 w20 s20 h20 t20 l21 G21 H21 n21 w21 s21 h21 t21 H22 w22 b22
          refine ⟨ps ++ [l21], by rw [List.map_append]; rfl, ?_⟩
          exact (du.same (s19.trans (s20.trans s21))).snoc (t := (rowPairs 7 [.str x, .int m, .str y, .int l] []).getD 0 default) ⟨l19, l20, h21, s21 _ _ (s20 _ _ h19), s21 _ _ h20⟩
      · rintro l17 acc G17 G18 H18 hl17 w18 s17 s1718 h18 ⟨ps, rfl, du⟩
        walk_at "qq"
        exact ret_of k w18 ⟨l17, ps, [], rfl, h18, du.same s1718, fun v e => by cases e⟩
    · obtain ⟨x, m, y, l, rfl, r1, r2⟩ := sg_tmtm (by decide) (by decide) sg
      walk_at "qq"
      refine iteN (by first | rfl | decide +kernel) ?_
      walk_at "qq"
      refine iteN (by first | rfl | decide +kernel) ?_
      walk_at "qq"
      refine iteN (by first | rfl | decide +kernel) ?_
      walk_at "qq"
      refine iteN (by first | rfl | decide +kernel) ?_
      walk_at "qq"
      refine iteN (by first | rfl | decide +kernel) ?_
      walk_at "qq"
      rename_i l5 G5 H5 n5 w5 s5 h5 t5
      refine r_dispM w5 fun pd H6 w6 t6 h6 h06 d6 => pairs_cons ?_
      walk_at "qq"
      rename_i l7 G7 H7 n7 w7 s7 h7 t7 l8 G8 H8 n8 w8 s8 h8 t8 l9 G9 H9 n9 w9 s9 h9 t9
      refine pairs_cons ?_
      walk_at "qq"
      rename_i l10 G10 H10 n10 w10 s10 h10 t10 l11 G11 H11 n11 w11 s11 h11 t11
      refine pairs_cons ?_
      walk_at "qq"
      rename_i l12 G12 H12 n12 w12 s12 h12 t12 l13 G13 H13 n13 w13 s13 h13 t13
      refine pairs_nil ?_
      have hpd := t13 _ _ (t12 _ _ (t11 _ _ (t10 _ _ (t9 _ _ (t8 _ _ (t7 _ _ h6))))))
      refine r_dispK [(.inr (Str.ofString "agreed"), .ref l9), (.inr (Str.ofString "differed"), .ref l11), (.inr (Str.ofString "served"), .ref l13)] w13 h06 hpd (by show 3 ≤ 15; decide) fun G14 H14 w14 s14 b14 h14 => ?_
      walk_at "qq"
      refine ⟨pd, rfl, .inl ⟨_, .inl (w14.le _ _ h14)⟩, ?_⟩
      walk_at "qq"
      rename_i l15 G15 H15 n15 w15 s15 h15 t15 l16 G16 H16 n16 w16 s16 h16 t16
      refine ⟨(some (.ref l13)), dget_dk (k := .inr (kindN 8)) (w16.le _ _ (s16 _ _ (s15 _ _ h14))) (by first | rfl | decide +kernel), ?_⟩
      have gt16 := s16 _ _ (s15 _ _ (s14 _ _ (s13 _ _ (s12 _ _ (s11 _ _ (s10 _ _ (s9 _ _ (s8 _ _ (s7 _ _ (s5 _ _ gt))))))))))
      have hL : G16 l13 = some (.lst [.ref l12]) := (s16 _ _ (s15 _ _ (s14 _ _ h13)))
      have hB0 : G16 l12 = some (.tup [.bl false, .bl false]) := (s16 _ _ (s15 _ _ (s14 _ _ (s13 _ _ h12))))
      walk_at "qq"
      refine ⟨l13, rfl, ⟨_, SqL.of (w16.le _ _ hL)⟩, ?_⟩
      refine lc_go w16 (walk_list (xs := [V.ref l12])) (fun j acc Gy _ => ∃ ps : List Addr, acc = ps.map V.ref ∧ DuosAt Gy ps ((rowPairs 8 [.str x, .int m, .str y, .int l] []).take j)) (fun _ _ _ _ _ => ⟨[], rfl, .nil⟩) (fun j acc Gy Hy wy sy _ => wd_sqL wy (SqL.of (sy _ _ hL))) ?_ ?_
      · rintro Dd j acc G17 H17 x' H18 hj hl17 w17 s17 hDd nm ⟨ps, rfl, du⟩ ⟨rfl, hx'⟩
        have hj2 : j < 1 := hj
        have gt17 := s17 _ _ gt16
        rcases (by omega : j = 0) with rfl
        · cases hx'
          refine r_gTup (SqT.of (w17.le _ _ (s17 _ _ hB0))) rfl ?_
          walk_at "qq"
          rename_i l19 G19 H19 n19 w19 s19 h19 t19 l20 G20 H20 n20 w20 s20 h20 t20 l21 G21 H21 n21 w21 s21 h21 t21 H22 w22 b22
          refine ⟨ps ++ [l21], by rw [List.map_append]; rfl, ?_⟩
          exact (du.same (s19.trans (s20.trans s21))).snoc (t := (rowPairs 8 [.str x, .int m, .str y, .int l] []).getD 0 default) ⟨l19, l20, h21, s21 _ _ (s20 _ _ h19), s21 _ _ h20⟩
      · rintro l17 acc G17 G18 H18 hl17 w18 s17 s1718 h18 ⟨ps, rfl, du⟩
        walk_at "qq"
        exact ret_of k w18 ⟨l17, ps, [], rfl, h18, du.same s1718, fun v e => by cases e⟩
    · obtain ⟨x, m, y, l, rfl, r1, r2⟩ := sg_tmtm (by decide) (by decide) sg
      walk_at "qq"
      refine iteN (by first | rfl | decide +kernel) ?_
      walk_at "qq"
      refine iteN (by first | rfl | decide +kernel) ?_
      walk_at "qq"
      refine iteN (by first | rfl | decide +kernel) ?_
      walk_at "qq"
      refine iteN (by first | rfl | decide +kernel) ?_
      walk_at "qq"
      refine iteN (by first | rfl | decide +kernel) ?_
      walk_at "qq"
      rename_i l5 G5 H5 n5 w5 s5 h5 t5
      refine r_dispM w5 fun pd H6 w6 t6 h6 h06 d6 => pairs_cons ?_
      walk_at "qq"
      rename_i l7 G7 H7 n7 w7 s7 h7 t7 l8 G8 H8 n8 w8 s8 h8 t8 l9 G9 H9 n9 w9 s9 h9 t9
      refine pairs_cons ?_
      walk_at "qq"
      rename_i l10 G10 H10 n10 w10 s10 h10 t10 l11 G11 H11 n11 w11 s11 h11 t11
      refine pairs_cons ?_
      walk_at "qq"
      rename_i l12 G12 H12 n12 w12 s12 h12 t12 l13 G13 H13 n13 w13 s13 h13 t13
      refine pairs_nil ?_
      have hpd := t13 _ _ (t12 _ _ (t11 _ _ (t10 _ _ (t9 _ _ (t8 _ _ (t7 _ _ h6))))))
      refine r_dispK [(.inr (Str.ofString "agreed"), .ref l9), (.inr (Str.ofString "differed"), .ref l11), (.inr (Str.ofString "served"), .ref l13)] w13 h06 hpd (by show 3 ≤ 15; decide) fun G14 H14 w14 s14 b14 h14 => ?_
      walk_at "qq"
      refine ⟨pd, rfl, .inl ⟨_, .inl (w14.le _ _ h14)⟩, ?_⟩
      walk_at "qq"
      rename_i l15 G15 H15 n15 w15 s15 h15 t15 l16 G16 H16 n16 w16 s16 h16 t16
      refine ⟨none, dget_dk (k := .inr (kindN 9)) (w16.le _ _ (s16 _ _ (s15 _ _ h14))) (by first | rfl | decide +kernel), ?_⟩
      have gt16 := s16 _ _ (s15 _ _ (s14 _ _ (s13 _ _ (s12 _ _ (s11 _ _ (s10 _ _ (s9 _ _ (s8 _ _ (s7 _ _ (s5 _ _ gt))))))))))
      have hL : G16 l16 = some (.lst [.ref l15]) := h16
      have hB0 : G16 l15 = some (.tup [.bl true, .bl false]) := (s16 _ _ h15)
      walk_at "qq"
      refine ⟨l16, rfl, ⟨_, SqL.of (w16.le _ _ hL)⟩, ?_⟩
      refine lc_go w16 (walk_list (xs := [V.ref l15])) (fun j acc Gy _ => ∃ ps : List Addr, acc = ps.map V.ref ∧ DuosAt Gy ps ((rowPairs 9 [.str x, .int m, .str y, .int l] []).take j)) (fun _ _ _ _ _ => ⟨[], rfl, .nil⟩) (fun j acc Gy Hy wy sy _ => wd_sqL wy (SqL.of (sy _ _ hL))) ?_ ?_
      · rintro Dd j acc G17 H17 x' H18 hj hl17 w17 s17 hDd nm ⟨ps, rfl, du⟩ ⟨rfl, hx'⟩
        have hj2 : j < 1 := hj
        have gt17 := s17 _ _ gt16
        rcases (by omega : j = 0) with rfl
        · cases hx'
          refine r_gTup (SqT.of (w17.le _ _ (s17 _ _ hB0))) rfl ?_
          walk_at "qq"
          rename_i l19 G19 H19 n19 w19 s19 h19 t19 l20 G20 H20 n20 w20 s20 h20 t20 l21 G21 H21 n21 w21 s21 h21 t21 H22 w22 b22
          refine ⟨ps ++ [l21], by rw [List.map_append]; rfl, ?_⟩
          exact (du.same (s19.trans (s20.trans s21))).snoc (t := (rowPairs 9 [.str x, .int m, .str y, .int l] []).getD 0 default) ⟨l19, l20, h21, s21 _ _ (s20 _ _ h19), s21 _ _ h20⟩
      · rintro l17 acc G17 G18 H18 hl17 w18 s17 s1718 h18 ⟨ps, rfl, du⟩
        walk_at "qq"
        exact ret_of k w18 ⟨l17, ps, [], rfl, h18, du.same s1718, fun v e => by cases e⟩
end
section
abbrev nHeard : List Str := ["_law_ask", "_law_caught", "error", "_law_heard_here"]
theorem scHeard : FnScope nHeard ["_law_ask"] (defScope sHeard) := ⟨rfl, rfl, rfl, by decide +kernel, rfl, by decide +kernel, by decide +kernel⟩
abbrev kd13 (Ct Cn Cm : Addr) : List (Addr × Str × Str) := [(Ct, "tool", "tool"), (Cn, "name", "name"), (Cm, "moment", "moment")]
theorem heard_gives13 {X : Cx} {g Cb Ct Cn Cm : Addr} {cdg : Value} {q : Str} (T : Bi X.mg) (hTill : X.mg "TillError" = some (.ref Cb)) (hNoTool : Gc X.mg "NoTool" (.ref Ct)) (hBadName : Gc X.mg "BadName" (.ref Cn)) (hBadMoment : Gc X.mg "BadMoment" (.ref Cm)) 
    (M0 : HdC X.K Ct "tool") (M1 : HdC X.K Cn "name") (M2 : HdC X.K Cm "moment") (ex : ∀ C ∈ [Ct, Cn, Cm], PySem.W.exmOne X.K (.ref C) (.ref Cb) = some true)
    (f00 : PySem.W.kitOne X.K (.ref Ct) (.ref Ct) = some true) (f01 : PySem.W.kitOne X.K (.ref Ct) (.ref Cn) = some false) (f02 : PySem.W.kitOne X.K (.ref Ct) (.ref Cm) = some false) (f10 : PySem.W.kitOne X.K (.ref Cn) (.ref Ct) = some false) (f11 : PySem.W.kitOne X.K (.ref Cn) (.ref Cn) = some true) (f12 : PySem.W.kitOne X.K (.ref Cn) (.ref Cm) = some false) (f20 : PySem.W.kitOne X.K (.ref Cm) (.ref Ct) = some false) (f21 : PySem.W.kitOne X.K (.ref Cm) (.ref Cn) = some false) (f22 : PySem.W.kitOne X.K (.ref Cm) (.ref Cm) = some true) :
    LamX.GivesTo X nHeard "_law_heard" (defScope sHeard) g cdg (defBody sHeard) "_law_ask" q (TTold (kd13 Ct Cn Cm)) := by
  intro f c' s H Q tl act hc h
  refine ⟨_, (pss_cons (ps_set (i := 1) scHeard.nd rfl (Or.inl rfl) pe_non)
        (pss_cons (ps_askR (i := 2) act (fun _ => pe_str) scHeard.nd rfl rfl rfl rfl hTill fun b oe cls d pn _ _ => pss_one (ps_set (i := 1) scHeard.nd rfl (Or.inl rfl) (pv 2)))
        (pss_cons (ps_set (i := 3) scHeard.nd rfl (Or.inl rfl) (pe_lstM pa_nil))
        (pss_cons (ps_if (pt_val (pe_callB q_isi (by rfl) T.isinstance (by decide +kernel) (pa_cons (pv 1) (pa_cons (pe_gc hNoTool) pa_nil)))) (pss_one (ps_expr (pe_bm PySem.F.plainAttrs_list PySem.F.slot_list_append PySem.F.type_list_append mt_append (pv 3) (pa_cons (pe_tup (pa_cons pe_str (pa_cons (pe_xv (pv 1)) pa_nil))) pa_nil)))) pss_nil)
        (pss_cons (ps_if (pt_val (pe_callB q_isi (by rfl) T.isinstance (by decide +kernel) (pa_cons (pv 1) (pa_cons (pe_gc hBadName) pa_nil)))) (pss_one (ps_expr (pe_bm PySem.F.plainAttrs_list PySem.F.slot_list_append PySem.F.type_list_append mt_append (pv 3) (pa_cons (pe_tup (pa_cons pe_str (pa_cons (pe_xv (pv 1)) pa_nil))) pa_nil)))) pss_nil)
        (pss_cons (ps_if (pt_val (pe_callB q_isi (by rfl) T.isinstance (by decide +kernel) (pa_cons (pv 1) (pa_cons (pe_gc hBadMoment) pa_nil)))) (pss_one (ps_expr (pe_bm PySem.F.plainAttrs_list PySem.F.slot_list_append PySem.F.type_list_append mt_append (pv 3) (pa_cons (pe_tup (pa_cons pe_str (pa_cons (pe_xv (pv 1)) pa_nil))) pa_nil)))) pss_nil)
        (pss_one (ps_ret (pe_ifExp (PW.pt (pw_and (pt_cmpR op_eq (pe_callB q_len (by rfl) T.len (by decide +kernel) (pa_cons (pv 3) pa_nil)) pe_int (nomark _)) (pw_and1 (pt_val (pe_callB q_isi (by rfl) T.isinstance (by decide +kernel) (pa_cons (pv 1) (pa_cons (pe_bltn (v := .ty "ValueError") (by rfl) T.ValueError (by decide +kernel) rfl) pa_nil))))))) (pe_ix q_ix (pv 3) pe_int (fun _ _ => rfl)) pe_str))))))))), ?_⟩
  walk_at "qq"
  refine ⟨HearX _ Q, fun cls d σ' H' told => ?_, rfl, hc, h _ _ (fun _ _ _ z => z) fun v H1 told => ?_⟩
  · obtain ⟨e, G, M0', C, sg, fl, v, dd, w, rfl, rfl, hdd, hk, k⟩ := told
    refine ⟨?_, fun a ha hl => ?_⟩
    · simp only [List.mem_cons, List.not_mem_nil, or_false, Prod.mk.injEq] at hk
      rcases hk with ⟨rfl, _⟩ | ⟨rfl, _⟩ | ⟨rfl, _⟩ <;> exact ex _ (by simp)
    · match σ', hl with
      | [x0, x1, x2, x3], _ =>
        have w1 := wd_lay (o := ExK (.ref C) (some dd) a) w ha exK_nt
        have s1 : Same G (upd G a (ExK (.ref C) (some dd) a)) := same_upd (w.g ha)
        have t1 : Same H' (upd H' a (ExK (.ref C) (some dd) a)) := same_upd ha
        have g1 : upd G a (ExK (.ref C) (some dd) a) a = some (ExK (.ref C) (some dd) a) := upd_same
        have gd := s1 _ _ hdd
        generalize upd G a (ExK (.ref C) (some dd) a) = G1 at *
        generalize hH1 : upd H' a (ExK (.ref C) (some dd) a) = H1 at *
        walk_at "qq"
        rw [hH1]
        walk_at "qq"
        simp only [List.mem_cons, List.not_mem_nil, or_false, Prod.mk.injEq] at hk
        rcases hk with ⟨rfl, rfl, rfl⟩ | ⟨rfl, rfl, rfl⟩ | ⟨rfl, rfl, rfl⟩
        · have M := M0
          refine r_isuK (by walk_at "at") (by walk_at "at") M.e f00 ?_
          walk_at "qq"
          refine r_fldX (by walk_at "at") (by walk_at "at") M.x M.n rfl ?_
          walk_at "qq"
          refine r_isuK (by walk_at "at") (by walk_at "at") M.e f01 ?_
          walk_at "qq"
          refine r_isuK (by walk_at "at") (by walk_at "at") M.e f02 ?_
          walk_at "qq"
          refine ite_d (fun _ => ?_) fun z => absurd rfl z
          walk_at "qq"
          refine r_isuT (by walk_at "at") (by walk_at "at") M.e M.v ?_
          walk_at "qq"
          exact k _ _ _ (wd_drop (by assumption) (List.sublist_cons_self _ _)) (by walk_at "sg") (by refine' same_new ?s ?n ?t ?b; (case b => assumption); (case n => assumption); (case s => exact t1); (case t => walk_at "sg")) (by walk_at "atg")
        · have M := M1
          refine r_isuK (by walk_at "at") (by walk_at "at") M.e f10 ?_
          walk_at "qq"
          refine r_isuK (by walk_at "at") (by walk_at "at") M.e f11 ?_
          walk_at "qq"
          refine r_fldX (by walk_at "at") (by walk_at "at") M.x M.n rfl ?_
          walk_at "qq"
          refine r_isuK (by walk_at "at") (by walk_at "at") M.e f12 ?_
          walk_at "qq"
          refine ite_d (fun _ => ?_) fun z => absurd rfl z
          walk_at "qq"
          refine r_isuT (by walk_at "at") (by walk_at "at") M.e M.v ?_
          walk_at "qq"
          exact k _ _ _ (wd_drop (by assumption) (List.sublist_cons_self _ _)) (by walk_at "sg") (by refine' same_new ?s ?n ?t ?b; (case b => assumption); (case n => assumption); (case s => exact t1); (case t => walk_at "sg")) (by walk_at "atg")
        · have M := M2
          refine r_isuK (by walk_at "at") (by walk_at "at") M.e f20 ?_
          walk_at "qq"
          refine r_isuK (by walk_at "at") (by walk_at "at") M.e f21 ?_
          walk_at "qq"
          refine r_isuK (by walk_at "at") (by walk_at "at") M.e f22 ?_
          walk_at "qq"
          refine r_fldX (by walk_at "at") (by walk_at "at") M.x M.n rfl ?_
          walk_at "qq"
          refine ite_d (fun _ => ?_) fun z => absurd rfl z
          walk_at "qq"
          refine r_isuT (by walk_at "at") (by walk_at "at") M.e M.v ?_
          walk_at "qq"
          exact k _ _ _ (wd_drop (by assumption) (List.sublist_cons_self _ _)) (by walk_at "sg") (by refine' same_new ?s ?n ?t ?b; (case b => assumption); (case n => assumption); (case s => exact t1); (case t => walk_at "sg")) (by walk_at "atg")

  · obtain ⟨e, G, M0', w, k⟩ := told
    exact r_lay w (sz_m (by decide)) (by intro ps z; cases z) fun l G' H' n' w' s' h' t' => k l G' H' w' s' t' h'
end
section
variable {P : Program} {w : World} {K : PySem.W.Frag} {mg : Str → Option Value} {base : Heap} {CL : Nat → Addr} {C Cy Cn Cm Cs Ct : Addr}
theorem kinds_mem : ∀ {v : V}, v ∈ kindsS.map V.str ++ kindsS.map V.str → ∃ i, i < 10 ∧ v = .str (kindN i) := by
  intro v hv
  have hv : v ∈ kindsS.map V.str := by simpa using hv
  obtain ⟨z, hz, rfl⟩ := List.mem_map.mp hv
  have key : ∀ z ∈ kindsS, ∃ i, i < 10 ∧ z = kindN i := by decide +kernel
  obtain ⟨i, hi, rfl⟩ := key z hz
  exact ⟨i, hi, rfl⟩
abbrev nLaw : List Str := ["_law_script", "_law_pen_here", "_law_kind", "_law_crew_here", "_law_row", "_law_starts_here", "_law_homes", "_law_due", "_law_wider", "_law_words", "_law_gone", "_law_heard_here", "_law_fewer", "_law_made_here", "_law_word"]
theorem scLaw : FnScope nLaw ["_law_script"] (defScope sLaw) := ⟨rfl, rfl, rfl, by decide +kernel, rfl, by decide +kernel, by decide +kernel⟩
abbrev qLam (n : Nat) (f c : Addr) : Str := (envOfC "law" (defScope sLaw) n f (.ref c)).qual ++ ("<lambda>" : Str)
def spLaw (K : PySem.W.Frag) (cs : List (Addr × Addr)) : Sp := fun vs H Q _ => ∃ (a : Addr) (ns : List Int), vs = [.ref a] ∧ SqL K H a (ns.map V.int) ∧ ns.length ≤ 63 ∧ OnlyT cs H ∧ (∀ p ∈ cs, H p.2 = some (.tbl #[])) ∧ ∀ H', Q (.bl true) H'
theorem ok_law {f fh pT : Addr} {fd fdh : FuncData} (F : FnP K "law" "law" sLaw [] f fd) (T : Bi mg) (SM : SmK K)
    (De : Df P w K mg base CX0 1 "_law_pen" [] (spPen K)) (Dd : Df P w K mg base CX0 2 "_law_draw" [] spDraw) (Dcr : Df P w K mg base CX0 4 "_law_crew" [] spCrewR) (Dk : Df P w K mg base CX0 1 "_law_kinds" [] spKinds) (Dw : Df P w K mg base CX0 5 "_law_drawn" [] spDrawnN) (Dst : Df P w K mg base CX0 4 "_law_starts" [] spStarts13)
    (Dmk : Df P w K mg base (L2.CX P w) 7 "_law_made" [] (spMade K CL Cn Cm Cs)) (DL : MkD P w K mg base (L2.CX P w) 3 "Lives" C [] (spLives K C Cn Cm)) (Dpr : Df P w K mg base CX0 2 "_law_pairs" [] spPairsD) (Dto : Df P w K mg base CX0 1 "_law_told" [] (spTold13 Cy)) (Dnm : Df P w K mg base CX0 1 "_law_named" [] spNamedL)
    (DP : ∀ i, i < 10 → MetD P w K mg base (L2.CX P w) 8 (CL i) "pairs" [] (spPairs K CL C Cy Ct i)) (DPK : ∀ i, i < 10 → MetK P w K mg base (L2.CX P w) 8 (CL i) "pairs" ["lives"] (fun vs zs => vs ++ zs) (spPairs K CL C Cy Ct i))
    (Fh : FnP K "_law_heard" "_law_heard" sHeard [] fh fdh) (hmH : mg "_law_heard" = some (.ref fh)) (hbH : Binds K fdh ["_law_ask"] [])
    (HG : ∀ (X : Cx) (cdg : Value) (q : Str), X.K = K → X.mg = mg → LamX.GivesTo X nHeard "_law_heard" (defScope sHeard) fh cdg (defBody sHeard) "_law_ask" q (TTold (kd13 Ct Cn Cm)))
    (TB : LamX.TabB base mg (codeA K f) pT) : FnA P w K mg base CX0 18 f fd ["_law_script"] (spLaw K [(codeA K f, pT)]) := by
  obtain ⟨oc, od, dV, kV, doc, pm, an, cdvH, ct, osl, rfl, lkH, hcdH, _, _⟩ := id Fh.ex
  have kpH := Fh.kp
  refine fnP_okAT F scLaw (fun vs H Q E h => ?_) (fun A outer s H vs Q E g0 hr h => ?_)
  · obtain ⟨a, ns, rfl, _⟩ := h
    rfl
  · obtain ⟨a, ns, rfl, ha, hl, only, htb, k⟩ := h
    have hu64 := hr.units
    have hu : (A.deeper (envOfC "law" (defScope sLaw) s.heap.objs.size f (.ref (codeA K f)))).units + 1 < cLine := by omega
    have hu1 := hu
    have passL : ∀ {A2 : Around} {outer2 : List Env} {s2 : Shared} {H2 : Hp} {E2 : XK} {sc2 : Scope} {f2 c2 : Addr}, Passes (L2.CX P w) (LamX.lamCx (cxOf CX0 P w K mg base nLaw "law" (defScope sLaw) f (.ref (codeA K f)) A outer s H E).nox A2 outer2 s2 H2 E2 sc2 f2 c2) E2 :=
      fun {A2 outer2 s2 H2 E2 sc2 f2 c2} => passes_call (W := fun cls d _ H' => E2 cls d H') (takes_of rfl rfl rfl rfl) fun _ _ _ _ h => h
    refine ⟨_, (pss_cons (ps_set (i := 1) scLaw.nd rfl (Or.inr rfl) (pe_callD De hr pass0 (pa_cons (pv 0) pa_nil)))
        (pss_cons (ps_for PassesOwn.never rfl (pi_list (pe_op q_add (pe_callD0 Dk hr pass0) (pe_callD0 Dk hr pass0))) (pg_name (i := 2) scLaw.nd rfl (Or.inl rfl)) (pss_cons (ps_set (i := 3) scLaw.nd rfl (Or.inl rfl) (pe_callD Dcr hr pass0 (pa_cons (pv 1) pa_nil)))
        (pss_cons (ps_asg (pe_tup (pa_cons (pe_callD Dw hr pass0 (pa_cons (pv 1) (pa_cons (pv 3) (pa_cons (pe_lst (pa_cons (pv 2) pa_nil)) pa_nil)))) (pa_cons (pe_callD Dst hr pass0 (pa_cons (pv 1) (pa_cons (pv 3) pa_nil))) pa_nil))) (pg_tup rfl (pgs_cons (pg_name (i := 4) scLaw.nd rfl (Or.inl rfl)) (pgs_cons (pg_name (i := 5) scLaw.nd rfl (Or.inr rfl)) pgs_nil))))
        (pss_cons (ps_asg (pe_tup (pa_cons (pe_callD Dmk hr passX0 (pa_cons (pv 4) pa_nil)) (pa_cons (pe_makeD DL hr passX0 (pa_cons (pv 5) pa_nil)) pa_nil))) (pg_tup rfl (pgs_cons (pg_name (i := 13) scLaw.nd rfl (Or.inr rfl)) (pgs_cons (pg_name (i := 6) scLaw.nd rfl (Or.inl rfl)) pgs_nil))))
        (pss_cons (ps_set (i := 7) scLaw.nd rfl (Or.inl rfl) (pe_callD Dpr hr pass0 (pa_cons (pv 4) (pa_cons (pv 5) pa_nil))))
        (pss_cons (ps_if (pt_cmpR (q_ne hu64) (pe_callB (call_reprQ SM g0 hu64) (by rfl) T.repr (by decide +kernel) (pa_cons (pe_callD Dto hr pass0 (pa_cons (pe_anyR fun i hi => pe_methKD (pv 13) (DPK i hi) hr passX0 (pk_cons (pv 6) pk_nil)) pa_nil)) pa_nil)) (pe_callB (call_reprQ SM g0 hu64) (by rfl) T.repr (by decide +kernel) (pa_cons (pv 7) pa_nil)) (nomark _)) (pss_one (ps_ret pe_bl)) pss_nil)
        (pss_cons (ps_set (i := 8) scLaw.nd rfl (Or.inl rfl) (pe_frzV (pe_callTy (q_dictP rfl) (by rfl) T.dict (by decide +kernel) (pa_cons (pe_lc (own := [("_law_word", 14)]) (g := gName 14) (tt := tYes) rfl scLaw.nd (pi_keys (pv 5)) (blkOk_by (own := [("_law_word", 14)]) (N := nLaw) (sc := defScope sLaw) (by decide +kernel)) (fun _ _ _ _ _ => (pg_name (i := 14) scLaw.nd rfl (by first | exact Or.inl rfl | exact Or.inr rfl))) (fun _ _ _ _ _ => pts_nil) (fun _ _ _ _ _ => (pe_tup (pa_cons (pv 14) (pa_cons (pe_op q_add (pe_dget hu (pv 5) (pv 14) (fun _ _ => rfl)) (pe_lst (pa_cons pe_int pa_nil))) pa_nil))))) pa_nil))))
        (pss_cons (ps_if (pt_cmpR (q_ne hu64) (pe_callB (call_reprQ SM g0 hu64) (by rfl) T.repr (by decide +kernel) (pa_cons (pe_callD Dto hr pass0 (pa_cons (pe_anyR fun i hi => pe_methD (pv 13) (DP i hi) hr passX0 (pa_cons (pe_makeD DL hr passX0 (pa_cons (pv 8) pa_nil)) pa_nil)) pa_nil)) pa_nil)) (pe_callB (call_reprQ SM g0 hu64) (by rfl) T.repr (by decide +kernel) (pa_cons (pe_callD Dpr hr pass0 (pa_cons (pv 4) (pa_cons (pv 8) pa_nil))) pa_nil)) (nomark _)) (pss_one (ps_ret pe_bl)) pss_nil)
        (pss_cons (ps_if (pt_cmpR (q_ne hu64) (pe_callB (call_reprQ SM g0 hu64) (by rfl) T.repr (by decide +kernel) (pa_cons (pe_callD Dto hr pass0 (pa_cons (pe_anyR fun i hi => pe_methD (pv 13) (DP i hi) hr passX0 (pa_cons (pv 6) pa_nil)) pa_nil)) pa_nil)) (pe_callB (call_reprQ SM g0 hu64) (by rfl) T.repr (by decide +kernel) (pa_cons (pv 7) pa_nil)) (nomark _)) (pss_one (ps_ret pe_bl)) pss_nil)
        (pss_cons (ps_set (i := 9) scLaw.nd rfl (Or.inl rfl) (pe_callB (show CallR _ (.builtin "sorted") (rSortS w) from cr_sortS rfl) (by rfl) T.sorted (by decide +kernel) (pa_cons (pe_callTy (show CallR _ (.type "set") (rSetLS K w) from cr_setLS rfl) (by rfl) T.set (by decide +kernel) (pa_cons (pe_callD Dnm hr pass0 (pa_cons (pv 4) pa_nil)) pa_nil)) pa_nil)))
        (pss_cons (ps_set (i := 10) scLaw.nd rfl (Or.inr rfl) (pe_lc (own := [("_law_word", 14)]) (g := gName 14) rfl scLaw.nd (pi_list (pv 9)) (blkOk_by (own := [("_law_word", 14)]) (N := nLaw) (sc := defScope sLaw) (by decide +kernel)) (fun _ _ _ _ _ => (pg_name (i := 14) scLaw.nd rfl (by first | exact Or.inl rfl | exact Or.inr rfl))) (fun _ _ _ _ _ => (pts_one (pt_cmpR (show OpR _ (compareOp .Eq) (rEqX K) from q_eq hu64) (pe_callD Dd hr pass0 (pa_cons (pv 1) (pa_cons pe_int pa_nil))) pe_int (nomark _)))) (fun _ _ _ _ _ => (pv 14))))
        (pss_cons (ps_set (i := 12) scLaw.nd rfl (Or.inr rfl) (pe_makeD DL hr passX0 (pa_cons (pe_frzV (pe_callTy (q_dictP rfl) (by rfl) T.dict (by decide +kernel) (pa_cons (pe_lc (own := [("_law_word", 14)]) (g := gName 14) rfl scLaw.nd (pi_keys (pv 5)) (blkOk_by (own := [("_law_word", 14)]) (N := nLaw) (sc := defScope sLaw) (by decide +kernel)) (fun _ _ _ _ _ => (pg_name (i := 14) scLaw.nd rfl (by first | exact Or.inl rfl | exact Or.inr rfl))) (fun _ _ _ _ _ => (pts_one (pt_cmpR (show OpR _ (compareOp .NotIn) (rIn K true) from op_notIn_seq) (pv 14) (pv 10) (by rfl)))) (fun _ _ _ _ _ => (pe_tup (pa_cons (pv 14) (pa_cons (pe_dget hu (pv 5) (pv 14) (fun _ _ => rfl)) pa_nil))))) pa_nil))) pa_nil)))
        (pss_cons (ps_set (i := 11) scLaw.nd rfl (Or.inl rfl) (LamX.pe_lamcall (k := 15) (T := [(pT, qLam s.heap.objs.size f (codeA K f))]) rfl hmH kpH lkH hcdH hbH scHeard rfl (Or.inl rfl) (HG _ _ _ rfl rfl) TB rfl (List.mem_singleton.mpr rfl) (fun p hp _ => by rw [List.mem_singleton.mp hp] <;> rfl) hr (LamX.lamS_by (sc := defScope sLaw) (by decide +kernel)) rfl (fun _ _ _ _ _ => rfl) (fun A2 outer2 s2 H2 E2 f2 c2 hr2 => (pe_callB (show CallR _ (.builtin "len") (rLenX K) from q_len) (by rfl) T.len (by decide +kernel) (pa_cons (pe_anyR fun i hi => pe_methD (pv 13) (DP i hi) hr2 passL (pa_cons (pv 12) pa_nil)) pa_nil)))))
        (pss_one (ps_if (pt_cmpR (q_ne hu64) (pe_callB (call_reprQ SM g0 hu64) (by rfl) T.repr (by decide +kernel) (pa_cons (pv 11) pa_nil)) (pe_callB (call_reprQ SM g0 hu64) (by rfl) T.repr (by decide +kernel) (pa_cons (pe_ifExp (pt_cmpR (q_ne hu64) (pv 10) (pe_lst pa_nil) (nomark _)) (pe_tup (pa_cons pe_str (pa_cons (pe_ix q_ix (pv 10) pe_int (fun _ _ => rfl)) pa_nil))) (pe_tup (pa_cons pe_str (pa_cons (pe_callB q_len (by rfl) T.len (by decide +kernel) (pa_cons (pv 7) pa_nil)) pa_nil)))) pa_nil)) (nomark _)) (pss_one (ps_ret pe_bl)) pss_nil)))))))))))))))
        (pss_one (ps_ret pe_bl)))), ?_⟩
    obtain ⟨en, G0, w0, ha0, enT, cov', inP'⟩ := law_start (qLam s.heap.objs.size f (codeA K f)) only (htb _ (List.mem_singleton.mpr rfl)) ha
    walk_at "qq"
    refine u_pen w0 ha0 hl fun p c G1 H1 w1 s1 t1 hc P1 => ?_
    walk_at "qq"
    refine u_kinds w1 fun l5 G5 H5 w5 s5 t5 h5 => ?_
    walk_at "qq"
    refine u_kinds w5 fun l6 G6 H6 w6 s6 t6 h6 => ?_
    have h56 := s6 _ _ h5
    walk_at "qq"
    rename_i l7 G7 H7 n7 w7 s7 h7 t7
    have hc7 := hc.same (s5.trans (s6.trans s7))
    have P7 := (P1.same (t5.trans t6)).same t7
    refine for_go (walk_list (xs := kindsS.map V.str ++ kindsS.map V.str)) (fun j σ Hx => ∃ (Gi : Hp) (x2 x3 x4 x5 x6 x7 x8 x9 x10 x11 x12 x13 x14 : Option V), σ = [some (.ref a), some (.ref p), x2, x3, x4, x5, x6, x7, x8, x9, x10, x11, x12, x13, x14] ∧ Wd en Gi Hx [p] ∧ Same G7 Gi ∧ PenAt p c (1000 + 200 * j) Hx)
      ⟨G7, _, _, _, _, _, _, _, _, _, _, _, _, _, rfl, w7, Same.refl _, P7.more (by omega)⟩ (fun j σ Hx _ ⟨Gi, _, _, _, _, _, _, _, _, _, _, _, _, _, _, wi, si, _⟩ => wd_sqL wi (SqL.of (si _ _ h7))) ?_ ?_
    · rintro j xj σ Ha Hb hj ⟨Gi, x2, x3, x4, x5, x6, x7, x8, x9, x10, x11, x12, x13, x14, rfl, wi, si, Pi⟩ ⟨rfl, hx⟩
      have hj20 : j < 20 := hj
      obtain ⟨i, hi, rfl⟩ := kinds_mem (List.mem_of_getElem? hx)
      have hci := hc7.same si
      walk_at "qq"
      refine u_crewR wi (by simp) hci Pi (by omega) fun lc ts G8 H8 w8 s8 b8 P8 h8 ne8 le8 ok8 => ?_
      walk_at "qq"
      rename_i l9 G9 H9 n9 w9 s9 h9 t9
      have hc9 := (hci.same s8).same s9
      refine u_drawnN w9 (by simp) hc9 (P8.same t9) (by omega) (ns := ts) (ks := [kindN i]) (s9 _ _ h8) ne8 (by omega) ok8 h9 (by simp) (by simp) (fun z hz => ⟨i, hi, List.mem_singleton.mp hz⟩) fun tr i' as G10 H10 w10 s10 b10 P10 hi' hk' h10 sg10 nm10 => ?_
      have ht10 : TupRow G10 tr i' as := ⟨hi', h10, sg10⟩
      have hc10 := hc9.same s10
      walk_at "qq"
      refine u_starts13 w10 (by simp) hc10 P10 (by omega) (s10 _ _ (s9 _ _ h8)) le8 ok8 fun d bt G11 H11 w11 s11 b11 P11 hbg hbl hkeys => ?_
      have ht11 := ht10.same s11
      walk_at "qq"
      rename_i l12 G12 H12 n12 w12 s12 h12 t12
      have ht12 := ht11.same s12
      refine u_madeR w12 ht12 fun r G13 H13 w13 s13 t13 hr13 => ?_
      walk_at "qq"
      refine u_livesB w13 ((hbg.same s12).same s13) fun lv G14 H14 bL w14 s14 t14 hL14 hV => ?_
      obtain ⟨ys, hys⟩ := tools_ex sg10
      have okb := hbg.ok
      have hnk : ∀ y ∈ ys, y ∈ bt.map (·.1) := fun y hy => hkeys y (nm10 y (named_sub sg10 ((hys.2.2 y).mp hy)))
      have huk : ∀ u, as = [.str u] → u ∈ bt.map (·.1) := fun u e => hkeys u (nm10 u (by rw [e]; simp))
      have hg0 : goneOf ys bL = none := gone_none hV hnk
      walk_at "qq"
      rename_i l15 G15 H15 n15 w15 s15 h15 t15
      have S1215 := s13.trans (s14.trans s15)
      refine u_pairsD w15 (ht12.same S1215) (((hbg.same s12).same S1215)) huk fun l16 ps16 ls G16 H16 w16 s16 t16 h16 du16 hls => ?_
      have eLs := pairs_one (i := i') hV hls
      walk_at "qq"
      refine ⟨i', hi', ?_⟩
      have hr16 := hr13.same (s14.trans (s15.trans s16))
      obtain ⟨_, _, dxr, awr, anr, amr, gar, _⟩ := id hr16
      have hfine := lv_fine hV okb
      obtain ⟨pl, pok⟩ := pairs_fine hi' sg10 (fun u e => lastsB_fine okb (hls u e))
      rw [eLs] at du16 pl pok
      obtain ⟨sh1, sh2, sh3⟩ := duos_show pok pl
      walk_at "qq"
      refine r_methK (w16.le _ _ gar) (row_look (by decide +kernel) (flN_pairs i' hi')) ?_
      walk_at "qq"
      refine ⟨rfl, u_pairs w16 hr16 (hL14.same (s15.trans s16)) hys hfine (fun _ q17 ps17 G17 H17 w17 s17 t17 h17 tw17 => ?_) (fun z hz => by rw [hg0] at hz; cases hz)⟩
      walk_at "qq"
      refine u_told13 w17 h17 tw17 pl fun l18 qs18 G18 H18 w18 s18 t18 h18 du18 => ?_
      walk_at "qq"
      refine r_reprQ (.lst (SqL.of (w18.le _ _ h18)) (wd_dq' w18 (duos_dq du18) (Same.refl _))) sh1 sh2 sh3 ?_
      walk_at "qq"
      refine r_reprQ (.lst (SqL.of (w18.le _ _ (s18 _ _ (s17 _ _ h16)))) (wd_dq' w18 (duos_dq du16) (s17.trans s18))) sh1 sh2 sh3 ?_
      walk_at "qq"
      refine ite_nd (fun h => absurd rfl h) fun _ => ?_
      walk_at "qq"
      have S1118 := s12.trans (S1215.trans (s16.trans (s17.trans s18)))
      have hbg18 := hbg.same S1118
      have P18 : PenAt p c (1000 + 200 * j + 2 + 12 + 100) H18 := (((((((P11.same t12).same t13).same t14).same t15).same t16).same t17).same t18)
      obtain ⟨od, kvs, hd18, ls18⟩ := hbg18.ex
      refine r_iKeysR (w18.le _ _ hd18) ?_
      refine lc_go w18 walk_keys (fun j' acc Gy Hy => (∃ (ps : List Addr) (kv2 : List (Key × V)) (rows : List (Str × List V)), acc = ps.map V.ref ∧ DrAt Gy ps kv2 rows ∧ LsAt Gy kv2 (wideB (bt.take j'))) ∧ PenAt p c (1000 + 200 * j + 2 + 12 + 100) Hy) (fun Dd' H' _ s' _ => ⟨⟨[], [], [], rfl, .nil, .nil⟩, P18.same s'⟩) (fun j' acc Gy Hy wy sy _ => wy.le _ _ (sy _ _ hd18)) ?_ ?_
      · rintro De j' acc G19 H19 x' H20 hj' hl19 w19 s19 hDe nm19 ⟨⟨ps, kv2, rows, rfl, dr, lsw⟩, P19⟩ ⟨rfl, ky, va, hkv, rfl⟩
        obtain ⟨z, ra, ns', rfl, rfl, hbt', hra⟩ := ls18.at_ hkv
        obtain ⟨rb, hv, hrb⟩ := ls_val ls18 okb.nd (List.mem_of_getElem? hbt')
        have hd19 := w19.le _ _ (s19 _ _ hd18)
        have hrb19 := s19 _ _ hrb
        have hne1 : De ≠ p := nm19 p (by simp)
        have hj6 : j' ≤ 1000000 := by
          have h1 : j' < bt.length := (List.getElem?_eq_some_iff.mp hbt').1
          have := okb.few
          omega
        show gName _ (V.str z) _ _ _
        walk_at "qq"
        refine ⟨d, _, rfl, DGet.frz (k := .inr z) hd19 hv, ?_⟩
        walk_at "qq"
        rename_i l20 G20 H21 n20 w20 s20 h20 t20
        have l4 := hbl _ (List.mem_of_getElem? hbt')
        have l4 : ns'.length ≤ 4 := l4
        refine r_lay w20 (sz_m (by simp; omega)) (by intro ps z; cases z) fun l21 G21 H22 n21 w21 s21 h21 t21 => ?_
        walk_at "qq"
        rename_i l22 G22 H23 n22 w22 s22 h22 t22 H24 w24 b24
        refine ⟨⟨ps ++ [l22], kv2 ++ [(.inr z, .ref l21)], rows ++ [(z, ns'.map V.int ++ [V.int 3])], by rw [List.map_append]; rfl, (dr.same (s20.trans (s21.trans s22))).snoc h22 (s22 _ _ h21), ?_⟩, (((P19.same t20).same t21).same t22).but b24 hne1.symm⟩
        rw [take_snoc hbt']
        unfold wideB
        rw [List.map_append]
        exact (lsw.same (s20.trans (s21.trans s22))).snoc (ns := ns' ++ [3]) (by rw [s22 _ _ h21, List.map_append]; rfl)
      · rintro l19 acc G19 G20 H20 hl19 w20 s19 s1920 h20 ⟨⟨ps, kv2, rows, rfl, dr, lsw⟩, P20⟩
        rw [ls18.len, List.take_length] at lsw
        have lsw := lsw.same s1920
        have okw := wide_ok okb hbl
        have ndk2 := bgn_nd lsw okw.nd
        walk_at "qq"
        refine r_dictP (SqL.of (w20.le _ _ h20)) ((dr.same s1920).pairs w20.le) ndk2 ?_
        refine r_layM w20 (Nat.zero_le _) rfl fun dd H21 n21 w21 h21 t21 nm21 => ?_
        have nep : dd ≠ p := nm21 p (by simp)
        refine r_frzD w21 (w20.n0 n21) h21 fun od2 G22 H22 w22 s22 b22 h22 => ?_
        have P22 := (P20.same t21).but b22 nep.symm
        have hbw : BgnAt G22 dd (wideB bt) := ⟨⟨od2, kv2, h22, lsw.same s22⟩, okw⟩
        have S1822 := s19.trans s22
        have hr22 := (hr16.same (s17.trans s18)).same S1822
        have ht22 := (ht12.same (S1215.trans (s16.trans (s17.trans s18)))).same S1822
        walk_at "qq"
        refine ⟨i', hi', ?_⟩
        obtain ⟨_, _, dx22, aw22, an22, am22, ga22, _⟩ := id hr22
        walk_at "qq"
        refine r_meth (w22.le _ _ ga22) (row_look (by decide +kernel) (flN_pairs i' hi')) ?_
        walk_at "qq"
        refine u_livesB w22 hbw fun lvW G23 H23 bLW w23 s23 t23 hLW hVW => ?_
        have hgW : goneOf ys bLW = none := gone_none hVW (fun y hy => by rw [wide_keys]; exact hnk y hy)
        walk_at "qq"
        refine u_pairs w23 (hr22.same s23) hLW hys (lv_fine hVW okw) (fun _ q24 ps24 G24 H24 w24 s24 t24 h24 tw24 => ?_) (fun z hz => by rw [hgW] at hz; cases hz)
        have okW := hbw.ok
        walk_at "qq"
        have fewW : (rowPairs i' as (lastsT bLW as)).length ≤ 60 := by
          by_cases c : ∃ u, as = [.str u]
          · obtain ⟨u, rfl⟩ := c
            exact (pairs_fine hi' sg10 (fun v e => lastsT_fine hVW okw (by rw [wide_keys]; exact huk v e) e)).1
          · exact (pairs_fine hi' sg10 (fun v e => absurd ⟨v, e⟩ c)).1
        refine u_told13 w24 h24 tw24 fewW fun l25 qs25 G25 H25 w25 s25 t25 h25 du25 => ?_
        have pokW := (pairs_fine hi' sg10 (fun v e => lastsT_fine hVW okw (by rw [wide_keys]; exact huk v e) e)).2
        obtain ⟨sw1, sw2, sw3⟩ := duos_show pokW fewW
        walk_at "qq"
        refine r_reprQ (.lst (SqL.of (w25.le _ _ h25)) (wd_dq' w25 (duos_dq du25) (Same.refl _))) sw1 sw2 sw3 ?_
        have S2225 := s23.trans (s24.trans s25)
        walk_at "qq"
        refine u_pairsD w25 (ht22.same S2225) (hbw.same S2225) (fun u e => by rw [wide_keys]; exact huk u e) fun l26 ps26 ls26 G26 H26 w26 s26 t26 h26 du26 hls26 => ?_
        rw [pairs_one (i := i') hVW hls26] at du26
        walk_at "qq"
        refine r_reprQ (.lst (SqL.of (w26.le _ _ h26)) (wd_dq' w26 (duos_dq du26) (Same.refl _))) sw1 sw2 sw3 ?_
        walk_at "qq"
        refine ite_nd (fun h => absurd rfl h) fun _ => ?_
        walk_at "qq"
        refine ⟨i', hi', ?_⟩
        have S1826 := S1822.trans (S2225.trans s26)
        have hr26 := (hr16.same (s17.trans s18)).same S1826
        obtain ⟨_, _, dx26, aw26, an26, am26, ga26, _⟩ := id hr26
        walk_at "qq"
        refine r_meth (w26.le _ _ ga26) (row_look (by decide +kernel) (flN_pairs i' hi')) ?_
        walk_at "qq"
        have hL26 := (hL14.same (s15.trans (s16.trans (s17.trans s18)))).same S1826
        refine u_pairs w26 hr26 hL26 hys hfine (fun _ q27 ps27 G27 H27 w27 s27 t27 h27 tw27 => ?_) (fun z hz => by rw [hg0] at hz; cases hz)
        walk_at "qq"
        refine u_told13 w27 h27 tw27 pl fun l28 qs28 G28 H28 w28 s28 t28 h28 du28 => ?_
        walk_at "qq"
        refine r_reprQ (.lst (SqL.of (w28.le _ _ h28)) (wd_dq' w28 (duos_dq du28) (Same.refl _))) sh1 sh2 sh3 ?_
        have S1828 := S1826.trans (s27.trans s28)
        walk_at "qq"
        refine r_reprQ (.lst (SqL.of (w28.le _ _ (S1828 _ _ (s18 _ _ (s17 _ _ h16))))) (wd_dq' w28 (duos_dq du16) ((s17.trans s18).trans S1828))) sh1 sh2 sh3 ?_
        walk_at "qq"
        refine ite_nd (fun h => absurd rfl h) fun _ => ?_
        walk_at "qq"
        have ht28 := (ht12.same (S1215.trans (s16.trans (s17.trans s18)))).same S1828
        have P28 : PenAt p c (1000 + 200 * j + 2 + 12 + 100) H28 := ((((((P22.same t23).same t24).same t25).same t26).same t27).same t28)
        refine u_namedL w28 ht28 fun l29 G29 H29 w29 s29 t29 h29 => ?_
        obtain ⟨zs, ez, mz⟩ := named_in sg10
        have fz := named_few hi' sg10
        rw [ez] at h29
        rw [ez, List.length_map] at fz
        walk_at "qq"
        refine r_ssT (zs := zs) w29 (SqL.of (w29.le _ _ h29)) (by omega) (fun a H1 h => by walk_at "qq"; exact h) fun ys2 l30 G30 H30 p1 p2 p3 w30 s30 t30 h30 => ?_
        obtain rfl : ys2 = ys := tools_one (i := i') (as := as) ⟨p1, p2, fun z => (p3 z).trans (mz z)⟩ hys
        have P30 := (P28.same t29).same t30
        have S1830 := S1828.trans (s29.trans s30)
        have hc30 := ((((hci.same s8).same s9).same s10).same s11).same (S1118.trans S1830)
        have lys : ys2.length ≤ 60 := by
          have := tools_few hi' sg10 hys
          rw [List.length_map] at this
          exact this
        walk_at "qq"
        refine lc_go w30 (walk_list (xs := ys2.map V.str)) (fun j' acc Gy Hy => (∃ gs : List Str, acc = gs.map V.str ∧ gs.Sublist (ys2.take j')) ∧ PenAt p c (1000 + 200 * j + 2 + 12 + 100 + j') Hy) (fun Dd' H' _ s' _ => ⟨⟨[], rfl, List.Sublist.refl _⟩, P30.same s'⟩) (fun j' acc Gy Hy wy sy _ => wd_sqL wy (SqL.of (sy _ _ h30))) ?_ ?_
        · rintro De j' acc G31 H31 x' H32 hj' hl31 w31 s31 hDe nm31 ⟨⟨gs, rfl, sub⟩, P31⟩ ⟨rfl, hx'⟩
          obtain ⟨z, hz, rfl⟩ : ∃ z, ys2[j']? = some z ∧ x' = .str z := by
            rw [List.getElem?_map] at hx'
            cases e : ys2[j']? with
            | none => rw [e] at hx'; cases hx'
            | some b => rw [e] at hx'; exact ⟨b, rfl, (Option.some.inj hx').symm⟩
          have hj60 : j' < 60 := by
            have := (List.getElem?_eq_some_iff.mp hz).1
            omega
          have hj6 : j' ≤ 1000000 := by omega
          have hne1 : De ≠ p := nm31 p (by simp)
          walk_at "qq"
          refine u_draw w31 (by simp) (hc30.same s31) P31 (by omega) (by decide) (by decide) fun dk G32 H32 w32 s32 b32 P32 dk0 dk1 => ?_
          have hDe32 := b32 _ _ hne1 hDe
          walk_at "qq"
          refine ite_d (fun c1 => ?_) (fun c1 => ?_)
          · walk_at "qq"
            rename_i H33 w33 b33
            exact ⟨⟨gs ++ [z], by rw [List.map_append]; rfl, by rw [List.take_add_one, hz]; exact sub.append (List.Sublist.refl _)⟩, (P32.but b33 hne1.symm).more (by omega)⟩
          · refine ⟨_, G32, w32, s31.trans s32, hDe32, Nat.le_succ_of_le hl31, ⟨gs, rfl, ?_⟩, P32.more (by omega)⟩
            rw [List.take_add_one, hz]
            exact sub.trans (List.sublist_append_left _ _)
        · rintro l31 acc G31 G32 H32 hl31 w32 s31 s3132 h32 ⟨⟨gs, rfl, sub⟩, P32⟩
          rw [List.length_map] at P32
          rw [List.length_map, List.take_length] at sub
          have P32 := P32.more (m := 1000 + 200 * j + 2 + 12 + 100 + 60) (by omega)
          have S1832 := S1830.trans s31
          have hd32 := S1832 _ _ hd18
          have ls32 := ls18.same S1832
          walk_at "qq"
          refine r_iKeysR (w32.le _ _ hd32) ?_
          refine lc_go w32 walk_keys (fun j' acc Gy Hy => (∃ (ps : List Addr) (kv3 : List (Key × V)) (rows : List (Str × List V)), acc = ps.map V.ref ∧ DrAt Gy ps kv3 rows ∧ LsAt Gy kv3 (left13 gs (bt.take j'))) ∧ PenAt p c (1000 + 200 * j + 2 + 12 + 100 + 60) Hy) (fun Dd' H' _ s' _ => ⟨⟨[], [], [], rfl, .nil, .nil⟩, P32.same s'⟩) (fun j' acc Gy Hy wy sy _ => wy.le _ _ (sy _ _ hd32)) ?_ ?_
          · rintro De j' acc G33 H33 x' H34 hj' hl33 w33 s33 hDe nm33 ⟨⟨ps3, kv3, rows3, rfl, dr3, lsw3⟩, P33⟩ ⟨rfl, ky, va, hkv, rfl⟩
            obtain ⟨z, ra, ns', rfl, rfl, hbt', hra⟩ := ls32.at_ hkv
            obtain ⟨rb, hv, hrb⟩ := ls_val ls32 okb.nd (List.mem_of_getElem? hbt')
            have hd33 := w33.le _ _ (s33 _ _ hd32)
            have hne1 : De ≠ p := nm33 p (by simp)
            have hj6 : j' ≤ 1000000 := by
              have h1 : j' < bt.length := (List.getElem?_eq_some_iff.mp hbt').1
              have := okb.few
              omega
            have ek : left13 gs (bt.take (j' + 1)) = left13 gs (bt.take j') ++ left13 gs [(z, ns')] := by
              rw [take_snoc hbt']
              unfold left13
              rw [List.filter_append]
            show gName _ (V.str z) _ _ _
            walk_at "qq"
            refine r_ninL (SqL.of (w33.le _ _ (s33 _ _ h32))) rfl (flat_strs _) ?_
            rw [inV_strs]
            walk_at "qq"
            refine ite_nb (fun c1 => ?_) (fun c1 => ?_)
            · walk_at "qq"
              refine ⟨d, _, rfl, DGet.frz (k := .inr z) hd33 hv, ?_⟩
              walk_at "qq"
              rename_i l35 G35 H35 n35 w35 s35 h35 t35 H36 w36 b36
              refine ⟨⟨ps3 ++ [l35], kv3 ++ [(.inr z, .ref rb)], rows3 ++ [(z, ns'.map V.int)], by rw [List.map_append]; rfl, (dr3.same s35).snoc h35 (s35 _ _ (s33 _ _ hrb)), ?_⟩, (P33.same t35).but b36 hne1.symm⟩
              rw [ek]
              have e1 : left13 gs [(z, ns')] = [(z, ns')] := by simp [left13, of_decide_eq_false c1]
              rw [e1]
              exact (lsw3.same s35).snoc (s35 _ _ (s33 _ _ hrb))
            · refine ⟨_, G33, w33, s33, hDe, Nat.le_succ_of_le hl33, ⟨ps3, kv3, rows3, rfl, dr3, ?_⟩, P33⟩
              rw [ek]
              have e1 : left13 gs [(z, ns')] = [] := by simp [left13, of_decide_eq_true c1]
              rw [e1, List.append_nil]
              exact lsw3
          · rintro l33 acc G33 G34 H34 hl33 w34 s33 s3334 h34 ⟨⟨ps3, kv3, rows3, rfl, dr3, lsw3⟩, P34⟩
            rw [ls32.len, List.take_length] at lsw3
            have lsw3 := lsw3.same s3334
            have okf := left13_ok (gs := gs) okb
            have ndk3 := bgn_nd lsw3 okf.nd
            walk_at "qq"
            refine r_dictP (SqL.of (w34.le _ _ h34)) ((dr3.same s3334).pairs w34.le) ndk3 ?_
            refine r_layM w34 (Nat.zero_le _) rfl fun df H35 n35 w35 h35 t35 nm35 => ?_
            have nepf : df ≠ p := nm35 p (by simp)
            refine r_frzD w35 (w34.n0 n35) h35 fun od3 G36 H36 w36 s36 b36 h36 => ?_
            have P36 := (P34.same t35).but b36 nepf.symm
            have hbf : BgnAt G36 df (left13 gs bt) := ⟨⟨od3, kv3, h36, lsw3.same s36⟩, okf⟩
            refine r_nil ?_
            refine u_livesB w36 hbf fun lvF G37 H37 bLF w37 s37 t37 hLF hVF => ?_
            have hgF := gone_head hVF hnk sub p2
            have S1837 := S1832.trans (s33.trans (s36.trans s37))
            have hr37 := (hr16.same (s17.trans s18)).same S1837
            obtain ⟨_, _, dx37, aw37, an37, am37, ga37, _⟩ := id hr37
            have h16' := S1837 _ _ (s18 _ _ (s17 _ _ h16))
            have h31' := s37 _ _ (s36 _ _ (s33 _ _ h32))
            have P37 := P36.same t37
            have SI37 : Same G7 G37 := si.trans (s8.trans (s9.trans (s10.trans (s11.trans (S1118.trans S1837)))))
            walk_at "qq"
            refine r_lamT w37 enT cov' inP' fun H38 E38 Q38 w38 x38 hE hQ => ?_
            have P38 := P37.ext x38
            walk_at "qq"
            refine ⟨i', hi', ?_⟩
            walk_at "qq"
            refine r_meth (w38.le _ _ ga37) (row_look (by decide +kernel) (flN_pairs i' hi')) ?_
            walk_at "qq"
            refine u_pairs w38 hr37 hLF hys (lv_fine hVF okf) (fun hn q39 ps39 G39 H39 w39 s39 t39 h39 tw39 => ?_) (fun z hz d' G39 H39 w39 s39 t39 hd39 => ?_)
            · rw [hgF] at hn
              obtain rfl : gs = [] := by
                cases gs with
                | nil => rfl
                | cons _ _ => cases hn
              rw [left_nil] at hVF
              obtain rfl : bLF = bL := lvOf_one hVF hV okb
              have lq : ps39.length = (rowPairs i' as (lastsT bLF as)).length := tw39.1
              have lq16 : ps16.length = (rowPairs i' as (lastsT bLF as)).length := du16.len
              have lps : ps39.length ≤ 60 := by omega
              have e16 : ps16.length = ps39.length := by omega
              walk_at "qq"
              refine hQ _ _ ⟨en, G39, [p], w39, fun l40 G40 H40 w40 s40 t40 h40 => ?_⟩
              have h31'' := s40 _ _ (s39 _ _ h31')
              have h16'' := s40 _ _ (s39 _ _ h16')
              obtain ⟨q1, q2, q3⟩ := two_show13 (K := K) (G := G40) (x := .str "told") (y := .int (((ps39.map V.ref).length : Nat) : Int)) (odd_str (z := "told") (by decide +kernel) (by decide)) (odd_num (by rw [List.length_map]; omega))
              walk_at "qq"
              refine r_reprQ (.tup (SqT.of (w40.le _ _ h40)) (.cons (.str _) (.cons (.int _) .nil))) q1 q2 q3 ?_
              walk_at "qq"
              rename_i l41 G41 H41 n41 w41 s41 h41 t41
              rw [eqv_nil]
              refine iteF ?_
              have h16b := s41 _ _ h16''
              walk_at "qq"
              rename_i l42 G42 H42 n42 w42 s42 h42 t42
              rw [show (ps16.map V.ref).length = (ps39.map V.ref).length by rw [List.length_map, List.length_map, e16]] at h42
              refine r_reprQ (.tup (SqT.of (w42.le _ _ h42)) (.cons (.str _) (.cons (.int _) .nil))) q1 q2 q3 ?_
              walk_at "qq"
              refine ite_nd (fun h => absurd rfl h) fun _ => ?_
              walk_at "qq"
              exact ⟨G42, _, _, _, _, _, _, _, _, _, _, _, _, _, rfl, w42, SI37.trans (s39.trans (s40.trans (s41.trans s42))), ((((P38.same t39).same t40).same t41).same t42).more (by omega)⟩
            · rw [hgF] at hz
              obtain ⟨gs', rfl⟩ : ∃ gs', gs = z :: gs' := by
                cases gs with
                | nil => cases hz
                | cons a r => cases hz; exact ⟨r, rfl⟩
              refine hE _ _ _ ⟨en, G39, [p], Ct, "tool", "tool", .str z, d', w39, rfl, rfl, hd39, by simp, fun l40 G40 H40 w40 s40 t40 h40 => ?_⟩
              have h31'' := s40 _ _ (s39 _ _ h31')
              obtain ⟨y0, e0, nz⟩ := named_strs sg10 _ ((hys.2.2 z).mp (sub.subset (by simp)))
              cases e0
              obtain ⟨q1, q2, q3⟩ := two_show13 (K := K) (G := G40) (x := .str "tool") (y := .str z) (odd_str (z := "tool") (by decide +kernel) (by decide)) (odd_name nz)
              walk_at "qq"
              refine r_reprQ (.tup (SqT.of (w40.le _ _ h40)) (.cons (.str _) (.cons (.str _) .nil))) q1 q2 q3 ?_
              walk_at "qq"
              rename_i l41 G41 H41 n41 w41 s41 h41 t41
              have hstr : ∀ y ∈ z :: gs', PyData.strOk y = true := fun y hy => by
                obtain ⟨y1, e1, ny⟩ := named_strs sg10 _ ((hys.2.2 y).mp (sub.subset hy))
                cases e1
                exact nmOk_str ny
              refine r_neD (.lst (SqL.of (w41.le _ _ (s41 _ _ h31''))) (dp_map V.str PyData.str (fun x => .str x) _)) (.lst (SqL.of (w41.le _ _ h41)) .nil) (shaped_strs hstr) shaped_nil ?_
              rw [eqv_nil]
              refine ⟨_, rfl, ?_⟩
              rw [if_pos (show (!(List.map PyData.str (z :: gs')).isEmpty) = true from rfl)]
              have e0 : atI ((z :: gs').map V.str) 0 = some (.str z) := atI_0 _ _
              have h31b := s41 _ _ h31''
              walk_at "qq"
              rename_i l42 G42 H42 n42 w42 s42 h42 t42
              refine r_reprQ (.tup (SqT.of (w42.le _ _ h42)) (.cons (.str _) (.cons (.str _) .nil))) q1 q2 q3 ?_
              walk_at "qq"
              refine ite_nd (fun h => absurd rfl h) fun _ => ?_
              walk_at "qq"
              exact ⟨G42, _, _, _, _, _, _, _, _, _, _, _, _, _, rfl, w42, SI37.trans (s39.trans (s40.trans (s41.trans s42))), ((((P38.same t39).same t40).same t41).same t42).more (by omega)⟩
    · rintro σ Ha ⟨Gi, x2, x3, x4, x5, x6, x7, x8, x9, x10, x11, x12, x13, x14, rfl, wi, si, Pi⟩
      walk_at "qq"
      exact k _
end
theorem factsL {P : Program} {w : World} {K : PySem.W.Frag} {h : Heap} {mg : Str → Option Value} {f : Addr} (X : K.In h) (G : h.Ns mainGlobals mg) (hfa : mg ("law" : Str) = some (.ref f)) (c : SaysR faL fnL tfL exL h K) (dq : ∀ t ∈ tsL, DicAt K w (t.1 K) t.2) (sq : ∀ d ∈ dsL, fnC K (d.at_ K) = d.val) (hfile : (P.main.file : Str) = fileL) (htop : (P.main.scope.names.lookup ("super" : Str)).isSome = false) :
    f = He.ga K "law" ∧ ∃ fd : FuncData, (∀ (s : Shared) (v : Value), BindsTo s fd ⟨[v], []⟩ [("_law_script", v)]) ∧ ∀ base : Heap, K.In base → base.Ns mainGlobals mg → LamX.TabB base mg (cTA K (He.ga K "law")).1 (cTA K (He.ga K "law")).2 → FnA P w K mg base CX0 18 f fd ["_law_script"] (spLaw K [cTA K (He.ga K "law")]) := by
  have e := c.more
  unfold exL at e
  have T : Bi mg := ⟨He.free_ok X G (c.t.fact 0 (f := .free "int") rfl), He.free_ok X G (c.t.fact 1 (f := .free "len") rfl), He.free_ok X G (c.t.fact 2 (f := .free "abs") rfl), He.free_ok X G (c.t.fact 3 (f := .free "list") rfl), He.free_ok X G (c.t.fact 4 (f := .free "range") rfl), He.free_ok X G (c.t.fact 5 (f := .free "repr") rfl), He.free_ok X G (c.t.fact 6 (f := .free "str") rfl), He.free_ok X G (c.t.fact 7 (f := .free "isinstance") rfl), He.free_ok X G (c.t.fact 8 (f := .free "all") rfl), He.free_ok X G (c.t.fact 9 (f := .free "any") rfl), He.free_ok X G (c.t.fact 10 (f := .free "bool") rfl), He.free_ok X G (c.t.fact 11 (f := .free "tuple") rfl), He.free_ok X G (c.t.fact 12 (f := .free "sorted") rfl), He.free_ok X G (c.t.fact 13 (f := .free "set") rfl), He.free_ok X G (c.t.fact 14 (f := .free "dict") rfl), He.free_ok X G (c.t.fact 15 (f := .free "enumerate") rfl), He.free_ok X G (c.t.fact 16 (f := .free "zip") rfl), He.free_ok X G (c.t.fact 17 (f := .free "min") rfl), He.free_ok X G (c.t.fact 18 (f := .free "max") rfl), He.free_ok X G (c.t.fact 19 (f := .free "ValueError") rfl)⟩
  obtain ⟨xRes, e⟩ := He.ba e
  obtain ⟨xoEN, e⟩ := He.ba e
  obtain ⟨xhEN, e⟩ := He.ba e
  obtain ⟨xoEM, e⟩ := He.ba e
  obtain ⟨xhEM, e⟩ := He.ba e
  obtain ⟨xoES, e⟩ := He.ba e
  obtain ⟨xhES, e⟩ := He.ba e
  obtain ⟨xoNT, e⟩ := He.ba e
  obtain ⟨xhNT, e⟩ := He.ba e
  obtain ⟨xoNL, e⟩ := He.ba e
  obtain ⟨xhNL, e⟩ := He.ba e
  obtain ⟨xSc, e⟩ := He.ba e
  obtain ⟨xSn, e⟩ := He.ba e
  obtain ⟨xSe, e⟩ := He.ba e
  obtain ⟨xSMt, e⟩ := He.ba e
  obtain ⟨xSIBegun, e⟩ := He.ba e
  obtain ⟨xUBegun, e⟩ := He.ba e
  obtain ⟨xSISetBy, e⟩ := He.ba e
  obtain ⟨xUSetBy, e⟩ := He.ba e
  obtain ⟨xSIFound, e⟩ := He.ba e
  obtain ⟨xUFound, e⟩ := He.ba e
  obtain ⟨xSITrusted, e⟩ := He.ba e
  obtain ⟨xUTrusted, e⟩ := He.ba e
  obtain ⟨xSIPassed, e⟩ := He.ba e
  obtain ⟨xUPassed, e⟩ := He.ba e
  obtain ⟨xSIFailed, e⟩ := He.ba e
  obtain ⟨xUFailed, e⟩ := He.ba e
  obtain ⟨xSIAgreed, e⟩ := He.ba e
  obtain ⟨xUAgreed, e⟩ := He.ba e
  obtain ⟨xVAgreed, e⟩ := He.ba e
  obtain ⟨xSIDiffered, e⟩ := He.ba e
  obtain ⟨xUDiffered, e⟩ := He.ba e
  obtain ⟨xVDiffered, e⟩ := He.ba e
  obtain ⟨xSIServed, e⟩ := He.ba e
  obtain ⟨xUServed, e⟩ := He.ba e
  obtain ⟨xVServed, e⟩ := He.ba e
  obtain ⟨xSIBacked, e⟩ := He.ba e
  obtain ⟨xUBacked, e⟩ := He.ba e
  obtain ⟨xVBacked, e⟩ := He.ba e
  obtain ⟨xpTl, e⟩ := He.ba e
  obtain ⟨xpTo, e⟩ := He.ba e
  obtain ⟨xMn, e⟩ := He.ba e
  obtain ⟨xMt, e⟩ := He.ba e
  obtain ⟨xSm, e⟩ := He.ba e
  have xHt := e
  obtain ⟨fdL, FL⟩ : ∃ fd, FnP K "law" "law" sLaw [] (He.ga K "law") fd := c.t.def_ 0
  have z := hfa.symm.trans (He.glo_ok X G (c.t.fact 20 (f := .glo "law") rfl))
  cases z
  have b := FunD.bindsA (ps := ["_law_script"]) FL fun _ _ _ _ _ _ us hl => match us, hl with | [_], _ => rfl
  refine ⟨rfl, fdL, fun s v => b s [v] rfl, fun base _ _ TB => ?_⟩
  obtain ⟨fd0, F0⟩ : ∃ fd, FnP K "is_integer" "is_integer" sIsInt [] (He.ga K "is_integer") fd := c.t.def_ 1
  obtain ⟨fd1, F1⟩ : ∃ fd, FnP K "is_moment" "is_moment" sMoment [.int 0] (He.ga K "is_moment") fd := c.t.def_ 2
  obtain ⟨fd2, F2⟩ : ∃ fd, FnP K "is_name" "is_name" sIsName [] (He.ga K "is_name") fd := c.t.def_ 3
  have NM : Nm K mg := ⟨⟨_, ⟨_, (He.glo_ok X G (c.t.fact 24 (f := .glo "RESERVED") rfl)), rfl⟩, fun H => He.tupB_ok xRes H⟩, (He.str_ok X G (c.t.fact 25 (f := .str "LETTERS" zLetters) rfl)).elim fun t z => ⟨_, z, t, rfl⟩, (He.str_ok X G (c.t.fact 26 (f := .str "FIGURES" zFigures) rfl)).elim fun t z => ⟨_, z, t, rfl⟩,
    (He.int_ok X G (c.t.fact 27 (f := .int "MOST_SIGNS" 8) rfl)).elim fun t z => ⟨_, z, t, rfl⟩, (He.int_ok X G (c.t.fact 28 (f := .int "MOST_MOMENT" 1000000000000000000000000000000) rfl)).elim fun t z => ⟨_, z, t, rfl⟩⟩
  have D0 : Df P w K mg base CX0 1 "is_integer" [] (spIsInt K) := df_of F0 (He.glo_ok X G (c.t.fact 21 (f := .glo "is_integer") rfl)) (ok_isInt F0 T) fun _ _ _ _ _ _ us hl => match us, hl with | [_], _ => rfl
  have D1 : Df P w K mg base CX0 2 "is_moment" [.int 0] (spMoment K) := by
    obtain ⟨ds, vd, bd⟩ := FunD.binds1 (ps := ["thing", "least"]) F1 1 0 (by simp) rfl fun _ _ _ _ _ _ _ us its hl hi => match us, its, hl, hi with | [_], [_], _, _ => ⟨_, rfl, rfl⟩
    exact ⟨_, fd1, _, ds, (He.glo_ok X G (c.t.fact 22 (f := .glo "is_moment") rfl)), F1.kp, bd, vd, ok_moment F1 T NM D0⟩
  have D2 : Df P w K mg base CX0 1 "is_name" [] (spIsName K) := df_of F2 (He.glo_ok X G (c.t.fact 23 (f := .glo "is_name") rfl)) (ok_isName F2 T NM) fun _ _ _ _ _ _ us hl => match us, hl with | [_], _ => rfl
  have Dm2 : Df P w K mg base CX0 2 "is_moment" [] (spMoment K) := by
    obtain ⟨ds, vd, bd⟩ := FunD.binds1 (ps := ["thing", "least"]) F1 2 1 (by simp) rfl fun _ _ _ _ _ _ _ us its hl hi => match us, its, hl, hi with | [_, _], [_], _, _ => ⟨_, rfl, rfl⟩
    exact ⟨_, fd1, _, ds, (He.glo_ok X G (c.t.fact 22 (f := .glo "is_moment") rfl)), F1.kp, bd, vd, ok_moment F1 T NM D0⟩
  obtain ⟨fdEN, FEN⟩ : ∃ fd, FnP K "__init__" "BadName.__init__" sErrN [] (He.ma K (He.ga K "BadName") "__init__") fd := c.t.def_ 4
  have oEN := oexB_ok xoEN
  have hEN := hdB_ok xhEN
  have gEN := (He.glo_ok X G (c.t.fact 30 (f := .glo "BadName") rfl))
  have mEN := He.meth_ok (c.t.fact 29 (f := .meth "BadName" "__init__") rfl)
  have EN : ErD P w K mg base "BadName" (He.ga K "BadName") (spErr1 (He.ga K "BadName") "name") := ⟨_, fdEN, _, oEN, mEN.at_, isFn_ty mEN.fn, gEN, (FEN.bindsN fun _ _ _ _ _ _ us hl => match us, hl with | [_, _], _ => rfl), ok_errN FEN oEN hEN.n⟩
  obtain ⟨fdEM, FEM⟩ : ∃ fd, FnP K "__init__" "BadMoment.__init__" sErrM [] (He.ma K (He.ga K "BadMoment") "__init__") fd := c.t.def_ 5
  have oEM := oexB_ok xoEM
  have hEM := hdB_ok xhEM
  have gEM := (He.glo_ok X G (c.t.fact 32 (f := .glo "BadMoment") rfl))
  have mEM := He.meth_ok (c.t.fact 31 (f := .meth "BadMoment" "__init__") rfl)
  have EM : ErD P w K mg base "BadMoment" (He.ga K "BadMoment") (spErr1 (He.ga K "BadMoment") "moment") := ⟨_, fdEM, _, oEM, mEM.at_, isFn_ty mEM.fn, gEM, (FEM.bindsN fun _ _ _ _ _ _ us hl => match us, hl with | [_, _], _ => rfl), ok_errM FEM oEM hEM.n⟩
  obtain ⟨fdES, FES⟩ : ∃ fd, FnP K "__init__" "BadSaying.__init__" sErrS [] (He.ma K (He.ga K "BadSaying") "__init__") fd := c.t.def_ 6
  have oES := oexB_ok xoES
  have hES := hdB_ok xhES
  have gES := (He.glo_ok X G (c.t.fact 34 (f := .glo "BadSaying") rfl))
  have mES := He.meth_ok (c.t.fact 33 (f := .meth "BadSaying" "__init__") rfl)
  have ES : ErD P w K mg base "BadSaying" (He.ga K "BadSaying") (spErr1 (He.ga K "BadSaying") "value") := ⟨_, fdES, _, oES, mES.at_, isFn_ty mES.fn, gES, (FES.bindsN fun _ _ _ _ _ _ us hl => match us, hl with | [_, _], _ => rfl), ok_errS FES oES hES.n⟩
  obtain ⟨fdNT, FNT⟩ : ∃ fd, FnP K "__init__" "NoTool.__init__" sErrT [] (He.ma K (He.ga K "NoTool") "__init__") fd := c.t.def_ 7
  have oNT := oexB_ok xoNT
  have hNT := hdB_ok xhNT
  have gNT := (He.glo_ok X G (c.t.fact 36 (f := .glo "NoTool") rfl))
  have mNT := He.meth_ok (c.t.fact 35 (f := .meth "NoTool" "__init__") rfl)
  have NT : ErD P w K mg base "NoTool" (He.ga K "NoTool") (spErr1 (He.ga K "NoTool") "tool") := ⟨_, fdNT, _, oNT, mNT.at_, isFn_ty mNT.fn, gNT, (FNT.bindsN fun _ _ _ _ _ _ us hl => match us, hl with | [_, _], _ => rfl), ok_errT FNT oNT hNT.n⟩
  obtain ⟨fdNL, FNL⟩ : ∃ fd, FnP K "__init__" "NoLife.__init__" sErrL [] (He.ma K (He.ga K "NoLife") "__init__") fd := c.t.def_ 8
  have oNL := oexB_ok xoNL
  have hNL := hdB_ok xhNL
  have gNL := (He.glo_ok X G (c.t.fact 38 (f := .glo "NoLife") rfl))
  have mNL := He.meth_ok (c.t.fact 37 (f := .meth "NoLife" "__init__") rfl)
  have NL : ErD P w K mg base "NoLife" (He.ga K "NoLife") (spErr1 (He.ga K "NoLife") "value") := ⟨_, fdNL, _, oNL, mNL.at_, isFn_ty mNL.fn, gNL, (FNL.bindsN fun _ _ _ _ _ _ us hl => match us, hl with | [_, _], _ => rfl), ok_errL FNL oNL hNL.n⟩
  obtain ⟨⟨a1, a2, a3⟩, ⟨b1, b2⟩, c1, c2⟩ := of_decide_eq_true xSe
  have hmSay := (He.glo_ok X G (c.t.fact 39 (f := .glo "Saying") rfl))
  have hSay : Gc mg "Saying" (.ref (He.ga K "Saying")) := ⟨_, hmSay, rfl⟩
  have cl := He.cls_ok (c.t.fact 40 (f := .cls "Saying") rfl)
  have SC : SyC K (He.ga K "Saying") := ⟨cl, He.noat_ok (c.t.fact 42 (f := .noat "Saying" "tool") rfl), He.noat_ok (c.t.fact 43 (f := .noat "Saying" "moment") rfl), He.noat_ok (c.t.fact 44 (f := .noat "Saying" "is_sound") rfl), He.noat_ok (c.t.fact 45 (f := .noat "Saying" "face") rfl),
    He.eqO_ok xSc, a1, a2, a3, b1, b2 _ (by simp), b2 _ (by simp), b2 _ (by simp), b2 _ (by simp), b2 _ (by simp), b2 _ (by simp), b2 _ (by simp), c1, c2 _ (by simp), c2 _ (by simp), c2 _ (by simp), c2 _ (by simp), c2 _ (by simp), c2 _ (by simp), c2 _ (by simp)⟩
  have hne := He.eqO_ok xSn
  have mk := He.mkr_ok (c.t.fact 41 (f := .mkr "Saying") rfl)
  obtain ⟨fdI, FI⟩ : ∃ fd, FnP K "__init__" "Saying.__init__" sSayInit [] (He.ma K (He.ga K "Saying") "__init__") fd := c.t.def_ 9
  have okI := ok_sayInitX FI T SC D2 D1 EN EM ES
  have DS : MkD P w K mg base (L2.CX P w) 3 "Saying" (He.ga K "Saying") [] (spSayX K (He.ga K "Saying") (He.ga K "BadName") (He.ga K "BadMoment") (He.ga K "BadSaying")) := ⟨_, fdI, _, [], hmSay, mk, (FI.bindsN fun _ _ _ _ _ _ us hl => match us, hl with | [_, _, _, _], _ => rfl), .nil, okI⟩
  have hsup : mg "super" = none := He.free_ok X G (c.t.fact 47 (f := .free "super") rfl)
  obtain ⟨fdnN, FnN⟩ : ∃ fd, FnP K "need_name" "need_name" sNeedN [] (He.ga K "need_name") fd := c.t.def_ 10
  have DNN : Df P w K mg base (L2.CX P w) 3 "need_name" [] (spNeedN K (He.ga K "BadName")) := df_of FnN (He.glo_ok X G (c.t.fact 48 (f := .glo "need_name") rfl)) (ok_needN FnN D2 EN) fun _ _ _ _ _ _ us hl => match us, hl with | [_], _ => rfl
  obtain ⟨fdnM, FnM⟩ : ∃ fd, FnP K "need_moment" "need_moment" sNeedM [.int 0] (He.ga K "need_moment") fd := c.t.def_ 11
  have DNM0 : Df P w K mg base (L2.CX P w) 3 "need_moment" [.int 0] (spNeedM K (He.ga K "BadMoment")) := by
    obtain ⟨ds, vd, bd⟩ := FunD.binds1 (ps := ["thing", "least"]) FnM 1 0 (by simp) rfl fun _ _ _ _ _ _ _ us its hl hi => match us, its, hl, hi with | [_], [_], _, _ => ⟨_, rfl, rfl⟩
    exact ⟨_, fdnM, _, ds, (He.glo_ok X G (c.t.fact 49 (f := .glo "need_moment") rfl)), FnM.kp, bd, vd, ok_needM FnM Dm2 EM⟩
  have DNM1 : Df P w K mg base (L2.CX P w) 3 "need_moment" [] (spNeedM K (He.ga K "BadMoment")) := by
    obtain ⟨ds, vd, bd⟩ := FunD.binds1 (ps := ["thing", "least"]) FnM 2 1 (by simp) rfl fun _ _ _ _ _ _ _ us its hl hi => match us, its, hl, hi with | [_, _], [_], _, _ => ⟨_, rfl, rfl⟩
    exact ⟨_, fdnM, _, ds, (He.glo_ok X G (c.t.fact 49 (f := .glo "need_moment") rfl)), FnM.kp, bd, vd, ok_needM FnM Dm2 EM⟩
  obtain ⟨fdRw, FRw⟩ : ∃ fd, FnP K "__init__" "Row.__init__" sRowI [] (He.ma K (He.ga K "Row") "__init__") fd := c.t.def_ 12
  obtain ⟨fdMt, FMt⟩ : ∃ fd, SupD P K "__init__" "Meeting.__init__" sMeetingI (He.ga K "Meeting") (He.ma K (He.ga K "Meeting") "__init__") fd := DefS.sup hfile (sq (dsL.getD 0 default) (List.mem_of_getElem? (i := 0) rfl)) xSMt
  have rcBegun : RwC K (He.ga K "Begun") (["tool", "moment"] : List Str) := ⟨He.cls_ok (c.t.fact 53 (f := .cls "Begun") rfl), He.noat_ok (c.t.fact 55 (f := .noat "Begun" "kind") rfl), He.noat_ok (c.t.fact 56 (f := .noat "Begun" "words") rfl), He.noat_ok (c.t.fact 57 (f := .noat "Begun" "named") rfl), He.noat_ok (c.t.fact 58 (f := .noat "Begun" "told_at") rfl), fun f hf => by
    simp only [List.mem_cons, List.not_mem_nil, or_false] at hf
    rcases hf with rfl | rfl
    · exact He.noat_ok (c.t.fact 59 (f := .noat "Begun" "tool") rfl)
    · exact He.noat_ok (c.t.fact 60 (f := .noat "Begun" "moment") rfl)⟩
  obtain ⟨fdIBegun, FIBegun⟩ : ∃ fd, SupD P K "__init__" "Begun.__init__" sBegunI (He.ga K "Begun") (He.ma K (He.ga K "Begun") "__init__") fd := DefS.sup hfile (sq (dsL.getD 1 default) (List.mem_of_getElem? (i := 1) rfl)) xSIBegun
  have okIBegun := ok_BegunI (Cn := (He.ga K "BadName")) (Cm := (He.ga K "BadMoment")) (Cs := (He.ga K "BadSaying")) FIBegun T rcBegun hsup htop DNN DNM0 DNM1 (supB_ok xUBegun) (ok_rowI (P := P) (w := w) (mg := mg) (base := base) FRw rcBegun) (FRw.bindsN fun _ _ _ _ _ _ us hl => match us, hl with | [_, _, _, _, _], _ => rfl)
  have KBegun : MkD P w K mg base (L2.CX P w) 4 "Begun" (He.ga K "Begun") [] (spRowI K (He.ga K "Begun") (He.ga K "BadName") (He.ga K "BadMoment") (He.ga K "BadSaying") "begun" [] ([Sg.n, Sg.m 1] : List Sg) (["tool", "moment"] : List Str)) := ⟨_, fdIBegun, _, [], (He.glo_ok X G (c.t.fact 52 (f := .glo "Begun") rfl)), He.mkr_ok (c.t.fact 54 (f := .mkr "Begun") rfl), (FIBegun.binds fun _ _ _ _ _ _ _ us hl => match us, hl with | [_, _, _], _ => rfl), .nil, okIBegun⟩
  have rcSetBy : RwC K (He.ga K "SetBy") (["tool", "moment", "by"] : List Str) := ⟨He.cls_ok (c.t.fact 63 (f := .cls "SetBy") rfl), He.noat_ok (c.t.fact 65 (f := .noat "SetBy" "kind") rfl), He.noat_ok (c.t.fact 66 (f := .noat "SetBy" "words") rfl), He.noat_ok (c.t.fact 67 (f := .noat "SetBy" "named") rfl), He.noat_ok (c.t.fact 68 (f := .noat "SetBy" "told_at") rfl), fun f hf => by
    simp only [List.mem_cons, List.not_mem_nil, or_false] at hf
    rcases hf with rfl | rfl | rfl
    · exact He.noat_ok (c.t.fact 69 (f := .noat "SetBy" "tool") rfl)
    · exact He.noat_ok (c.t.fact 70 (f := .noat "SetBy" "moment") rfl)
    · exact He.noat_ok (c.t.fact 71 (f := .noat "SetBy" "by") rfl)⟩
  obtain ⟨fdISetBy, FISetBy⟩ : ∃ fd, SupD P K "__init__" "SetBy.__init__" sSetByI (He.ga K "SetBy") (He.ma K (He.ga K "SetBy") "__init__") fd := DefS.sup hfile (sq (dsL.getD 2 default) (List.mem_of_getElem? (i := 2) rfl)) xSISetBy
  have okISetBy := ok_SetByI (Cn := (He.ga K "BadName")) (Cm := (He.ga K "BadMoment")) (Cs := (He.ga K "BadSaying")) FISetBy T rcSetBy hsup htop DNN DNM0 DNM1 (supB_ok xUSetBy) (ok_rowI (P := P) (w := w) (mg := mg) (base := base) FRw rcSetBy) (FRw.bindsN fun _ _ _ _ _ _ us hl => match us, hl with | [_, _, _, _, _], _ => rfl)
  have KSetBy : MkD P w K mg base (L2.CX P w) 4 "SetBy" (He.ga K "SetBy") [] (spRowI K (He.ga K "SetBy") (He.ga K "BadName") (He.ga K "BadMoment") (He.ga K "BadSaying") "setby" [] ([Sg.n, Sg.m 1, Sg.n] : List Sg) (["tool", "moment", "by"] : List Str)) := ⟨_, fdISetBy, _, [], (He.glo_ok X G (c.t.fact 62 (f := .glo "SetBy") rfl)), He.mkr_ok (c.t.fact 64 (f := .mkr "SetBy") rfl), (FISetBy.binds fun _ _ _ _ _ _ _ us hl => match us, hl with | [_, _, _, _], _ => rfl), .nil, okISetBy⟩
  have rcFound : RwC K (He.ga K "Found") (["tool", "moment", "is_sound"] : List Str) := ⟨He.cls_ok (c.t.fact 74 (f := .cls "Found") rfl), He.noat_ok (c.t.fact 76 (f := .noat "Found" "kind") rfl), He.noat_ok (c.t.fact 77 (f := .noat "Found" "words") rfl), He.noat_ok (c.t.fact 78 (f := .noat "Found" "named") rfl), He.noat_ok (c.t.fact 79 (f := .noat "Found" "told_at") rfl), fun f hf => by
    simp only [List.mem_cons, List.not_mem_nil, or_false] at hf
    rcases hf with rfl | rfl | rfl
    · exact He.noat_ok (c.t.fact 80 (f := .noat "Found" "tool") rfl)
    · exact He.noat_ok (c.t.fact 81 (f := .noat "Found" "moment") rfl)
    · exact He.noat_ok (c.t.fact 82 (f := .noat "Found" "is_sound") rfl)⟩
  obtain ⟨fdIFound, FIFound⟩ : ∃ fd, SupD P K "__init__" "Found.__init__" sFoundI (He.ga K "Found") (He.ma K (He.ga K "Found") "__init__") fd := DefS.sup hfile (sq (dsL.getD 3 default) (List.mem_of_getElem? (i := 3) rfl)) xSIFound
  have okIFound := ok_FoundI (Cn := (He.ga K "BadName")) (Cm := (He.ga K "BadMoment")) (Cs := (He.ga K "BadSaying")) FIFound T rcFound hsup htop DNN DNM0 DNM1 ES (supB_ok xUFound) (ok_rowI (P := P) (w := w) (mg := mg) (base := base) FRw rcFound) (FRw.bindsN fun _ _ _ _ _ _ us hl => match us, hl with | [_, _, _, _, _], _ => rfl)
  have KFound : MkD P w K mg base (L2.CX P w) 4 "Found" (He.ga K "Found") [] (spRowI K (He.ga K "Found") (He.ga K "BadName") (He.ga K "BadMoment") (He.ga K "BadSaying") "found" [] ([Sg.n, Sg.m 0, Sg.t] : List Sg) (["tool", "moment", "is_sound"] : List Str)) := ⟨_, fdIFound, _, [], (He.glo_ok X G (c.t.fact 73 (f := .glo "Found") rfl)), He.mkr_ok (c.t.fact 75 (f := .mkr "Found") rfl), (FIFound.binds fun _ _ _ _ _ _ _ us hl => match us, hl with | [_, _, _, _], _ => rfl), .nil, okIFound⟩
  have rcTrusted : RwC K (He.ga K "Trusted") (["tool"] : List Str) := ⟨He.cls_ok (c.t.fact 85 (f := .cls "Trusted") rfl), He.noat_ok (c.t.fact 87 (f := .noat "Trusted" "kind") rfl), He.noat_ok (c.t.fact 88 (f := .noat "Trusted" "words") rfl), He.noat_ok (c.t.fact 89 (f := .noat "Trusted" "named") rfl), He.noat_ok (c.t.fact 90 (f := .noat "Trusted" "told_at") rfl), fun f hf => by
    simp only [List.mem_cons, List.not_mem_nil, or_false] at hf
    rcases hf with rfl
    · exact He.noat_ok (c.t.fact 91 (f := .noat "Trusted" "tool") rfl)⟩
  obtain ⟨fdITrusted, FITrusted⟩ : ∃ fd, SupD P K "__init__" "Trusted.__init__" sTrustedI (He.ga K "Trusted") (He.ma K (He.ga K "Trusted") "__init__") fd := DefS.sup hfile (sq (dsL.getD 4 default) (List.mem_of_getElem? (i := 4) rfl)) xSITrusted
  have okITrusted := ok_TrustedI (Cn := (He.ga K "BadName")) (Cm := (He.ga K "BadMoment")) (Cs := (He.ga K "BadSaying")) FITrusted T rcTrusted hsup htop DNN DNM0 DNM1 (supB_ok xUTrusted) (ok_rowI (P := P) (w := w) (mg := mg) (base := base) FRw rcTrusted) (FRw.bindsN fun _ _ _ _ _ _ us hl => match us, hl with | [_, _, _, _, _], _ => rfl)
  have KTrusted : MkD P w K mg base (L2.CX P w) 4 "Trusted" (He.ga K "Trusted") [] (spRowI K (He.ga K "Trusted") (He.ga K "BadName") (He.ga K "BadMoment") (He.ga K "BadSaying") "trusted" [] ([Sg.n] : List Sg) (["tool"] : List Str)) := ⟨_, fdITrusted, _, [], (He.glo_ok X G (c.t.fact 84 (f := .glo "Trusted") rfl)), He.mkr_ok (c.t.fact 86 (f := .mkr "Trusted") rfl), (FITrusted.binds fun _ _ _ _ _ _ _ us hl => match us, hl with | [_, _], _ => rfl), .nil, okITrusted⟩
  have rcPassed : RwC K (He.ga K "Passed") (["tool", "moment", "by"] : List Str) := ⟨He.cls_ok (c.t.fact 94 (f := .cls "Passed") rfl), He.noat_ok (c.t.fact 96 (f := .noat "Passed" "kind") rfl), He.noat_ok (c.t.fact 97 (f := .noat "Passed" "words") rfl), He.noat_ok (c.t.fact 98 (f := .noat "Passed" "named") rfl), He.noat_ok (c.t.fact 99 (f := .noat "Passed" "told_at") rfl), fun f hf => by
    simp only [List.mem_cons, List.not_mem_nil, or_false] at hf
    rcases hf with rfl | rfl | rfl
    · exact He.noat_ok (c.t.fact 100 (f := .noat "Passed" "tool") rfl)
    · exact He.noat_ok (c.t.fact 101 (f := .noat "Passed" "moment") rfl)
    · exact He.noat_ok (c.t.fact 102 (f := .noat "Passed" "by") rfl)⟩
  obtain ⟨fdIPassed, FIPassed⟩ : ∃ fd, SupD P K "__init__" "Passed.__init__" sPassedI (He.ga K "Passed") (He.ma K (He.ga K "Passed") "__init__") fd := DefS.sup hfile (sq (dsL.getD 5 default) (List.mem_of_getElem? (i := 5) rfl)) xSIPassed
  have okIPassed := ok_PassedI (Cn := (He.ga K "BadName")) (Cm := (He.ga K "BadMoment")) (Cs := (He.ga K "BadSaying")) FIPassed T rcPassed hsup htop DNN DNM0 DNM1 (supB_ok xUPassed) (ok_rowI (P := P) (w := w) (mg := mg) (base := base) FRw rcPassed) (FRw.bindsN fun _ _ _ _ _ _ us hl => match us, hl with | [_, _, _, _, _], _ => rfl)
  have KPassed : MkD P w K mg base (L2.CX P w) 4 "Passed" (He.ga K "Passed") [] (spRowI K (He.ga K "Passed") (He.ga K "BadName") (He.ga K "BadMoment") (He.ga K "BadSaying") "passed" [] ([Sg.n, Sg.m 0, Sg.n] : List Sg) (["tool", "moment", "by"] : List Str)) := ⟨_, fdIPassed, _, [], (He.glo_ok X G (c.t.fact 93 (f := .glo "Passed") rfl)), He.mkr_ok (c.t.fact 95 (f := .mkr "Passed") rfl), (FIPassed.binds fun _ _ _ _ _ _ _ us hl => match us, hl with | [_, _, _, _], _ => rfl), .nil, okIPassed⟩
  have rcFailed : RwC K (He.ga K "Failed") (["tool", "moment", "by"] : List Str) := ⟨He.cls_ok (c.t.fact 105 (f := .cls "Failed") rfl), He.noat_ok (c.t.fact 107 (f := .noat "Failed" "kind") rfl), He.noat_ok (c.t.fact 108 (f := .noat "Failed" "words") rfl), He.noat_ok (c.t.fact 109 (f := .noat "Failed" "named") rfl), He.noat_ok (c.t.fact 110 (f := .noat "Failed" "told_at") rfl), fun f hf => by
    simp only [List.mem_cons, List.not_mem_nil, or_false] at hf
    rcases hf with rfl | rfl | rfl
    · exact He.noat_ok (c.t.fact 111 (f := .noat "Failed" "tool") rfl)
    · exact He.noat_ok (c.t.fact 112 (f := .noat "Failed" "moment") rfl)
    · exact He.noat_ok (c.t.fact 113 (f := .noat "Failed" "by") rfl)⟩
  obtain ⟨fdIFailed, FIFailed⟩ : ∃ fd, SupD P K "__init__" "Failed.__init__" sFailedI (He.ga K "Failed") (He.ma K (He.ga K "Failed") "__init__") fd := DefS.sup hfile (sq (dsL.getD 6 default) (List.mem_of_getElem? (i := 6) rfl)) xSIFailed
  have okIFailed := ok_FailedI (Cn := (He.ga K "BadName")) (Cm := (He.ga K "BadMoment")) (Cs := (He.ga K "BadSaying")) FIFailed T rcFailed hsup htop DNN DNM0 DNM1 (supB_ok xUFailed) (ok_rowI (P := P) (w := w) (mg := mg) (base := base) FRw rcFailed) (FRw.bindsN fun _ _ _ _ _ _ us hl => match us, hl with | [_, _, _, _, _], _ => rfl)
  have KFailed : MkD P w K mg base (L2.CX P w) 4 "Failed" (He.ga K "Failed") [] (spRowI K (He.ga K "Failed") (He.ga K "BadName") (He.ga K "BadMoment") (He.ga K "BadSaying") "failed" [] ([Sg.n, Sg.m 0, Sg.n] : List Sg) (["tool", "moment", "by"] : List Str)) := ⟨_, fdIFailed, _, [], (He.glo_ok X G (c.t.fact 104 (f := .glo "Failed") rfl)), He.mkr_ok (c.t.fact 106 (f := .mkr "Failed") rfl), (FIFailed.binds fun _ _ _ _ _ _ _ us hl => match us, hl with | [_, _, _, _], _ => rfl), .nil, okIFailed⟩
  have rcAgreed : RwC K (He.ga K "Agreed") (["one", "moment", "other", "later"] : List Str) := ⟨He.cls_ok (c.t.fact 116 (f := .cls "Agreed") rfl), He.noat_ok (c.t.fact 118 (f := .noat "Agreed" "kind") rfl), He.noat_ok (c.t.fact 119 (f := .noat "Agreed" "words") rfl), He.noat_ok (c.t.fact 120 (f := .noat "Agreed" "named") rfl), He.noat_ok (c.t.fact 121 (f := .noat "Agreed" "told_at") rfl), fun f hf => by
    simp only [List.mem_cons, List.not_mem_nil, or_false] at hf
    rcases hf with rfl | rfl | rfl | rfl
    · exact He.noat_ok (c.t.fact 122 (f := .noat "Agreed" "one") rfl)
    · exact He.noat_ok (c.t.fact 123 (f := .noat "Agreed" "moment") rfl)
    · exact He.noat_ok (c.t.fact 124 (f := .noat "Agreed" "other") rfl)
    · exact He.noat_ok (c.t.fact 125 (f := .noat "Agreed" "later") rfl)⟩
  obtain ⟨fdIAgreed, FIAgreed⟩ : ∃ fd, SupD P K "__init__" "Agreed.__init__" sAgreedI (He.ga K "Agreed") (He.ma K (He.ga K "Agreed") "__init__") fd := DefS.sup hfile (sq (dsL.getD 7 default) (List.mem_of_getElem? (i := 7) rfl)) xSIAgreed
  have okMAgreed := ok_MeetingI (Cn := (He.ga K "BadName")) (Cm := (He.ga K "BadMoment")) (Cs := (He.ga K "BadSaying")) "agreed" FMt T rcAgreed hsup htop DNN DNM0 DNM1 (supB_ok xVAgreed) (ok_rowI (P := P) (w := w) (mg := mg) (base := base) FRw rcAgreed) (FRw.bindsN fun _ _ _ _ _ _ us hl => match us, hl with | [_, _, _, _, _], _ => rfl)
  have okIAgreed := ok_AgreedI FIAgreed hsup htop (supB_ok xUAgreed) okMAgreed (FMt.binds fun _ _ _ _ _ _ _ us hl => match us, hl with | [_, _, _, _, _, _], _ => rfl)
  have KAgreed : MkD P w K mg base (L2.CX P w) 5 "Agreed" (He.ga K "Agreed") [] (spRowI K (He.ga K "Agreed") (He.ga K "BadName") (He.ga K "BadMoment") (He.ga K "BadSaying") "agreed" [] ([Sg.n, Sg.m 0, Sg.n, Sg.m 0] : List Sg) (["one", "moment", "other", "later"] : List Str)) := ⟨_, fdIAgreed, _, [], (He.glo_ok X G (c.t.fact 115 (f := .glo "Agreed") rfl)), He.mkr_ok (c.t.fact 117 (f := .mkr "Agreed") rfl), (FIAgreed.binds fun _ _ _ _ _ _ _ us hl => match us, hl with | [_, _, _, _, _], _ => rfl), .nil, okIAgreed⟩
  have rcDiffered : RwC K (He.ga K "Differed") (["one", "moment", "other", "later"] : List Str) := ⟨He.cls_ok (c.t.fact 128 (f := .cls "Differed") rfl), He.noat_ok (c.t.fact 130 (f := .noat "Differed" "kind") rfl), He.noat_ok (c.t.fact 131 (f := .noat "Differed" "words") rfl), He.noat_ok (c.t.fact 132 (f := .noat "Differed" "named") rfl), He.noat_ok (c.t.fact 133 (f := .noat "Differed" "told_at") rfl), fun f hf => by
    simp only [List.mem_cons, List.not_mem_nil, or_false] at hf
    rcases hf with rfl | rfl | rfl | rfl
    · exact He.noat_ok (c.t.fact 134 (f := .noat "Differed" "one") rfl)
    · exact He.noat_ok (c.t.fact 135 (f := .noat "Differed" "moment") rfl)
    · exact He.noat_ok (c.t.fact 136 (f := .noat "Differed" "other") rfl)
    · exact He.noat_ok (c.t.fact 137 (f := .noat "Differed" "later") rfl)⟩
  obtain ⟨fdIDiffered, FIDiffered⟩ : ∃ fd, SupD P K "__init__" "Differed.__init__" sDifferedI (He.ga K "Differed") (He.ma K (He.ga K "Differed") "__init__") fd := DefS.sup hfile (sq (dsL.getD 8 default) (List.mem_of_getElem? (i := 8) rfl)) xSIDiffered
  have okMDiffered := ok_MeetingI (Cn := (He.ga K "BadName")) (Cm := (He.ga K "BadMoment")) (Cs := (He.ga K "BadSaying")) "differed" FMt T rcDiffered hsup htop DNN DNM0 DNM1 (supB_ok xVDiffered) (ok_rowI (P := P) (w := w) (mg := mg) (base := base) FRw rcDiffered) (FRw.bindsN fun _ _ _ _ _ _ us hl => match us, hl with | [_, _, _, _, _], _ => rfl)
  have okIDiffered := ok_DifferedI FIDiffered hsup htop (supB_ok xUDiffered) okMDiffered (FMt.binds fun _ _ _ _ _ _ _ us hl => match us, hl with | [_, _, _, _, _, _], _ => rfl)
  have KDiffered : MkD P w K mg base (L2.CX P w) 5 "Differed" (He.ga K "Differed") [] (spRowI K (He.ga K "Differed") (He.ga K "BadName") (He.ga K "BadMoment") (He.ga K "BadSaying") "differed" [] ([Sg.n, Sg.m 0, Sg.n, Sg.m 0] : List Sg) (["one", "moment", "other", "later"] : List Str)) := ⟨_, fdIDiffered, _, [], (He.glo_ok X G (c.t.fact 127 (f := .glo "Differed") rfl)), He.mkr_ok (c.t.fact 129 (f := .mkr "Differed") rfl), (FIDiffered.binds fun _ _ _ _ _ _ _ us hl => match us, hl with | [_, _, _, _, _], _ => rfl), .nil, okIDiffered⟩
  have rcServed : RwC K (He.ga K "Served") (["one", "moment", "other", "later"] : List Str) := ⟨He.cls_ok (c.t.fact 140 (f := .cls "Served") rfl), He.noat_ok (c.t.fact 142 (f := .noat "Served" "kind") rfl), He.noat_ok (c.t.fact 143 (f := .noat "Served" "words") rfl), He.noat_ok (c.t.fact 144 (f := .noat "Served" "named") rfl), He.noat_ok (c.t.fact 145 (f := .noat "Served" "told_at") rfl), fun f hf => by
    simp only [List.mem_cons, List.not_mem_nil, or_false] at hf
    rcases hf with rfl | rfl | rfl | rfl
    · exact He.noat_ok (c.t.fact 146 (f := .noat "Served" "one") rfl)
    · exact He.noat_ok (c.t.fact 147 (f := .noat "Served" "moment") rfl)
    · exact He.noat_ok (c.t.fact 148 (f := .noat "Served" "other") rfl)
    · exact He.noat_ok (c.t.fact 149 (f := .noat "Served" "later") rfl)⟩
  obtain ⟨fdIServed, FIServed⟩ : ∃ fd, SupD P K "__init__" "Served.__init__" sServedI (He.ga K "Served") (He.ma K (He.ga K "Served") "__init__") fd := DefS.sup hfile (sq (dsL.getD 9 default) (List.mem_of_getElem? (i := 9) rfl)) xSIServed
  have okMServed := ok_MeetingI (Cn := (He.ga K "BadName")) (Cm := (He.ga K "BadMoment")) (Cs := (He.ga K "BadSaying")) "served" FMt T rcServed hsup htop DNN DNM0 DNM1 (supB_ok xVServed) (ok_rowI (P := P) (w := w) (mg := mg) (base := base) FRw rcServed) (FRw.bindsN fun _ _ _ _ _ _ us hl => match us, hl with | [_, _, _, _, _], _ => rfl)
  have okIServed := ok_ServedI FIServed hsup htop (supB_ok xUServed) okMServed (FMt.binds fun _ _ _ _ _ _ _ us hl => match us, hl with | [_, _, _, _, _, _], _ => rfl)
  have KServed : MkD P w K mg base (L2.CX P w) 5 "Served" (He.ga K "Served") [] (spRowI K (He.ga K "Served") (He.ga K "BadName") (He.ga K "BadMoment") (He.ga K "BadSaying") "served" [] ([Sg.n, Sg.m 0, Sg.n, Sg.m 0] : List Sg) (["one", "moment", "other", "later"] : List Str)) := ⟨_, fdIServed, _, [], (He.glo_ok X G (c.t.fact 139 (f := .glo "Served") rfl)), He.mkr_ok (c.t.fact 141 (f := .mkr "Served") rfl), (FIServed.binds fun _ _ _ _ _ _ _ us hl => match us, hl with | [_, _, _, _, _], _ => rfl), .nil, okIServed⟩
  have rcBacked : RwC K (He.ga K "Backed") (["one", "moment", "other", "later"] : List Str) := ⟨He.cls_ok (c.t.fact 152 (f := .cls "Backed") rfl), He.noat_ok (c.t.fact 154 (f := .noat "Backed" "kind") rfl), He.noat_ok (c.t.fact 155 (f := .noat "Backed" "words") rfl), He.noat_ok (c.t.fact 156 (f := .noat "Backed" "named") rfl), He.noat_ok (c.t.fact 157 (f := .noat "Backed" "told_at") rfl), fun f hf => by
    simp only [List.mem_cons, List.not_mem_nil, or_false] at hf
    rcases hf with rfl | rfl | rfl | rfl
    · exact He.noat_ok (c.t.fact 158 (f := .noat "Backed" "one") rfl)
    · exact He.noat_ok (c.t.fact 159 (f := .noat "Backed" "moment") rfl)
    · exact He.noat_ok (c.t.fact 160 (f := .noat "Backed" "other") rfl)
    · exact He.noat_ok (c.t.fact 161 (f := .noat "Backed" "later") rfl)⟩
  obtain ⟨fdIBacked, FIBacked⟩ : ∃ fd, SupD P K "__init__" "Backed.__init__" sBackedI (He.ga K "Backed") (He.ma K (He.ga K "Backed") "__init__") fd := DefS.sup hfile (sq (dsL.getD 10 default) (List.mem_of_getElem? (i := 10) rfl)) xSIBacked
  have okMBacked := ok_MeetingI (Cn := (He.ga K "BadName")) (Cm := (He.ga K "BadMoment")) (Cs := (He.ga K "BadSaying")) "backed" FMt T rcBacked hsup htop DNN DNM0 DNM1 (supB_ok xVBacked) (ok_rowI (P := P) (w := w) (mg := mg) (base := base) FRw rcBacked) (FRw.bindsN fun _ _ _ _ _ _ us hl => match us, hl with | [_, _, _, _, _], _ => rfl)
  have okIBacked := ok_BackedI FIBacked hsup htop (supB_ok xUBacked) okMBacked (FMt.binds fun _ _ _ _ _ _ _ us hl => match us, hl with | [_, _, _, _, _, _], _ => rfl)
  have KBacked : MkD P w K mg base (L2.CX P w) 5 "Backed" (He.ga K "Backed") [] (spRowI K (He.ga K "Backed") (He.ga K "BadName") (He.ga K "BadMoment") (He.ga K "BadSaying") "backed" [] ([Sg.n, Sg.m 0, Sg.n, Sg.m 0] : List Sg) (["one", "moment", "other", "later"] : List Str)) := ⟨_, fdIBacked, _, [], (He.glo_ok X G (c.t.fact 151 (f := .glo "Backed") rfl)), He.mkr_ok (c.t.fact 153 (f := .mkr "Backed") rfl), (FIBacked.binds fun _ _ _ _ _ _ _ us hl => match us, hl with | [_, _, _, _, _], _ => rfl), .nil, okIBacked⟩
  have RK : ∀ i, i < 10 → Cls K (clsR K i) ∧ NoAttr K (clsR K i) "kind" := fun i hi => by
    rcases (by omega : i = 0 ∨ i = 1 ∨ i = 2 ∨ i = 3 ∨ i = 4 ∨ i = 5 ∨ i = 6 ∨ i = 7 ∨ i = 8 ∨ i = 9) with rfl | rfl | rfl | rfl | rfl | rfl | rfl | rfl | rfl | rfl
    · exact ⟨rcBegun.c, rcBegun.k⟩
    · exact ⟨rcSetBy.c, rcSetBy.k⟩
    · exact ⟨rcFound.c, rcFound.k⟩
    · exact ⟨rcTrusted.c, rcTrusted.k⟩
    · exact ⟨rcPassed.c, rcPassed.k⟩
    · exact ⟨rcFailed.c, rcFailed.k⟩
    · exact ⟨rcAgreed.c, rcAgreed.k⟩
    · exact ⟨rcDiffered.c, rcDiffered.k⟩
    · exact ⟨rcServed.c, rcServed.k⟩
    · exact ⟨rcBacked.c, rcBacked.k⟩
  have RCs : ∀ i, i < 10 → RwC K (clsR K i) (flN i) := fun i hi => by
    rcases (by omega : i = 0 ∨ i = 1 ∨ i = 2 ∨ i = 3 ∨ i = 4 ∨ i = 5 ∨ i = 6 ∨ i = 7 ∨ i = 8 ∨ i = 9) with rfl | rfl | rfl | rfl | rfl | rfl | rfl | rfl | rfl | rfl
    · exact rcBegun
    · exact rcSetBy
    · exact rcFound
    · exact rcTrusted
    · exact rcPassed
    · exact rcFailed
    · exact rcAgreed
    · exact rcDiffered
    · exact rcServed
    · exact rcBacked
  have hmLv := (He.glo_ok X G (c.t.fact 163 (f := .glo "Lives") rfl))
  have hLives : Gc mg "Lives" (.ref (He.ga K "Lives")) := ⟨_, hmLv, rfl⟩
  have LC : LvC K (He.ga K "Lives") := ⟨He.cls_ok (c.t.fact 164 (f := .cls "Lives") rfl), He.noat_ok (c.t.fact 166 (f := .noat "Lives" "by_tool") rfl)⟩
  have mkLv := He.mkr_ok (c.t.fact 165 (f := .mkr "Lives") rfl)
  obtain ⟨fdLI, FLI⟩ : ∃ fd, FnP K "__init__" "Lives.__init__" sLvInit [] (He.ma K (He.ga K "Lives") "__init__") fd := c.t.def_ 13
  have okLI := ok_lvInit (C := (He.ga K "Lives")) FLI T LC D2 Dm2 EN EM
  have DL : MkD P w K mg base (L2.CX P w) 3 "Lives" (He.ga K "Lives") [] (spLives K (He.ga K "Lives") (He.ga K "BadName") (He.ga K "BadMoment")) := ⟨_, fdLI, _, [], hmLv, mkLv, (FLI.bindsN fun _ _ _ _ _ _ us hl => match us, hl with | [_, _], _ => rfl), .nil, okLI⟩
  have hPair : Gc mg "PAIR" (.int 2) := (He.int_ok X G (c.t.fact 168 (f := .int "PAIR" 2) rfl)).elim fun t z => ⟨_, z, t, rfl⟩
  obtain ⟨fdLB, FLB⟩ : ∃ fd, FnP K "beginnings" "Lives.beginnings" sLvBeg [] (He.ma K (He.ga K "Lives") "beginnings") fd := c.t.def_ 14
  obtain ⟨fdLH, FLH⟩ : ∃ fd, FnP K "__contains__" "Lives.__contains__" sLvHas [] (He.ma K (He.ga K "Lives") "__contains__") fd := c.t.def_ 15
  obtain ⟨fdLa, FLa⟩ : ∃ fd, FnP K "last_of" "Lives.last_of" sLvLast [] (He.ma K (He.ga K "Lives") "last_of") fd := c.t.def_ 16
  have okLB := ok_lvBeg FLB T LC NT
  have mLB := He.meth_ok (c.t.fact 169 (f := .meth "Lives" "beginnings") rfl)
  have DBg : MetD P w K mg base (L2.CX P w) 3 (He.ga K "Lives") "beginnings" [] (spBegin K (He.ga K "Lives") (He.ga K "NoTool")) := ⟨_, fdLB, _, [], He.cls_ok (c.t.fact 164 (f := .cls "Lives") rfl), mLB, (FLB.bindsN fun _ _ _ _ _ _ us hl => match us, hl with | [_, _], _ => rfl), .nil, okLB⟩
  have mLB := He.meth_ok (c.t.fact 169 (f := .meth "Lives" "beginnings") rfl)
  have DBgK : MetK P w K mg base (L2.CX P w) 3 (He.ga K "Lives") "beginnings" ["tool"] (fun vs zs => vs ++ zs) (spBegin K (He.ga K "Lives") (He.ga K "NoTool")) := ⟨_, fdLB, _, _, He.cls_ok (c.t.fact 164 (f := .cls "Lives") rfl), mLB, kbn_of FLB 1 ["tool"] (fun us ws => us ++ ws) (fun r1 r2 => r1.append r2) fun _ _ _ _ _ _ us ws l1 l2 => match us, ws, l1, l2 with | [_], [_], _, _ => rfl, okLB⟩
  have okLH := ok_lvHas FLH T LC hPair D0
  have mLH := He.meth_ok (c.t.fact 170 (f := .meth "Lives" "__contains__") rfl)
  have DHs : SpD P w K mg base CX0 2 (He.ga K "Lives") "__contains__" (spHas K (He.ga K "Lives")) := ⟨_, fdLH, _, mLH.at_, mLH.fn, (FLH.bindsN fun _ _ _ _ _ _ us hl => match us, hl with | [_, _], _ => rfl), okLH⟩
  have okLa := ok_lvLast FLa T LC NM DHs NL
  have mLa := He.meth_ok (c.t.fact 171 (f := .meth "Lives" "last_of") rfl)
  have DLa : MetD P w K mg base (L2.CX P w) 5 (He.ga K "Lives") "last_of" [] (spLastOf K (He.ga K "Lives") (He.ga K "NoLife")) := ⟨_, fdLa, _, [], He.cls_ok (c.t.fact 164 (f := .cls "Lives") rfl), mLa, (FLa.bindsN fun _ _ _ _ _ _ us hl => match us, hl with | [_, _], _ => rfl), .nil, okLa⟩
  have mLa := He.meth_ok (c.t.fact 171 (f := .meth "Lives" "last_of") rfl)
  have DLaK : MetK P w K mg base (L2.CX P w) 5 (He.ga K "Lives") "last_of" ["life"] (fun vs zs => vs ++ zs) (spLastOf K (He.ga K "Lives") (He.ga K "NoLife")) := ⟨_, fdLa, _, _, He.cls_ok (c.t.fact 164 (f := .cls "Lives") rfl), mLa, kbn_of FLa 1 ["life"] (fun us ws => us ++ ws) (fun r1 r2 => r1.append r2) fun _ _ _ _ _ _ us ws l1 l2 => match us, ws, l1, l2 with | [_], [_], _, _ => rfl, okLa⟩
  obtain ⟨fdTl, FTl⟩ : ∃ fd, FnP K "tools" "Lives.tools" sLvTools [] (getterOf K (He.ma K (He.ga K "Lives") "tools")) fd := c.t.def_ 17
  have DTl : PrD P w K mg base CX0 1 (He.ga K "Lives") "tools" (spTools (He.ga K "Lives")) := ⟨_, _, fdTl, _, He.cls_ok (c.t.fact 164 (f := .cls "Lives") rfl), propB_ok xpTl, (FTl.bindsN fun _ _ _ _ _ _ us hl => match us, hl with | [_], _ => rfl), ok_lvTools FTl T LC⟩
  obtain ⟨fdTo, FTo⟩ : ∃ fd, FnP K "tools" "Row.tools" sTools [] (getterOf K (He.ma K (He.ga K "Row") "tools")) fd := c.t.def_ 18
  have DTo : ∀ i, i < 10 → PrD P w K mg base CX0 1 (clsR K i) "tools" (spRowTools K (clsR K)) := fun i hi => ⟨_, _, fdTo, _, (RCs i hi).c, propAll_ok xpTo i hi, (FTo.bindsN fun _ _ _ _ _ _ us hl => match us, hl with | [_], _ => rfl), ok_tools (CL := clsR K) FTo T RCs⟩
  obtain ⟨fdNt, FNt⟩ : ∃ fd, FnP K "need_tools" "Row.need_tools" sNeedT [] (He.ma K (He.ga K "Row") "need_tools") fd := c.t.def_ 19
  have okNt := ok_needT (CL := clsR K) FNt DTo DTl NT
  have DNT : ∀ i, i < 10 → MetD P w K mg base (L2.CX P w) 4 (clsR K i) "need_tools" [] (spNeedTools K (clsR K) (He.ga K "Lives") (He.ga K "NoTool")) := fun i hi => ⟨_, fdNt, _, [], (RCs i hi).c, meAll_ok xMn i hi, (FNt.bindsN fun _ _ _ _ _ _ us hl => match us, hl with | [_, _], _ => rfl), .nil, okNt⟩
  obtain ⟨fdex, Fex⟩ : ∃ fd, FnP K "excluded" "excluded" sExcl [] (He.ga K "excluded") fd := c.t.def_ 20
  have Dex : Df P w K mg base CX0 1 "excluded" [] spExcl := df_of Fex (He.glo_ok X G (c.t.fact 176 (f := .glo "excluded") rfl)) (ok_excl Fex) fun _ _ _ _ _ _ us hl => match us, hl with | [_], _ => rfl
  obtain ⟨fdTw, FTw⟩ : ∃ fd, FnP K "two" "Meeting.two" sTwo [] (He.ma K (He.ga K "Meeting") "two") fd := c.t.def_ 21
  have okTw := ok_two (CL := clsR K) FTw RCs DS DNT
  have DTw : ∀ i, 6 ≤ i → i < 10 → MetD P w K mg base (L2.CX P w) 6 (clsR K i) "two" [] (spTwo K (clsR K) (He.ga K "Lives") (He.ga K "Saying") (He.ga K "NoTool")) := fun i h6 hi => ⟨_, fdTw, _, [], (RCs i hi).c, meFour_ok xMt i h6 hi, (FTw.bindsN fun _ _ _ _ _ _ us hl => match us, hl with | [_, _, _, _], _ => rfl), .nil, okTw⟩
  obtain ⟨fdPBegun, FPBegun⟩ : ∃ fd, FnP K "pairs" "Begun.pairs" sPBegun [] (He.ma K (He.ga K "Begun") "pairs") fd := c.t.def_ 22
  have okPBegun := ok_PBegun (P := P) (w := w) (base := base) (CL := clsR K) (C := (He.ga K "Lives")) (Cy := (He.ga K "Saying")) (Ct := (He.ga K "NoTool")) FPBegun RCs DNT
  have mPBegun := He.meth_ok (c.t.fact 178 (f := .meth "Begun" "pairs") rfl)
  have DPBegun : MetD P w K mg base (L2.CX P w) 8 (He.ga K "Begun") "pairs" [] (spPairs K (clsR K) (He.ga K "Lives") (He.ga K "Saying") (He.ga K "NoTool") 0) := ⟨_, fdPBegun, _, [], He.cls_ok (c.t.fact 53 (f := .cls "Begun") rfl), mPBegun, (FPBegun.bindsN fun _ _ _ _ _ _ us hl => match us, hl with | [_, _], _ => rfl), .nil, okPBegun⟩
  have mPBegun := He.meth_ok (c.t.fact 178 (f := .meth "Begun" "pairs") rfl)
  have DPKBegun : MetK P w K mg base (L2.CX P w) 8 (He.ga K "Begun") "pairs" ["lives"] (fun vs zs => vs ++ zs) (spPairs K (clsR K) (He.ga K "Lives") (He.ga K "Saying") (He.ga K "NoTool") 0) := ⟨_, fdPBegun, _, _, He.cls_ok (c.t.fact 53 (f := .cls "Begun") rfl), mPBegun, kbn_of FPBegun 1 ["lives"] (fun us ws => us ++ ws) (fun r1 r2 => r1.append r2) fun _ _ _ _ _ _ us ws l1 l2 => match us, ws, l1, l2 with | [_], [_], _, _ => rfl, okPBegun⟩
  obtain ⟨fdPSetBy, FPSetBy⟩ : ∃ fd, FnP K "pairs" "SetBy.pairs" sPSetBy [] (He.ma K (He.ga K "SetBy") "pairs") fd := c.t.def_ 23
  have okPSetBy := ok_PSetBy (P := P) (w := w) (base := base) (CL := clsR K) (C := (He.ga K "Lives")) (Cy := (He.ga K "Saying")) (Ct := (He.ga K "NoTool")) FPSetBy RCs DNT DS
  have mPSetBy := He.meth_ok (c.t.fact 179 (f := .meth "SetBy" "pairs") rfl)
  have DPSetBy : MetD P w K mg base (L2.CX P w) 8 (He.ga K "SetBy") "pairs" [] (spPairs K (clsR K) (He.ga K "Lives") (He.ga K "Saying") (He.ga K "NoTool") 1) := ⟨_, fdPSetBy, _, [], He.cls_ok (c.t.fact 63 (f := .cls "SetBy") rfl), mPSetBy, (FPSetBy.bindsN fun _ _ _ _ _ _ us hl => match us, hl with | [_, _], _ => rfl), .nil, okPSetBy⟩
  have mPSetBy := He.meth_ok (c.t.fact 179 (f := .meth "SetBy" "pairs") rfl)
  have DPKSetBy : MetK P w K mg base (L2.CX P w) 8 (He.ga K "SetBy") "pairs" ["lives"] (fun vs zs => vs ++ zs) (spPairs K (clsR K) (He.ga K "Lives") (He.ga K "Saying") (He.ga K "NoTool") 1) := ⟨_, fdPSetBy, _, _, He.cls_ok (c.t.fact 63 (f := .cls "SetBy") rfl), mPSetBy, kbn_of FPSetBy 1 ["lives"] (fun us ws => us ++ ws) (fun r1 r2 => r1.append r2) fun _ _ _ _ _ _ us ws l1 l2 => match us, ws, l1, l2 with | [_], [_], _, _ => rfl, okPSetBy⟩
  obtain ⟨fdPFound, FPFound⟩ : ∃ fd, FnP K "pairs" "Found.pairs" sPFound [] (He.ma K (He.ga K "Found") "pairs") fd := c.t.def_ 24
  have okPFound := ok_PFound (P := P) (w := w) (base := base) (CL := clsR K) (C := (He.ga K "Lives")) (Cy := (He.ga K "Saying")) (Ct := (He.ga K "NoTool")) FPFound RCs DNT T Dex DS
  have mPFound := He.meth_ok (c.t.fact 180 (f := .meth "Found" "pairs") rfl)
  have DPFound : MetD P w K mg base (L2.CX P w) 8 (He.ga K "Found") "pairs" [] (spPairs K (clsR K) (He.ga K "Lives") (He.ga K "Saying") (He.ga K "NoTool") 2) := ⟨_, fdPFound, _, [], He.cls_ok (c.t.fact 74 (f := .cls "Found") rfl), mPFound, (FPFound.bindsN fun _ _ _ _ _ _ us hl => match us, hl with | [_, _], _ => rfl), .nil, okPFound⟩
  have mPFound := He.meth_ok (c.t.fact 180 (f := .meth "Found" "pairs") rfl)
  have DPKFound : MetK P w K mg base (L2.CX P w) 8 (He.ga K "Found") "pairs" ["lives"] (fun vs zs => vs ++ zs) (spPairs K (clsR K) (He.ga K "Lives") (He.ga K "Saying") (He.ga K "NoTool") 2) := ⟨_, fdPFound, _, _, He.cls_ok (c.t.fact 74 (f := .cls "Found") rfl), mPFound, kbn_of FPFound 1 ["lives"] (fun us ws => us ++ ws) (fun r1 r2 => r1.append r2) fun _ _ _ _ _ _ us ws l1 l2 => match us, ws, l1, l2 with | [_], [_], _, _ => rfl, okPFound⟩
  obtain ⟨fdPTrusted, FPTrusted⟩ : ∃ fd, FnP K "pairs" "Trusted.pairs" sPTrusted [] (He.ma K (He.ga K "Trusted") "pairs") fd := c.t.def_ 25
  have okPTrusted := ok_PTrusted (P := P) (w := w) (base := base) (CL := clsR K) (C := (He.ga K "Lives")) (Cy := (He.ga K "Saying")) (Ct := (He.ga K "NoTool")) FPTrusted RCs DBg DLa T Dex DS
  have mPTrusted := He.meth_ok (c.t.fact 181 (f := .meth "Trusted" "pairs") rfl)
  have DPTrusted : MetD P w K mg base (L2.CX P w) 8 (He.ga K "Trusted") "pairs" [] (spPairs K (clsR K) (He.ga K "Lives") (He.ga K "Saying") (He.ga K "NoTool") 3) := ⟨_, fdPTrusted, _, [], He.cls_ok (c.t.fact 85 (f := .cls "Trusted") rfl), mPTrusted, (FPTrusted.bindsN fun _ _ _ _ _ _ us hl => match us, hl with | [_, _], _ => rfl), .nil, okPTrusted⟩
  have mPTrusted := He.meth_ok (c.t.fact 181 (f := .meth "Trusted" "pairs") rfl)
  have DPKTrusted : MetK P w K mg base (L2.CX P w) 8 (He.ga K "Trusted") "pairs" ["lives"] (fun vs zs => vs ++ zs) (spPairs K (clsR K) (He.ga K "Lives") (He.ga K "Saying") (He.ga K "NoTool") 3) := ⟨_, fdPTrusted, _, _, He.cls_ok (c.t.fact 85 (f := .cls "Trusted") rfl), mPTrusted, kbn_of FPTrusted 1 ["lives"] (fun us ws => us ++ ws) (fun r1 r2 => r1.append r2) fun _ _ _ _ _ _ us ws l1 l2 => match us, ws, l1, l2 with | [_], [_], _, _ => rfl, okPTrusted⟩
  obtain ⟨fdPPassed, FPPassed⟩ : ∃ fd, FnP K "pairs" "Passed.pairs" sPPassed [] (He.ma K (He.ga K "Passed") "pairs") fd := c.t.def_ 26
  have okPPassed := ok_PPassed (P := P) (w := w) (base := base) (CL := clsR K) (C := (He.ga K "Lives")) (Cy := (He.ga K "Saying")) (Ct := (He.ga K "NoTool")) FPPassed RCs DNT DS
  have mPPassed := He.meth_ok (c.t.fact 182 (f := .meth "Passed" "pairs") rfl)
  have DPPassed : MetD P w K mg base (L2.CX P w) 8 (He.ga K "Passed") "pairs" [] (spPairs K (clsR K) (He.ga K "Lives") (He.ga K "Saying") (He.ga K "NoTool") 4) := ⟨_, fdPPassed, _, [], He.cls_ok (c.t.fact 94 (f := .cls "Passed") rfl), mPPassed, (FPPassed.bindsN fun _ _ _ _ _ _ us hl => match us, hl with | [_, _], _ => rfl), .nil, okPPassed⟩
  have mPPassed := He.meth_ok (c.t.fact 182 (f := .meth "Passed" "pairs") rfl)
  have DPKPassed : MetK P w K mg base (L2.CX P w) 8 (He.ga K "Passed") "pairs" ["lives"] (fun vs zs => vs ++ zs) (spPairs K (clsR K) (He.ga K "Lives") (He.ga K "Saying") (He.ga K "NoTool") 4) := ⟨_, fdPPassed, _, _, He.cls_ok (c.t.fact 94 (f := .cls "Passed") rfl), mPPassed, kbn_of FPPassed 1 ["lives"] (fun us ws => us ++ ws) (fun r1 r2 => r1.append r2) fun _ _ _ _ _ _ us ws l1 l2 => match us, ws, l1, l2 with | [_], [_], _, _ => rfl, okPPassed⟩
  obtain ⟨fdPFailed, FPFailed⟩ : ∃ fd, FnP K "pairs" "Failed.pairs" sPFailed [] (He.ma K (He.ga K "Failed") "pairs") fd := c.t.def_ 27
  have okPFailed := ok_PFailed (P := P) (w := w) (base := base) (CL := clsR K) (C := (He.ga K "Lives")) (Cy := (He.ga K "Saying")) (Ct := (He.ga K "NoTool")) FPFailed RCs DNT DS
  have mPFailed := He.meth_ok (c.t.fact 183 (f := .meth "Failed" "pairs") rfl)
  have DPFailed : MetD P w K mg base (L2.CX P w) 8 (He.ga K "Failed") "pairs" [] (spPairs K (clsR K) (He.ga K "Lives") (He.ga K "Saying") (He.ga K "NoTool") 5) := ⟨_, fdPFailed, _, [], He.cls_ok (c.t.fact 105 (f := .cls "Failed") rfl), mPFailed, (FPFailed.bindsN fun _ _ _ _ _ _ us hl => match us, hl with | [_, _], _ => rfl), .nil, okPFailed⟩
  have mPFailed := He.meth_ok (c.t.fact 183 (f := .meth "Failed" "pairs") rfl)
  have DPKFailed : MetK P w K mg base (L2.CX P w) 8 (He.ga K "Failed") "pairs" ["lives"] (fun vs zs => vs ++ zs) (spPairs K (clsR K) (He.ga K "Lives") (He.ga K "Saying") (He.ga K "NoTool") 5) := ⟨_, fdPFailed, _, _, He.cls_ok (c.t.fact 105 (f := .cls "Failed") rfl), mPFailed, kbn_of FPFailed 1 ["lives"] (fun us ws => us ++ ws) (fun r1 r2 => r1.append r2) fun _ _ _ _ _ _ us ws l1 l2 => match us, ws, l1, l2 with | [_], [_], _, _ => rfl, okPFailed⟩
  obtain ⟨fdPAgreed, FPAgreed⟩ : ∃ fd, FnP K "pairs" "Agreed.pairs" sPAgreed [] (He.ma K (He.ga K "Agreed") "pairs") fd := c.t.def_ 28
  have okPAgreed := ok_PAgreed (P := P) (w := w) (base := base) (CL := clsR K) (C := (He.ga K "Lives")) (Cy := (He.ga K "Saying")) (Ct := (He.ga K "NoTool")) FPAgreed RCs DTw
  have mPAgreed := He.meth_ok (c.t.fact 184 (f := .meth "Agreed" "pairs") rfl)
  have DPAgreed : MetD P w K mg base (L2.CX P w) 8 (He.ga K "Agreed") "pairs" [] (spPairs K (clsR K) (He.ga K "Lives") (He.ga K "Saying") (He.ga K "NoTool") 6) := ⟨_, fdPAgreed, _, [], He.cls_ok (c.t.fact 116 (f := .cls "Agreed") rfl), mPAgreed, (FPAgreed.bindsN fun _ _ _ _ _ _ us hl => match us, hl with | [_, _], _ => rfl), .nil, okPAgreed⟩
  have mPAgreed := He.meth_ok (c.t.fact 184 (f := .meth "Agreed" "pairs") rfl)
  have DPKAgreed : MetK P w K mg base (L2.CX P w) 8 (He.ga K "Agreed") "pairs" ["lives"] (fun vs zs => vs ++ zs) (spPairs K (clsR K) (He.ga K "Lives") (He.ga K "Saying") (He.ga K "NoTool") 6) := ⟨_, fdPAgreed, _, _, He.cls_ok (c.t.fact 116 (f := .cls "Agreed") rfl), mPAgreed, kbn_of FPAgreed 1 ["lives"] (fun us ws => us ++ ws) (fun r1 r2 => r1.append r2) fun _ _ _ _ _ _ us ws l1 l2 => match us, ws, l1, l2 with | [_], [_], _, _ => rfl, okPAgreed⟩
  obtain ⟨fdPDiffered, FPDiffered⟩ : ∃ fd, FnP K "pairs" "Differed.pairs" sPDiffered [] (He.ma K (He.ga K "Differed") "pairs") fd := c.t.def_ 29
  have okPDiffered := ok_PDiffered (P := P) (w := w) (base := base) (CL := clsR K) (C := (He.ga K "Lives")) (Cy := (He.ga K "Saying")) (Ct := (He.ga K "NoTool")) FPDiffered RCs DTw
  have mPDiffered := He.meth_ok (c.t.fact 185 (f := .meth "Differed" "pairs") rfl)
  have DPDiffered : MetD P w K mg base (L2.CX P w) 8 (He.ga K "Differed") "pairs" [] (spPairs K (clsR K) (He.ga K "Lives") (He.ga K "Saying") (He.ga K "NoTool") 7) := ⟨_, fdPDiffered, _, [], He.cls_ok (c.t.fact 128 (f := .cls "Differed") rfl), mPDiffered, (FPDiffered.bindsN fun _ _ _ _ _ _ us hl => match us, hl with | [_, _], _ => rfl), .nil, okPDiffered⟩
  have mPDiffered := He.meth_ok (c.t.fact 185 (f := .meth "Differed" "pairs") rfl)
  have DPKDiffered : MetK P w K mg base (L2.CX P w) 8 (He.ga K "Differed") "pairs" ["lives"] (fun vs zs => vs ++ zs) (spPairs K (clsR K) (He.ga K "Lives") (He.ga K "Saying") (He.ga K "NoTool") 7) := ⟨_, fdPDiffered, _, _, He.cls_ok (c.t.fact 128 (f := .cls "Differed") rfl), mPDiffered, kbn_of FPDiffered 1 ["lives"] (fun us ws => us ++ ws) (fun r1 r2 => r1.append r2) fun _ _ _ _ _ _ us ws l1 l2 => match us, ws, l1, l2 with | [_], [_], _, _ => rfl, okPDiffered⟩
  obtain ⟨fdPServed, FPServed⟩ : ∃ fd, FnP K "pairs" "Served.pairs" sPServed [] (He.ma K (He.ga K "Served") "pairs") fd := c.t.def_ 30
  have okPServed := ok_PServed (P := P) (w := w) (base := base) (CL := clsR K) (C := (He.ga K "Lives")) (Cy := (He.ga K "Saying")) (Ct := (He.ga K "NoTool")) FPServed RCs DTw
  have mPServed := He.meth_ok (c.t.fact 186 (f := .meth "Served" "pairs") rfl)
  have DPServed : MetD P w K mg base (L2.CX P w) 8 (He.ga K "Served") "pairs" [] (spPairs K (clsR K) (He.ga K "Lives") (He.ga K "Saying") (He.ga K "NoTool") 8) := ⟨_, fdPServed, _, [], He.cls_ok (c.t.fact 140 (f := .cls "Served") rfl), mPServed, (FPServed.bindsN fun _ _ _ _ _ _ us hl => match us, hl with | [_, _], _ => rfl), .nil, okPServed⟩
  have mPServed := He.meth_ok (c.t.fact 186 (f := .meth "Served" "pairs") rfl)
  have DPKServed : MetK P w K mg base (L2.CX P w) 8 (He.ga K "Served") "pairs" ["lives"] (fun vs zs => vs ++ zs) (spPairs K (clsR K) (He.ga K "Lives") (He.ga K "Saying") (He.ga K "NoTool") 8) := ⟨_, fdPServed, _, _, He.cls_ok (c.t.fact 140 (f := .cls "Served") rfl), mPServed, kbn_of FPServed 1 ["lives"] (fun us ws => us ++ ws) (fun r1 r2 => r1.append r2) fun _ _ _ _ _ _ us ws l1 l2 => match us, ws, l1, l2 with | [_], [_], _, _ => rfl, okPServed⟩
  obtain ⟨fdPBacked, FPBacked⟩ : ∃ fd, FnP K "pairs" "Backed.pairs" sPBacked [] (He.ma K (He.ga K "Backed") "pairs") fd := c.t.def_ 31
  have okPBacked := ok_PBacked (P := P) (w := w) (base := base) (CL := clsR K) (C := (He.ga K "Lives")) (Cy := (He.ga K "Saying")) (Ct := (He.ga K "NoTool")) FPBacked RCs DTw
  have mPBacked := He.meth_ok (c.t.fact 187 (f := .meth "Backed" "pairs") rfl)
  have DPBacked : MetD P w K mg base (L2.CX P w) 8 (He.ga K "Backed") "pairs" [] (spPairs K (clsR K) (He.ga K "Lives") (He.ga K "Saying") (He.ga K "NoTool") 9) := ⟨_, fdPBacked, _, [], He.cls_ok (c.t.fact 152 (f := .cls "Backed") rfl), mPBacked, (FPBacked.bindsN fun _ _ _ _ _ _ us hl => match us, hl with | [_, _], _ => rfl), .nil, okPBacked⟩
  have mPBacked := He.meth_ok (c.t.fact 187 (f := .meth "Backed" "pairs") rfl)
  have DPKBacked : MetK P w K mg base (L2.CX P w) 8 (He.ga K "Backed") "pairs" ["lives"] (fun vs zs => vs ++ zs) (spPairs K (clsR K) (He.ga K "Lives") (He.ga K "Saying") (He.ga K "NoTool") 9) := ⟨_, fdPBacked, _, _, He.cls_ok (c.t.fact 152 (f := .cls "Backed") rfl), mPBacked, kbn_of FPBacked 1 ["lives"] (fun us ws => us ++ ws) (fun r1 r2 => r1.append r2) fun _ _ _ _ _ _ us ws l1 l2 => match us, ws, l1, l2 with | [_], [_], _, _ => rfl, okPBacked⟩
  have DP : ∀ i, i < 10 → MetD P w K mg base (L2.CX P w) 8 (clsR K i) "pairs" [] (spPairs K (clsR K) (He.ga K "Lives") (He.ga K "Saying") (He.ga K "NoTool") i) := fun i hi => by
    rcases (by omega : i = 0 ∨ i = 1 ∨ i = 2 ∨ i = 3 ∨ i = 4 ∨ i = 5 ∨ i = 6 ∨ i = 7 ∨ i = 8 ∨ i = 9) with rfl | rfl | rfl | rfl | rfl | rfl | rfl | rfl | rfl | rfl
    · exact DPBegun
    · exact DPSetBy
    · exact DPFound
    · exact DPTrusted
    · exact DPPassed
    · exact DPFailed
    · exact DPAgreed
    · exact DPDiffered
    · exact DPServed
    · exact DPBacked
  have DPK : ∀ i, i < 10 → MetK P w K mg base (L2.CX P w) 8 (clsR K i) "pairs" ["lives"] (fun vs zs => vs ++ zs) (spPairs K (clsR K) (He.ga K "Lives") (He.ga K "Saying") (He.ga K "NoTool") i) := fun i hi => by
    rcases (by omega : i = 0 ∨ i = 1 ∨ i = 2 ∨ i = 3 ∨ i = 4 ∨ i = 5 ∨ i = 6 ∨ i = 7 ∨ i = 8 ∨ i = 9) with rfl | rfl | rfl | rfl | rfl | rfl | rfl | rfl | rfl | rfl
    · exact DPKBegun
    · exact DPKSetBy
    · exact DPKFound
    · exact DPKTrusted
    · exact DPKPassed
    · exact DPKFailed
    · exact DPKAgreed
    · exact DPKDiffered
    · exact DPKServed
    · exact DPKBacked
  obtain ⟨fd3, F3⟩ : ∃ fd, FnP K "_law_pen" "_law_pen" sPen [] (He.ga K "_law_pen") fd := c.t.def_ 32
  obtain ⟨fd4, F4⟩ : ∃ fd, FnP K "_law_draw" "_law_draw" sDraw [] (He.ga K "_law_draw") fd := c.t.def_ 33
  obtain ⟨fd5, F5⟩ : ∃ fd, FnP K "_law_pick" "_law_pick" sPick [] (He.ga K "_law_pick") fd := c.t.def_ 34
  have D3 : Df P w K mg base CX0 1 "_law_pen" [] (spPen K) := df_of F3 (He.glo_ok X G (c.t.fact 188 (f := .glo "_law_pen") rfl)) (ok_pen F3 T) fun _ _ _ _ _ _ us hl => match us, hl with | [_], _ => rfl
  have D4 : Df P w K mg base CX0 2 "_law_draw" [] spDraw := df_of F4 (He.glo_ok X G (c.t.fact 189 (f := .glo "_law_draw") rfl)) (ok_draw F4 T) fun _ _ _ _ _ _ us hl => match us, hl with | [_, _], _ => rfl
  have D5 : Df P w K mg base CX0 3 "_law_pick" [] (spPick K) := df_of F5 (He.glo_ok X G (c.t.fact 190 (f := .glo "_law_pick") rfl)) (ok_pick F5 T D4) fun _ _ _ _ _ _ us hl => match us, hl with | [_, _], _ => rfl
  obtain ⟨fdTi, FTi⟩ : ∃ fd, FnP K "_law_tick" "_law_tick" sTick [] (He.ga K "_law_tick") fd := c.t.def_ 35
  have DTi : Df P w K mg base CX0 4 "_law_tick" [] spMom1 := df_of FTi (He.glo_ok X G (c.t.fact 191 (f := .glo "_law_tick") rfl)) (ok_tick FTi D4 D5) fun _ _ _ _ _ _ us hl => match us, hl with | [_], _ => rfl
  obtain ⟨fdCr, FCr⟩ : ∃ fd, FnP K "_law_crew" "_law_crew" sCrewR [] (He.ga K "_law_crew") fd := c.t.def_ 36
  have DCr : Df P w K mg base CX0 4 "_law_crew" [] spCrewR := df_of FCr (He.glo_ok X G (c.t.fact 192 (f := .glo "_law_crew") rfl)) (ok_crewR FCr D4 D5) fun _ _ _ _ _ _ us hl => match us, hl with | [_], _ => rfl
  obtain ⟨fdKi, FKi⟩ : ∃ fd, FnP K "_law_kinds" "_law_kinds" sKinds [] (He.ga K "_law_kinds") fd := c.t.def_ 37
  have DKi : Df P w K mg base CX0 1 "_law_kinds" [] spKinds := df_of FKi (He.glo_ok X G (c.t.fact 193 (f := .glo "_law_kinds") rfl)) (ok_kinds FKi) fun _ _ _ _ _ _ us hl => match us, hl with | [], _ => rfl
  obtain ⟨fdDr, FDr⟩ : ∃ fd, FnP K "_law_drawn" "_law_drawn" sDrawn [] (He.ga K "_law_drawn") fd := c.t.def_ 38
  have DDr : Df P w K mg base CX0 5 "_law_drawn" [] spDrawnN := df_of FDr (He.glo_ok X G (c.t.fact 194 (f := .glo "_law_drawn") rfl)) (ok_drawn FDr T D4 D5 DTi) fun _ _ _ _ _ _ us hl => match us, hl with | [_, _, _], _ => rfl
  obtain ⟨fdSt, FSt⟩ : ∃ fd, FnP K "_law_starts" "_law_starts" sStarts13 [] (He.ga K "_law_starts") fd := c.t.def_ 39
  have DSt : Df P w K mg base CX0 4 "_law_starts" [] spStarts13 := df_of FSt (He.glo_ok X G (c.t.fact 195 (f := .glo "_law_starts") rfl)) (ok_starts13 FSt T D4 D5) fun _ _ _ _ _ _ us hl => match us, hl with | [_, _], _ => rfl
  obtain ⟨fdMk, FMk⟩ : ∃ fd, FnP K "_law_made" "_law_made" sMade [] (He.ga K "_law_made") fd := c.t.def_ 40
  have DMk : Df P w K mg base (L2.CX P w) 7 "_law_made" [] (spMade K (clsR K) (He.ga K "BadName") (He.ga K "BadMoment") (He.ga K "BadSaying")) := df_of FMk (He.glo_ok X G (c.t.fact 196 (f := .glo "_law_made") rfl)) (ok_made (CL := clsR K) FMk T KBegun KSetBy KFound KTrusted KPassed KFailed KAgreed KDiffered KServed KBacked) fun _ _ _ _ _ _ us hl => match us, hl with | [_], _ => rfl
  obtain ⟨fdLa_, FLa_⟩ : ∃ fd, FnP K "_law_lasts" "_law_lasts" sLasts13 [] (He.ga K "_law_lasts") fd := c.t.def_ 41
  have DLs : Df P w K mg base CX0 1 "_law_lasts" [] spLasts13 := df_of FLa_ (He.glo_ok X G (c.t.fact 197 (f := .glo "_law_lasts") rfl)) (ok_lasts13 FLa_ T) fun _ _ _ _ _ _ us hl => match us, hl with | [_, _], _ => rfl
  obtain ⟨fdPd, FPd⟩ : ∃ fd, FnP K "_law_pairs" "_law_pairs" sPairsD [] (He.ga K "_law_pairs") fd := c.t.def_ 42
  have DPd : Df P w K mg base CX0 2 "_law_pairs" [] spPairsD := df_of FPd (He.glo_ok X G (c.t.fact 198 (f := .glo "_law_pairs") rfl)) (ok_pairsD FPd DLs) fun _ _ _ _ _ _ us hl => match us, hl with | [_, _], _ => rfl
  obtain ⟨fdTd, FTd⟩ : ∃ fd, FnP K "_law_told" "_law_told" sTold13 [] (He.ga K "_law_told") fd := c.t.def_ 43
  have DTd : Df P w K mg base CX0 1 "_law_told" [] (spTold13 (He.ga K "Saying")) := df_of FTd (He.glo_ok X G (c.t.fact 199 (f := .glo "_law_told") rfl)) (ok_told13 FTd T SC hSay) fun _ _ _ _ _ _ us hl => match us, hl with | [_], _ => rfl
  obtain ⟨fdNa, FNa⟩ : ∃ fd, FnP K "_law_named" "_law_named" sNamedL [] (He.ga K "_law_named") fd := c.t.def_ 44
  have DNa : Df P w K mg base CX0 1 "_law_named" [] spNamedL := df_of FNa (He.glo_ok X G (c.t.fact 200 (f := .glo "_law_named") rfl)) (ok_namedL FNa T) fun _ _ _ _ _ _ us hl => match us, hl with | [_], _ => rfl
  obtain ⟨fdH, FH⟩ : ∃ fd, FnP K "_law_heard" "_law_heard" sHeard [] (He.ga K "_law_heard") fd := c.t.def_ 45
  obtain ⟨t0, t1, t2, k0, k1, k2, k3, k4, k5, k6, k7, k8⟩ := of_decide_eq_true xHt
  have gT := (He.glo_ok X G (c.t.fact 202 (f := .glo "TillError") rfl))
  have HG : ∀ (X : Cx) (cdg : Value) (q : Str), X.K = K → X.mg = mg → LamX.GivesTo X nHeard "_law_heard" (defScope sHeard) (He.ga K "_law_heard") cdg (defBody sHeard) "_law_ask" q (TTold (kd13 (He.ga K "NoTool") (He.ga K "BadName") (He.ga K "BadMoment"))) := fun X cdg q eqK eqM => by
    subst eqK eqM
    refine heard_gives13 T gT ⟨_, gNT, rfl⟩ ⟨_, gEN, rfl⟩ ⟨_, gEM, rfl⟩ hNT hEN hEM (fun D hD => ?_) k0 k1 k2 k3 k4 k5 k6 k7 k8
    simp only [List.mem_cons, List.not_mem_nil, or_false] at hD
    rcases hD with rfl | rfl | rfl
    · exact t0
    · exact t1
    · exact t2
  exact ok_law FL T (smB_ok xSm) D3 D4 DCr DKi DDr DSt DMk DL DPd DTd DNa DP DPK FH (He.glo_ok X G (c.t.fact 201 (f := .glo "_law_heard") rfl)) (FH.bindsN fun _ _ _ _ _ _ us hl => match us, hl with | [_], _ => rfl) HG TB
end Q
open PySem PySem.W PySem.Calls PyProof.Rows
theorem PySem.Challenge.cw_soundtill_k13_pairs_of_rows_holds : PySem.Challenge.rw_soundtill_k13_pairs_of_rows.Holds := by
  w_on; o_law
  refine HandSHeadRun.head_any (r := OpenLaw.row PySem.Challenge.rw_soundtill_k13_pairs_of_rows) (q := view (OpenLaw.row PySem.Challenge.rw_soundtill_k13_pairs_of_rows).prog [67]) (H := Q.hkL) (ob := Q.obL) (M := 12000) (loose := (("_wall" : PySem.Str) :: ("__name__" : PySem.Str) :: ("TillError" : PySem.Str) :: ("BadName" : PySem.Str) :: ("BadMoment" : PySem.Str) :: ("BadSaying" : PySem.Str) :: ("NoTool" : PySem.Str) :: ("NoLife" : PySem.Str) :: ("BadText" : PySem.Str) :: ("RESERVED" : PySem.Str) :: ("LETTERS" : PySem.Str) :: ("FIGURES" : PySem.Str) :: ("MOST_SIGNS" : PySem.Str) :: ("MOST_FIGURES" : PySem.Str) :: ("MOST_MOMENT" : PySem.Str) :: ("is_integer" : PySem.Str) :: ("is_moment" : PySem.Str) :: ("is_name" : PySem.Str) :: ("moment_in" : PySem.Str) :: ("TRUTHS" : PySem.Str) :: ("MANY_WORDS" : PySem.Str) :: ("Saying" : PySem.Str) :: ("FORMS" : PySem.Str) :: ("BEGINNINGS" : PySem.Str) :: ("need_name" : PySem.Str) :: ("need_moment" : PySem.Str) :: ("excluded" : PySem.Str) :: ("Row" : PySem.Str) :: ("Beginning" : PySem.Str) :: ("Check" : PySem.Str) :: ("Meeting" : PySem.Str) :: ("Begun" : PySem.Str) :: ("SetBy" : PySem.Str) :: ("Found" : PySem.Str) :: ("Trusted" : PySem.Str) :: ("Passed" : PySem.Str) :: ("Failed" : PySem.Str) :: ("Agreed" : PySem.Str) :: ("Differed" : PySem.Str) :: ("Served" : PySem.Str) :: ("Backed" : PySem.Str) :: ("made_meeting" : PySem.Str) :: ("made_row" : PySem.Str) :: ("fits" : PySem.Str) :: ("row_in" : PySem.Str) :: ("PAIR" : PySem.Str) :: ("Lives" : PySem.Str) :: ("_law_pen" : PySem.Str) :: ("_law_draw" : PySem.Str) :: ("_law_pick" : PySem.Str) :: ("_law_tick" : PySem.Str) :: ("_law_crew" : PySem.Str) :: ("_law_kinds" : PySem.Str) :: ("_law_drawn" : PySem.Str) :: ("_law_named" : PySem.Str) :: ("_law_ticks" : PySem.Str) :: ("_law_made" : PySem.Str) :: ("_law_lasts" : PySem.Str) :: ("_law_pairs" : PySem.Str) :: ("_law_heard" : PySem.Str) :: ("_law_starts" : PySem.Str) :: ("_law_told" : PySem.Str) :: [])) (d := HandSHeadRun.topDef (OpenLaw.row PySem.Challenge.rw_soundtill_k13_pairs_of_rows).prog 67) (kwd := []) Q.obL_eq
    (by kernel_rfl) (fun s => by kernel_rfl) Q.runL (by kernel_rfl) (by kernel_rfl) (by kernel_rfl) (by rfl) (by first | assumption | decide +kernel) (by decide +kernel) ⟨rfl, rfl, rfl, rfl, rfl, by decide +kernel⟩ ?hw ?hc
  case hw => w_witness2
  case hc =>
    refine Q.walk_ofAT (l := PySem.Challenge.rw_soundtill_k13_pairs_of_rows) (n := 63) (k := 18) (x := "_law_script") (CX := L2.CX0) rfl (by decide) (by kernel_rfl) ⟨rfl, by decide, by decide⟩ ?F (fun _ _ _ _ z => z)
    intro w mg fa h Y G hmg0
    obtain ⟨K, KX, ⟨c, dq⟩, sq⟩ := Y
    have hmg : mg ("law" : PySem.Str) = some (.ref fa) := by
      have e : (HandSHeadRun.topDef (OpenLaw.row PySem.Challenge.rw_soundtill_k13_pairs_of_rows).prog 67).name = ("law" : PySem.Str) := by kernel_rfl
      rw [← e]
      exact hmg0
    obtain ⟨ef, fd, hb, hF⟩ := Q.factsL (P := (PySem.Challenge.rw_soundtill_k13_pairs_of_rows).prog) (w := w) KX G hmg c dq sq (by kernel_rfl) (by kernel_rfl)
    subst ef
    exact ⟨K, fd, [Q.cTA K (He.ga K "law")], Q.spLaw K [Q.cTA K (He.ga K "law")], KX, (fun r hr => by
      simp only [List.mem_cons, List.not_mem_nil, or_false] at hr
      rcases hr with rfl
      · exact c.hd _ (List.mem_of_getElem? (i := 0) rfl)), (fun r hr => by
      simp only [List.mem_cons, List.not_mem_nil, or_false] at hr
      rcases hr with rfl
      · exact c.out _ (List.mem_of_getElem? (i := 0) rfl)), (fun r hr => by
      simp only [List.mem_cons, List.not_mem_nil, or_false] at hr
      rcases hr with rfl
      · exact c.empty _ (List.mem_of_getElem? (i := 0) rfl)), hb, fun H a ns hl hO hT hS => ⟨a, ns, rfl, hS, hl, hO, hT, fun _ => rfl⟩,
      fun b0 h1 h2 h3 => hF b0 h1 h2 (h3 _ (List.mem_of_getElem? (i := 0) rfl))⟩
