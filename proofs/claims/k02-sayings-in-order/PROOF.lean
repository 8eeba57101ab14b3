import PyProof.Rows.All
import Wide.All
import OpenK.AllK
import Wide.FinOn
import HandS.ForMost
import HandS.Wide
import HandS.IsInst
import HandS.Property
import HandS.ClsMeth
import HandS.Defaults
import HandS.MakeKw
import HandS.FStr
import HandS.Lambda
import HandS.SlotsOwn
import HandS.Evl
import HandS.Walk
import KE.KStateDown
import Lean
import HandS.Ends
import HandS.Words
import HandS.Head0
import HandS.Head1
import HandS.Head2
import HandS.HeadEnd
import HandS.HeadHook1
import HandS.HeadHook2
import HandS.HeadNt
import KE.LtData
import KE.DataCmp
import KE.KCallOwn
import PySem.Challenge.RW_soundtill_k02_sayings_in_order
set_option Elab.async false
set_option linter.all false
set_option maxRecDepth 100000
set_option maxHeartbeats 4000000
/-! Own layer: defs called where the guards are known, repr of data, own comparisons. -/
namespace Q
open PySem PySem.Spec PyProof.Rows L2
/-- nothing is being shown -/
abbrev G0 (A : Around) : Prop := A.guards = some []
theorem g0_deeper {A : Around} {e : Env} (h : G0 A) : G0 (A.deeper e) := h
theorem g0_caller : G0 callerA := rfl
/-- a def's promise where nothing is being shown around it -/
structure FnA (P : Program) (w : World) (K : PySem.W.Frag) (mg : Str → Option Value) (base : Heap) (CX : CXT) (k : Nat) (f : Addr) (fd : FuncData) (ps : List Str) (sp : Sp) : Prop where
  len : ∀ vs H Q E, sp vs H Q E → vs.length = ps.length
  run : ∀ (A : Around) (outer : List Env) (s : Shared) (H : Hp) (args : Args) (us : List Value) (vs : List V) (Q : VK) (E : XK), G0 A → Room k A → Env0 P w K mg base A outer s H →
    BindsTo s fd args (ps.zip us) → Vals vs us → sp vs H Q E → codeAny (model P w) A (.call (.ref f) args) (CR CX outer P w H s Q E) s
theorem fun_okA {P : Program} {w : World} {K : PySem.W.Frag} {mg : Str → Option Value} {base : Heap} {x qual : Str} {st : Stmt} {f : Addr} {fd : FuncData} {N ps : List Str} {k : Nat} {sp : Sp} (F : Fun K x qual st f fd) (S : FnScope N ps (defScope st))
    (len : ∀ vs H Q E, sp vs H Q E → vs.length = ps.length)
    (body : ∀ (cdv : Value) (A : Around) (outer : List Env) (s : Shared) (H : Hp) (vs : List V) (Q : VK) (E : XK), G0 (A.deeper (envOfC qual (defScope st) s.heap.objs.size f cdv)) → Room k (A.deeper (envOfC qual (defScope st) s.heap.objs.size f cdv)) → sp vs H Q E →
      ∃ t, PSs (cxOf CX0 P w K mg base N qual (defScope st) f cdv A outer s H E).nox (defBody st) t ∧ t { nx := fun _ H' => Q .non H', rt := Q } (start N vs) H) :
    FnA P w K mg base CX0 (k + 1) f fd ps sp := by
  obtain ⟨oc, od, kV, doc, pm, an, cdv, ct, osl, rfl, lk, hcd⟩ := F.ex
  refine ⟨len, fun A outer s H args us vs Q E g hr e0 hb r h => ?_⟩
  refine LamX.run_ofS lk hcd S hr e0 hb r (len _ _ _ _ h) fun hr2 => ?_
  obtain ⟨t, h1, q⟩ := body cdv A outer s H vs Q E (g0_deeper g) hr2 h
  exact ⟨t, h1.nox, q⟩
section
variable {X : Cx} {CX : CXT} {k : Nat} {f : Addr} {fd : FuncData} {ps : List Str} {sp : Sp} {dvs : List V} {ds : List Value} {E : XK} {x : Str} {e : Expr} {es : List Expr} {t : TA} {pos p : Pos}
theorem pe_callA (F : FnA X.prog X.w X.K X.mg X.base CX k f fd ps sp) (g : G0 X.A) (hr : Room k X.A) (hg : Gl X x) (hm : X.mg x = some (.ref f)) (hk : PySem.W.keepIn X.K (.ref f) = true) (hb : Binds X.K fd ps ds) (hd : Vals dvs ds) (hx : Passes CX X E)
    (ha : PA X (e :: es) t) (hdb : (x == ("__debug__" : Str)) = false := by decide) (he : starEach (e :: es) X.env = (false, eval e X.env) :: starEach es X.env := by rfl) (hpl : (backTo pos (starEach es X.env)).any (·.1) = false := by rfl) :
    PE X (.Call (.Name x p) (e :: es) [] pos) (tCall sp dvs E t) := by
  refine ⟨fun pins s σ H Q I h => wpAny_Call_Name_kw (ld_glob I hg hm ?_ hdb)⟩
  refine PySem.W.callWith_K (h₀ := X.base) I.ok.mod.kin hk (thn (ha.run pos pins s σ H _ I h) fun us s1 hh => ?_) he hpl
  obtain ⟨vs, H1, I1, r, q⟩ := hh
  have r2 := r.append hd
  have hl : (us ++ ds).length = ps.length := by
    rw [← r2.length]
    exact F.len _ _ _ _ q
  refine ⟨I1.kIn, wpAny_call (codeAny_mono (F.run X.A X.stack s1 H1 ⟨us, []⟩ _ _ Q E g hr I1.env0 (hb s1 us I1.kIn hl) r2 q) fun o s2 z => ?_)⟩
  match o, z with
  | .error er, z => exact hx pins σ H1 s1 er s2 I1 z
  | .ok (.ret u), z => exact I1.after z
  | .ok .next, z => exact z.elim
  | .ok .brk, z => exact z.elim
  | .ok .cont, z => exact z.elim
end
/-! ### repr of data -/
section
variable {X : Cx}
def rRepr (K : PySem.W.Frag) : List V → Hp → VK → Prop := fun xs H Q => ∃ (x : V) (d : PyData), xs = [x] ∧ Dp K H x d ∧ d.showable = true ∧ d.depth ≤ 60 ∧ d.shown.length ≤ sizeLine ∧ Q (.str d.shown) H
theorem dp_noDict {K : PySem.W.Frag} {H : Hp} : ∀ (d : PyData) (x : V), Dp K H x d → d.hasDict = false := by
  have key : ∀ (n : Nat) (d : PyData) (x : V), sizeOf d ≤ n → Dp K H x d → d.hasDict = false := by
    intro n
    induction n with
    | zero => intro d x hn h; cases d <;> simp at hn
    | succ n ih =>
      have all : ∀ (ds : List PyData) (vs : List V), sizeOf ds ≤ n → DpAll K H vs ds → PyData.hasDictAll ds = false := by
        intro ds
        induction ds with
        | nil => intro vs _ _; simp only [PyData.hasDictAll]
        | cons d ds ihd =>
          intro vs hs h
          cases h with
          | cons h1 h2 =>
            have s1 : sizeOf d ≤ n := by simp at hs; omega
            have s2 : sizeOf ds ≤ n := by simp at hs; omega
            simp only [PyData.hasDictAll, ih d _ s1 h1, ihd _ s2 h2, Bool.or_self]
      intro d x hn h
      cases h with
      | non => simp only [PyData.hasDict]
      | bl b => simp only [PyData.hasDict]
      | int i => simp only [PyData.hasDict]
      | str x => simp only [PyData.hasDict]
      | lst hs ha => simp only [PyData.hasDict]; exact all _ _ (by simp at hn; omega) ha
      | tup hs ha => simp only [PyData.hasDict]; exact all _ _ (by simp at hn; omega) ha
  exact fun d x h => key (sizeOf d) d x (Nat.le_refl _) h
theorem call_repr (g : G0 X.A) (hu : X.A.units + 64 < cLine) : CallR X (.builtin "repr") (rRepr X.K) := by
  intro pins s σ H xs us Q I r h
  obtain ⟨x, d, rfl, hd, hs, hdp, hz, q⟩ := h
  obtain ⟨u, rfl, ru⟩ := r.one
  have nd := dp_noDict d x hd
  obtain ⟨as, hr⟩ := Dp.reads I d x u hd ru
  cases hd with
  | non =>
    cases (show u = Value.none from ru)
    exact PySem.P.repr_of_none ⟨.str "None", H, I.tok _, ⟨_, rfl⟩, by simpa only [PyData.shown] using q⟩
  | bl b =>
    cases (show u = Value.bool b from ru)
    exact PySem.P.repr_of_bool ⟨.str (if b then "True" else "False"), H, I.tok _, ⟨_, rfl⟩, by simpa only [PyData.shown] using q⟩
  | int i =>
    obtain ⟨t, e⟩ := (show ∃ t, u = Value.int i t from ru)
    cases e
    exact PySem.P.repr_of_int (by simpa [PyData.showable] using hs) ⟨.str (toString i), H, I.tok _, ⟨_, rfl⟩, by simpa only [PyData.shown] using q⟩
  | str z =>
    obtain ⟨t, e⟩ := (show ∃ t, u = Value.str z t from ru)
    cases e
    exact PySem.P.repr_of_str ⟨.str (reprText z), H, I.tok _, ⟨_, rfl⟩, by simpa only [PyData.shown] using q⟩ (by simpa only [PyData.shown] using hz)
  | lst h1 h2 =>
    cases (show u = Value.ref _ from ru)
    exact repr_of_reads' hr hs (PyData.noDict_hsm nd) g (by omega) (fun _ _ e => e) (fun h' u tk hk => ⟨.str _, H, I.kept (t' := tk) hk, ⟨_, rfl⟩, q⟩) hz
  | tup h1 h2 =>
    cases (show u = Value.ref _ from ru)
    exact repr_of_reads' hr hs (PyData.noDict_hsm nd) g (by omega) (fun _ _ e => e) (fun h' u tk hk => ⟨.str _, H, I.kept (t' := tk) hk, ⟨_, rfl⟩, q⟩) hz
end
end Q
namespace Q
open PySem PySem.Spec PyProof.Rows L2
/-! ### a def's run: what is told once and stays (the ghost G), what changes (M) -/
/-- all but p is as it was -/
def But (p : Addr) (H H' : Hp) : Prop := ∀ b o, b ≠ p → H b = some o → H' b = some o
/-- the entry: the heap, the ghost, the objects of the caller that the def may change -/
structure En where
  H0 : Hp
  G0 : Hp
  P0 : List Addr
structure Wd (e : En) (G H : Hp) (M : List Addr) : Prop where
  le : Same G H
  mu : ∀ a ∈ M, G a = none ∧ (∃ o, H a = some o) ∧ (e.H0 a = none ∨ a ∈ e.P0)
  nd : M.Nodup
  dom : ∀ a, e.H0 a ≠ none → H a ≠ none
  gr : Same e.G0 G
  fr : ∀ a, e.H0 a ≠ none → G a = e.G0 a
  kp : ∀ a o, a ∉ e.P0 → e.H0 a = some o → H a = some o
section
variable {e : En} {G H H' : Hp} {M : List Addr} {q p : Addr} {o u : HO}
theorem same_upd (h : H q = none) : Same H (upd H q o) := fun a u e => by
  rw [upd_ne (ne_of_none e h)]
  exact e
theorem some_ne {α : Type} {x : Option α} {y : α} (h : x = some y) : x ≠ none := by rw [h]; exact Option.some_ne_none y
theorem wd_start {H G : Hp} {P : List Addr} (s : Same G H) (hp : ∀ a ∈ P, G a = none ∧ ∃ o, H a = some o) (nd : P.Nodup) : Wd ⟨H, G, P⟩ G H P :=
  ⟨s, fun a ha => ⟨(hp a ha).1, (hp a ha).2, .inr ha⟩, nd, fun _ h => h, Same.refl _, fun _ _ => rfl, fun _ _ _ h => h⟩
theorem wd_pure {H G : Hp} (s : Same G H) : Wd ⟨H, G, []⟩ G H [] := wd_start s (fun a h => by simp at h) List.nodup_nil
theorem Wd.g (w : Wd e G H M) (h : H q = none) : G q = none := by
  cases z : G q with
  | none => rfl
  | some o => rw [w.le _ _ z] at h; cases h
theorem Wd.nm (w : Wd e G H M) (h : H q = none) {m : Addr} (hm : m ∈ M) : q ≠ m := fun z => by
  obtain ⟨_, ⟨o, ho⟩, _⟩ := w.mu m hm
  rw [← z, h] at ho
  cases ho
theorem Wd.n0 (w : Wd e G H M) (h : H q = none) : e.H0 q = none := by
  cases z : e.H0 q with
  | none => rfl
  | some o => exact absurd h (w.dom q (some_ne z))
/-- a new object, told -/
theorem wd_lay (w : Wd e G H M) (h : H q = none) : Wd e (upd G q o) (upd H q o) M where
  le := fun a u z => by
    by_cases x : a = q
    · subst x; rw [upd_same] at z ⊢; exact z
    · rw [upd_ne x] at z ⊢; exact w.le _ _ z
  mu := fun a ha => by
    obtain ⟨h1, h2, h3⟩ := w.mu a ha
    have x : a ≠ q := (w.nm h ha).symm
    rw [upd_ne x, upd_ne x]
    exact ⟨h1, h2, h3⟩
  nd := w.nd
  dom := fun a ha => by
    by_cases x : a = q
    · rw [x, upd_same]; simp
    · rw [upd_ne x]; exact w.dom a ha
  gr := fun a u z => same_upd (w.g h) _ _ (w.gr _ _ z)
  fr := fun a ha => by
    have x : a ≠ q := fun z => by rw [z, w.n0 h] at ha; exact ha rfl
    rw [upd_ne x]
    exact w.fr a ha
  kp := fun a u hp z => same_upd h _ _ (w.kp a u hp z)
/-- a new object, to be changed -/
theorem wd_layM (w : Wd e G H M) (h : H q = none) : Wd e G (upd H q o) (q :: M) where
  le := fun a u z => same_upd h _ _ (w.le _ _ z)
  mu := fun a ha => by
    rcases List.mem_cons.mp ha with x | ha
    · subst x
      exact ⟨w.g h, ⟨o, upd_same⟩, .inl (w.n0 h)⟩
    · obtain ⟨h1, h2, h3⟩ := w.mu a ha
      rw [upd_ne (w.nm h ha).symm]
      exact ⟨h1, h2, h3⟩
  nd := List.nodup_cons.mpr ⟨fun z => w.nm h z rfl, w.nd⟩
  dom := fun a ha => by
    by_cases x : a = q
    · rw [x, upd_same]; simp
    · rw [upd_ne x]; exact w.dom a ha
  gr := w.gr
  fr := w.fr
  kp := fun a u hp z => same_upd h _ _ (w.kp a u hp z)
/-- a changed object -/
theorem wd_but (w : Wd e G H M) (hq : q ∈ M) (b : But q H H') (ho : H' q = some o) : Wd e G H' M where
  le := fun a u z => b a u (fun x => by rw [x, (w.mu q hq).1] at z; cases z) (w.le _ _ z)
  mu := fun a ha => by
    obtain ⟨h1, ⟨o1, h2⟩, h3⟩ := w.mu a ha
    refine ⟨h1, ?_, h3⟩
    by_cases x : a = q
    · subst x; exact ⟨_, ho⟩
    · exact ⟨_, b a _ x h2⟩
  nd := w.nd
  dom := fun a ha => by
    by_cases x : a = q
    · rw [x, ho]; simp
    · cases z : H a with
      | none => exact absurd z (w.dom a ha)
      | some u => rw [b a u x z]; simp
  gr := w.gr
  fr := w.fr
  kp := fun a u hp z => by
    have h1 := w.kp a u hp z
    refine b a u (fun x => ?_) h1
    subst x
    rcases (w.mu a hq).2.2 with y | y
    · rw [y] at z; cases z
    · exact hp y
theorem but_upd : But q H (upd H q o) := fun b u hb h => by rw [upd_ne hb]; exact h
theorem wd_mut (w : Wd e G H M) (hq : q ∈ M) : Wd e G (upd H q o) M := wd_but w hq but_upd upd_same
theorem wd_same (w : Wd e G H M) (s : Same H H') : Wd e G H' M where
  le := fun a u z => s _ _ (w.le _ _ z)
  mu := fun a ha => by
    obtain ⟨h1, ⟨o1, h2⟩, h3⟩ := w.mu a ha
    exact ⟨h1, ⟨o1, s _ _ h2⟩, h3⟩
  nd := w.nd
  dom := fun a ha => by
    cases z : H a with
    | none => exact absurd z (w.dom a ha)
    | some u => rw [s a u z]; simp
  gr := w.gr
  fr := w.fr
  kp := fun a u hp z => s _ _ (w.kp a u hp z)
/-- what is changed no more is told -/
theorem wd_freeze (w : Wd e G H (q :: M)) (h : H q = some o) (h0 : e.H0 q = none) : Wd e (upd G q o) H M ∧ Same G (upd G q o) := by
  have gq := (w.mu q (List.mem_cons_self)).1
  have nq := List.nodup_cons.mp w.nd
  refine ⟨⟨fun a u z => ?_, fun a ha => ?_, nq.2, w.dom, fun a u z => same_upd gq _ _ (w.gr _ _ z), fun a ha => ?_, w.kp⟩, same_upd gq⟩
  · by_cases x : a = q
    · subst x; rw [upd_same] at z; rw [← z]; exact h
    · rw [upd_ne x] at z; exact w.le _ _ z
  · obtain ⟨h1, h2, h3⟩ := w.mu a (List.mem_cons_of_mem _ ha)
    rw [upd_ne (show a ≠ q from fun x => nq.1 (by rw [← x]; exact ha))]
    exact ⟨h1, h2, h3⟩
  · have x : a ≠ q := fun z => by rw [z, h0] at ha; exact ha rfl
    rw [upd_ne x]
    exact w.fr a ha
theorem wd_perm {M' : List Addr} (w : Wd e G H M) (h : M.Perm M') : Wd e G H M' := ⟨w.le, fun a ha => w.mu a (h.mem_iff.mpr ha), h.nodup_iff.mp w.nd, w.dom, w.gr, w.fr, w.kp⟩
theorem wd_drop {M' : List Addr} (w : Wd e G H M) (h : M'.Sublist M) : Wd e G H M' := ⟨w.le, fun a ha => w.mu a (h.subset ha), w.nd.sublist h, w.dom, w.gr, w.fr, w.kp⟩
theorem Wd.ne (w : Wd e G H M) (hq : q ∈ M) (h : G p = some o) : p ≠ q := fun z => by rw [z, (w.mu q hq).1] at h; cases h
end
/-- a def that changes nothing hands back what P tells: P of the value and the ghost -/
def Ret (G H : Hp) (P : V → Hp → Prop) (Q : VK) : Prop := ∀ v H' G', Same H H' → Same G' H' → Same G G' → (∀ a, H a ≠ none → G' a = G a) → P v G' → Q v H'
theorem ret_of {G H G' H' : Hp} {M : List Addr} {P : V → Hp → Prop} {Q : VK} {v : V} (k : Ret G H P Q) (w : Wd ⟨H, G, []⟩ G' H' M) (p : P v G') : Q v H' :=
  k v H' G' (fun a o h => w.kp a o (by simp) h) w.le w.gr w.fr p
/-- a call of such a def -/
theorem ret_use {e : En} {G H : Hp} {M : List Addr} {P : V → Hp → Prop} {Q : VK} (w : Wd e G H M) (k : ∀ v G' H', Wd e G' H' M → Same G G' → Same H H' → P v G' → Q v H') : Ret G H P Q := by
  intro v H' G' s1 s2 s3 fr p
  refine k v G' H' ?_ s3 s1 p
  have w1 := wd_same w s1
  refine ⟨s2, fun a ha => ?_, w.nd, w1.dom, fun a o h => s3 _ _ (w.gr _ _ h), fun a ha => by rw [fr a (w.dom a ha)]; exact w.fr a ha, w1.kp⟩
  obtain ⟨h1, ⟨o, h2⟩, h3⟩ := w.mu a ha
  obtain ⟨_, h4, _⟩ := w1.mu a ha
  exact ⟨by rw [fr a (some_ne h2)]; exact h1, h4, h3⟩
/-! ### the pen -/
/-- the pen at p, its cells at c, at most n of them begun -/
def PenAt (p c : Addr) (n : Nat) (H : Hp) : Prop := ∃ (at_ : Nat) (g : Int), H p = some (.lst [.ref c, .int at_, .int g]) ∧ at_ ≤ n ∧ 0 ≤ g
theorem PenAt.more {p c : Addr} {n m : Nat} {H : Hp} (P : PenAt p c n H) (h : n ≤ m) : PenAt p c m H := by
  obtain ⟨a, g, h1, h2, h3⟩ := P
  exact ⟨a, g, h1, Nat.le_trans h2 h, h3⟩
theorem PenAt.same {p c : Addr} {n : Nat} {H H' : Hp} (P : PenAt p c n H) (s : Same H H') : PenAt p c n H' := by
  obtain ⟨a, g, h1, h2⟩ := P
  exact ⟨a, g, s _ _ h1, h2⟩
theorem PenAt.but {p c q : Addr} {n : Nat} {H H' : Hp} (P : PenAt p c n H) (b : But q H H') (h : p ≠ q) : PenAt p c n H' := by
  obtain ⟨a, g, h1, h2⟩ := P
  exact ⟨a, g, b _ _ h h1, h2⟩
def Cells (c : Addr) (G : Hp) : Prop := ∃ ns : List Int, G c = some (.lst (ns.map V.int)) ∧ ns.length ≤ 63
theorem Cells.same {c : Addr} {G G' : Hp} (h : Cells c G) (s : Same G G') : Cells c G' := by
  obtain ⟨ns, h1, h2⟩ := h
  exact ⟨ns, s _ _ h1, h2⟩
/-- a def that takes from the pen alone -/
def RetP (p c : Addr) (n : Nat) (G H : Hp) (P : V → Hp → Prop) (Q : VK) : Prop := ∀ v H' G', But p H H' → PenAt p c n H' → Same G' H' → Same G G' → (∀ a, H a ≠ none → G' a = G a) → P v G' → Q v H'
theorem retP_of {p c : Addr} {n : Nat} {G H G' H' : Hp} {M : List Addr} {P : V → Hp → Prop} {Q : VK} {v : V} (k : RetP p c n G H P Q) (w : Wd ⟨H, G, [p]⟩ G' H' M) (hp : PenAt p c n H') (h : P v G') : Q v H' :=
  k v H' G' (fun a o hn h => w.kp a o (by simpa using hn) h) hp w.le w.gr w.fr h
theorem retP_use {p c : Addr} {n : Nat} {e : En} {G H : Hp} {M : List Addr} {P : V → Hp → Prop} {Q : VK} (w : Wd e G H M) (hp : p ∈ M) (k : ∀ v G' H', Wd e G' H' M → Same G G' → But p H H' → PenAt p c n H' → P v G' → Q v H') : RetP p c n G H P Q := by
  intro v H' G' b P' s2 s3 fr p'
  obtain ⟨a, g, h1, h2⟩ := id P'
  have w1 := wd_but w hp b h1
  refine k v G' H' ⟨s2, fun a ha => ?_, w.nd, w1.dom, fun a o h => s3 _ _ (w.gr _ _ h), fun a ha => by rw [fr a (w.dom a ha)]; exact w.fr a ha, w1.kp⟩ s3 b P' p'
  obtain ⟨h1, ⟨o, h2⟩, h3⟩ := w.mu a ha
  obtain ⟨_, h4, _⟩ := w1.mu a ha
  exact ⟨by rw [fr a (some_ne h2)]; exact h1, h4, h3⟩
/-! ### facts that last -/
theorem same_at {H H' : Hp} {p : Addr} {o : HO} (s : Same H H') (h : H p = some o) : H' p = some o := s _ _ h
theorem but_at {H H' : Hp} {p q : Addr} {o : HO} (s : But q H H') (n : p ≠ q) (h : H p = some o) : H' p = some o := s _ _ n h
theorem wd_at {e : En} {G H : Hp} {M : List Addr} {p : Addr} {o : HO} (w : Wd e G H M) (h : G p = some o) : H p = some o := w.le _ _ h
theorem same_sqL {K : PySem.W.Frag} {H H' : Hp} {p : Addr} {xs : List V} (s : Same H H') (h : SqL K H p xs) : SqL K H' p xs := s.seq h
theorem wd_sqL {e : En} {G H : Hp} {M : List Addr} {K : PySem.W.Frag} {p : Addr} {xs : List V} (w : Wd e G H M) (h : SqL K G p xs) : SqL K H p xs := w.le.seq h
theorem same_sqT {K : PySem.W.Frag} {H H' : Hp} {p : Addr} {xs : List V} (s : Same H H') (h : SqT K H p xs) : SqT K H' p xs := by
  rcases h with (h | ⟨o, h⟩) | h
  · exact .inl (.inl (s _ _ h))
  · exact .inl (.inr ⟨o, s _ _ h⟩)
  · exact .inr h
theorem wd_sqT {e : En} {G H : Hp} {M : List Addr} {K : PySem.W.Frag} {p : Addr} {xs : List V} (w : Wd e G H M) (h : SqT K G p xs) : SqT K H p xs := same_sqT w.le h
theorem same_dpAll {K : PySem.W.Frag} {H H' : Hp} (s : Same H H') : ∀ (n : Nat), (∀ d x, sizeOf d ≤ n → Dp K H x d → Dp K H' x d) ∧ (∀ ds vs, sizeOf ds ≤ n → DpAll K H vs ds → DpAll K H' vs ds) := by
  intro n
  induction n with
  | zero => exact ⟨fun d x hn h => (by cases d <;> simp at hn), fun ds vs hn h => (by cases ds <;> simp at hn)⟩
  | succ n ih =>
    have h1 : ∀ d x, sizeOf d ≤ n + 1 → Dp K H x d → Dp K H' x d := by
      intro d x hn h
      cases h with
      | non => exact .non
      | bl b => exact .bl b
      | int i => exact .int i
      | str x => exact .str x
      | lst hs ha => exact .lst (s.seq hs) (ih.2 _ _ (by simp at hn; omega) ha)
      | tup hs ha => exact .tup (same_sqT s hs) (ih.2 _ _ (by simp at hn; omega) ha)
    refine ⟨h1, fun ds vs hn h => ?_⟩
    cases h with
    | nil => exact .nil
    | cons a b => exact .cons (h1 _ _ (by simp at hn; omega) a) (ih.2 _ _ (by simp at hn; omega) b)
theorem same_dp {K : PySem.W.Frag} {H H' : Hp} (s : Same H H') {x : V} {d : PyData} (h : Dp K H x d) : Dp K H' x d := (same_dpAll s (sizeOf d)).1 d x (Nat.le_refl _) h
theorem same_dpa {K : PySem.W.Frag} {H H' : Hp} (s : Same H H') {xs : List V} {ds : List PyData} (h : DpAll K H xs ds) : DpAll K H' xs ds := (same_dpAll s (sizeOf ds)).2 ds xs (Nat.le_refl _) h
theorem wd_dp {e : En} {G H : Hp} {M : List Addr} {K : PySem.W.Frag} {x : V} {d : PyData} (w : Wd e G H M) (h : Dp K G x d) : Dp K H x d := same_dp w.le h
/-! ### readings, step by step -/
section
variable {σ : L2.St} {H : Hp} {i : Nat} {v x y z : V} {ta tb tc te : TE} {t u : TT} {ts tl : TA} {D : Ends} {sa sb : TS} {g : TG} {Qv : VK} {Qa : List V → Hp → Prop} {Qb : Bool → Hp → Prop} {r r' : R2} {K : PySem.W.Frag}
theorem r_var (h : σ[i]? = some (some v)) (q : Qv v H) : tVar i σ H Qv := ⟨v, h, q⟩
theorem r_c (q : Qv v H) : tC v σ H Qv := q
theorem r_op (q : ta σ H fun x H1 => tb σ H1 fun y H2 => r x y H2 Qv) : tOp r ta tb σ H Qv := q
theorem r_un {r : V → Hp → VK → Prop} (q : ta σ H fun x H1 => r x H1 Qv) : tUn r ta σ H Qv := q
theorem r_cb {r : List V → Hp → VK → Prop} (q : ts σ H fun vs H1 => r vs H1 Qv) : tCB r ts σ H Qv := q
theorem r_call {sp : Sp} {dvs : List V} {E : XK} (q : ts σ H fun vs H1 => sp (vs ++ dvs) H1 Qv E) : tCall sp dvs E ts σ H Qv := q
theorem r_call0 {sp : Sp} {E : XK} (q : ts σ H fun vs H1 => sp vs H1 Qv E) : tCall sp [] E ts σ H Qv := by
  unfold tCall
  simp only [List.append_nil]
  exact q
theorem r_nil (q : Qa [] H) : tNil σ H Qa := q
theorem r_cons (q : ta σ H fun x H1 => ts σ H1 fun xs H2 => Qa (x :: xs) H2) : tCons ta ts σ H Qa := q
theorem r_seq (q : sa { D with nx := sb D } σ H) : tSeq sa sb D σ H := q
theorem r_asg (q : te σ H fun x H1 => g x σ H1 D.nx) : tAsg te g D σ H := q
theorem r_name {Q : L2.St → Hp → Prop} (q : Q (σ.set i (some v)) H) : gName i v σ H Q := q
theorem r_ret (q : te σ H D.rt) : tRet te D σ H := q
theorem r_next (q : D.nx σ H) : tNext D σ H := q
theorem r_drop (q : te σ H fun _ H1 => D.nx σ H1) : tDrop te D σ H := q
theorem r_ifS (q : t σ H fun b H1 => if b = true then sa D σ H1 else sb D σ H1) : tIfS t sa sb D σ H := q
theorem r_test (q : te σ H fun x H' => ∃ k, x = .bl k ∧ Qb k H') : tTest te σ H Qb := q
theorem r_tB (q : te σ H fun x H' => ∃ k, x = .bl k ∧ Qb k H') : tB te σ H Qb := q
theorem r_exb {P : Bool → Prop} {b : Bool} (q : P b) : ∃ k, V.bl b = .bl k ∧ P k := ⟨b, rfl, q⟩
theorem r_and (q : t σ H fun c H1 => if c = true then u σ H1 Qb else Qb false H1) : tAnd t u σ H Qb := q
theorem r_or (q : t σ H fun c H1 => if c = true then Qb true H1 else u σ H1 Qb) : tOr t u σ H Qb := q
theorem r_not (q : t σ H fun c H1 => Qb (!c) H1) : tNot t σ H Qb := q
theorem r_andV (q : ta σ H fun x H1 => ∃ c, x = .bl c ∧ if c = true then tb σ H1 Qv else Qv (.bl false) H1) : tAndV ta tb σ H Qv := q
theorem r_orV (q : ta σ H fun x H1 => ∃ c, x = .bl c ∧ if c = true then Qv (.bl true) H1 else tb σ H1 Qv) : tOrV ta tb σ H Qv := q
theorem r_notV (q : ta σ H fun x H1 => ∃ c, x = .bl c ∧ Qv (.bl (!c)) H1) : tNotV ta σ H Qv := q
theorem r_ifE (q : t σ H fun c H1 => if c = true then ta σ H1 Qv else tb σ H1 Qv) : tIf t ta tb σ H Qv := q
theorem r_chain (q : ta σ H fun x H1 => tb σ H1 fun y H2 => r x y H2 fun z H3 => ∃ k, z = .bl k ∧ (if k = true then tc σ H3 fun w' H4 => r' y w' H4 Qv else Qv (.bl false) H3)) : tChain r r' ta tb tc σ H Qv := q
theorem r_I0 {f : Int → Int → V} {a b : Int} (q : Qv (f a b) H) : rI0 f (.int a) (.int b) H Qv := ⟨a, b, rfl, rfl, q⟩
theorem r_I {C : Int → Int → Prop} {f : Int → Int → V} {a b : Int} (c : C a b) (q : Qv (f a b) H) : rI C f (.int a) (.int b) H Qv := ⟨a, b, rfl, rfl, c, q⟩
theorem r_eq (h : scal x y = true) (q : Qv (.bl (decide (x = y))) H) : rEq x y H Qv := ⟨h, q⟩
theorem r_ne (h : scal x y = true) (q : Qv (.bl (!decide (x = y))) H) : rNe x y H Qv := ⟨h, q⟩
theorem r_ixL0 {p : Addr} {xs : List V} {k : Int} (h : SqL K H p xs) (e : atI xs k = some v) (q : Qv v H) : rIxL K (.ref p) (.int k) H Qv := ⟨p, xs, k, v, rfl, rfl, h, e, q⟩
theorem r_ixT0 {p : Addr} {xs : List V} {k : Int} (h : SqT K H p xs) (e : atI xs k = some v) (q : Qv v H) : rIxT K (.ref p) (.int k) H Qv := ⟨p, xs, k, v, rfl, rfl, h, e, q⟩
theorem r_gSub {to ti : TE} {s : TSet} {Q : L2.St → Hp → Prop} (q : to σ H fun o H1 => ti σ H1 fun i H2 => s o i v H2 fun H3 => Q σ H3) : gSub to ti s v σ H Q := q
/-- a new object is laid, then R of its address -/
def Lay (n : Nat) (o : HO) (R : VK) (H : Hp) : Prop := n ≤ sizeLine ∧ ∀ p, H p = none → R (.ref p) (upd H p o)
theorem r_lay {e : En} {G : Hp} {M : List Addr} {n : Nat} {o : HO} {R : VK} (w : Wd e G H M) (hl : n ≤ sizeLine) (k : ∀ p G' H', H p = none → Wd e G' H' M → Same G G' → G' p = some o → Same H H' → R (.ref p) H') : Lay n o R H :=
  ⟨hl, fun p hp => k p _ _ hp (wd_lay w hp) (same_upd (w.g hp)) upd_same (same_upd hp)⟩
def LayM (n : Nat) (o : HO) (R : VK) (H : Hp) : Prop := Lay n o R H
theorem r_layM {e : En} {G : Hp} {M : List Addr} {n : Nat} {o : HO} {R : VK} (w : Wd e G H M) (hl : n ≤ sizeLine) (k : ∀ p H', H p = none → Wd e G H' (p :: M) → H' p = some o → Same H H' → (∀ m ∈ M, p ≠ m) → R (.ref p) H') : LayM n o R H :=
  ⟨hl, fun p hp => k p _ hp (wd_layM w hp) upd_same (same_upd hp) fun m hm => w.nm hp hm⟩
/-- a list that will be changed -/
def tLstM (ts : TA) : TE := tLst ts
theorem pe_lstM {X : Cx} {es : List Expr} {pos : Pos} (h : PA X es ts) : PE X (.List es pos) (tLstM ts) := pe_lst h
theorem r_lstM (q : ts σ H fun xs H1 => LayM xs.length (.lst xs) Qv H1) : tLstM ts σ H Qv := q
theorem r_tup (q : ts σ H fun xs H1 => Lay xs.length (.tup xs) Qv H1) : tTup ts σ H Qv := q
theorem r_lst (q : ts σ H fun xs H1 => Lay xs.length (.lst xs) Qv H1) : tLst ts σ H Qv := q
/-! ### operations on several kinds -/
theorem opr_or {X : Cx} {f : Value → Value → Sem Value} {r1 r2 : R2} (h1 : OpR X f r1) (h2 : OpR X f r2) : OpR X f (fun x y H Q => r1 x y H Q ∨ r2 x y H Q) := fun pins s σ H x y v u Q I rx ry h =>
  h.elim (fun h => h1 pins s σ H x y v u Q I rx ry h) fun h => h2 pins s σ H x y v u Q I rx ry h
theorem cr_or {X : Cx} {f : Value} {r1 r2 : List V → Hp → VK → Prop} (h1 : CallR X f r1) (h2 : CallR X f r2) : CallR X f (fun xs H Q => r1 xs H Q ∨ r2 xs H Q) := fun pins s σ H xs us Q I r h =>
  h.elim (fun h => h1 pins s σ H xs us Q I r h) fun h => h2 pins s σ H xs us Q I r h
def rStr2 (f : Str → Str → V) : R2 := fun x y H Q => ∃ a b, x = .str a ∧ y = .str b ∧ Q (f a b) H
def rAddS : R2 := fun x y H Q => ∃ i j, x = .str i ∧ y = .str j ∧ i.length + j.length ≤ sizeLine ∧ Q (.str (i ++ j)) H
/-- + : ints, texts, lists -/
def rAdd : R2 := fun x y H Q => rI0 (fun i j => .int (i + j)) x y H Q ∨ (rAddS x y H Q ∨ rCat x y H Q)
theorem q_add {X : Cx} : OpR X (binaryOp .Add) rAdd := opr_or op_add (opr_or op_add_str op_cat)
theorem r_addI {a b : Int} (q : Qv (.int (a + b)) H) : rAdd (.int a) (.int b) H Qv := .inl ⟨a, b, rfl, rfl, q⟩
theorem r_addS {a b : Str} (h : a.length + b.length ≤ sizeLine) (q : Qv (.str (a ++ b)) H) : rAdd (.str a) (.str b) H Qv := .inr (.inl ⟨a, b, rfl, rfl, h, q⟩)
theorem r_addL {a b : Addr} {xs zs : List V} (h1 : H a = some (.lst xs)) (h2 : H b = some (.lst zs)) (q : Lay (xs.length + zs.length) (.lst (xs ++ zs)) Qv H) : rAdd (.ref a) (.ref b) H Qv := .inr (.inr ⟨a, b, xs, zs, rfl, rfl, h1, h2, q⟩)
def rSub : R2 := rI0 fun i j => .int (i - j)
theorem q_sub {X : Cx} : OpR X (binaryOp .Sub) rSub := op_sub
theorem r_sub {a b : Int} (q : Qv (.int (a - b)) H) : rSub (.int a) (.int b) H Qv := ⟨a, b, rfl, rfl, q⟩
def rMul : R2 := rI CMul fun i j => .int (i * j)
theorem q_mul {X : Cx} : OpR X (binaryOp .Mult) rMul := op_mul
theorem r_mul {a b : Int} (c : CMul a b) (q : Qv (.int (a * b)) H) : rMul (.int a) (.int b) H Qv := ⟨a, b, rfl, rfl, c, q⟩
def rFdiv : R2 := rI CDivW fun i j => .int (i / j)
theorem q_fdiv {X : Cx} : OpR X (binaryOp .FloorDiv) rFdiv := op_fdivW
theorem r_fdiv {a b : Int} (c : CDivW a b) (q : Qv (.int (a / b)) H) : rFdiv (.int a) (.int b) H Qv := ⟨a, b, rfl, rfl, c, q⟩
def rMod : R2 := rI (fun _ j => 0 < j) fun i j => .int (i % j)
theorem q_mod {X : Cx} : OpR X (binaryOp .Mod) rMod := op_mod
theorem r_mod {a b : Int} (c : 0 < b) (q : Qv (.int (a % b)) H) : rMod (.int a) (.int b) H Qv := ⟨a, b, rfl, rfl, c, q⟩
def rPow : R2 := rI CPow fun i j => .int (i ^ j.toNat)
theorem q_pow {X : Cx} : OpR X (binaryOp .Pow) rPow := op_pow
theorem r_pow {a b : Int} (c : CPow a b) (q : Qv (.int (a ^ b.toNat)) H) : rPow (.int a) (.int b) H Qv := ⟨a, b, rfl, rfl, c, q⟩
/-- comparisons of ints | of texts -/
def rLtX : R2 := fun x y H Q => rI0 (fun i j => .bl (decide (i < j))) x y H Q ∨ rStr2 (fun a b => .bl (decide (a.cps.toList < b.cps.toList))) x y H Q
theorem q_lt {X : Cx} : OpR X (compareOp .Lt) rLtX := opr_or op_lt op_lt_str
theorem r_lt {a b : Int} (q : Qv (.bl (decide (a < b))) H) : rLtX (.int a) (.int b) H Qv := .inl ⟨a, b, rfl, rfl, q⟩
theorem r_ltS {a b : Str} (q : Qv (.bl (decide (a.cps.toList < b.cps.toList))) H) : rLtX (.str a) (.str b) H Qv := .inr ⟨a, b, rfl, rfl, q⟩
def rLeX : R2 := rI0 fun i j => .bl (decide (i ≤ j))
theorem q_le {X : Cx} : OpR X (compareOp .LtE) rLeX := op_le
theorem r_le {a b : Int} (q : Qv (.bl (decide (a ≤ b))) H) : rLeX (.int a) (.int b) H Qv := ⟨a, b, rfl, rfl, q⟩
def rGtX : R2 := rI0 fun i j => .bl (decide (j < i))
theorem q_gt {X : Cx} : OpR X (compareOp .Gt) rGtX := op_gt
theorem r_gt {a b : Int} (q : Qv (.bl (decide (b < a))) H) : rGtX (.int a) (.int b) H Qv := ⟨a, b, rfl, rfl, q⟩
def rGeX : R2 := rI0 fun i j => .bl (decide (j ≤ i))
theorem q_ge {X : Cx} : OpR X (compareOp .GtE) rGeX := op_ge
theorem r_ge {a b : Int} (q : Qv (.bl (decide (b ≤ a))) H) : rGeX (.int a) (.int b) H Qv := ⟨a, b, rfl, rfl, q⟩
/-- == : scalars, data -/
def rEqX (K : PySem.W.Frag) : R2 := fun x y H Q => rEq x y H Q ∨ rEqD K x y H Q
theorem q_eq {X : Cx} (hu : X.A.units + 64 < cLine) : OpR X (compareOp .Eq) (rEqX X.K) := opr_or op_eq (op_eqD hu)
theorem r_eqS (h : scal x y = true) (q : Qv (.bl (decide (x = y))) H) : rEqX K x y H Qv := .inl ⟨h, q⟩
theorem r_eqD {d e : PyData} (h1 : Dp K H x d) (h2 : Dp K H y e) (s1 : SeqAt.shaped d = true) (s2 : SeqAt.shaped e = true) (q : Qv (.bl (PyData.eqv d e)) H) : rEqX K x y H Qv := .inr ⟨d, e, h1, h2, s1, s2, q⟩
def rNeX (K : PySem.W.Frag) : R2 := fun x y H Q => rNe x y H Q ∨ rNeD K x y H Q
theorem q_ne {X : Cx} (hu : X.A.units + 64 < cLine) : OpR X (compareOp .NotEq) (rNeX X.K) := opr_or op_ne (op_neD hu)
theorem r_neS (h : scal x y = true) (q : Qv (.bl (!decide (x = y))) H) : rNeX K x y H Qv := .inl ⟨h, q⟩
theorem r_neD {d e : PyData} (h1 : Dp K H x d) (h2 : Dp K H y e) (s1 : SeqAt.shaped d = true) (s2 : SeqAt.shaped e = true) (q : Qv (.bl (!PyData.eqv d e)) H) : rNeX K x y H Qv := .inr ⟨d, e, h1, h2, s1, s2, q⟩
theorem r_inL {p : Addr} {xs : List V} (h : SqL K H p xs) (f1 : flatV x = true) (f2 : xs.all flatV = true) (q : Qv (.bl (inV x xs)) H) : rIn K false x (.ref p) H Qv := ⟨p, xs, rfl, .inl h, f1, f2, q⟩
theorem r_inT {p : Addr} {xs : List V} (h : SqT K H p xs) (f1 : flatV x = true) (f2 : xs.all flatV = true) (q : Qv (.bl (inV x xs)) H) : rIn K false x (.ref p) H Qv := ⟨p, xs, rfl, .inr h, f1, f2, q⟩
theorem r_ninL {p : Addr} {xs : List V} (h : SqL K H p xs) (f1 : flatV x = true) (f2 : xs.all flatV = true) (q : Qv (.bl (!inV x xs)) H) : rIn K true x (.ref p) H Qv := ⟨p, xs, rfl, .inl h, f1, f2, q⟩
theorem r_ninT {p : Addr} {xs : List V} (h : SqT K H p xs) (f1 : flatV x = true) (f2 : xs.all flatV = true) (q : Qv (.bl (!inV x xs)) H) : rIn K true x (.ref p) H Qv := ⟨p, xs, rfl, .inr h, f1, f2, q⟩
def rIsN : R2 := fun x y H Q => y = .non ∧ Q (.bl (decide (x = .non))) H
theorem q_isN {X : Cx} : OpR X (compareOp .Is) rIsN := op_isN
theorem r_isN (q : Qv (.bl (decide (x = .non))) H) : rIsN x .non H Qv := ⟨rfl, q⟩
def rNotN : R2 := fun x y H Q => y = .non ∧ Q (.bl (!decide (x = .non))) H
theorem q_notN {X : Cx} : OpR X (compareOp .IsNot) rNotN := op_notN
theorem r_notN (q : Qv (.bl (!decide (x = .non))) H) : rNotN x .non H Qv := ⟨rfl, q⟩
/-! ### an index: a list, a tuple, a text -/
theorem q_ix {X : Cx} : IxR X (rIx X.K) := ix_seq
theorem r_ixL {p : Addr} {xs : List V} {k : Int} (h : SqL K H p xs) (e : atI xs k = some v) (q : Qv v H) : rIx K (.ref p) (.int k) H Qv := .inl ⟨p, xs, k, v, rfl, rfl, h, e, q⟩
theorem r_ixT {p : Addr} {xs : List V} {k : Int} (h : SqT K H p xs) (e : atI xs k = some v) (q : Qv v H) : rIx K (.ref p) (.int k) H Qv := .inr (.inl ⟨p, xs, k, v, rfl, rfl, h, e, q⟩)
theorem r_ixS {z : Str} {k : Int} {c : Nat} (h : z.length ≤ sizeLine) (e : atI z.cps.toList k = some c) (q : Qv (.str ⟨#[c]⟩) H) : rIx K (.str z) (.int k) H Qv := .inr (.inr ⟨z, k, c, rfl, rfl, h, e, q⟩)
theorem r_setL {p : Addr} {xs : List V} {k : Int} {j : Nat} {Q : Hp → Prop} (h : H p = some (.lst xs)) (e : ixN xs.length k = some j) (q : Q (upd H p (.lst (xs.set j v)))) : rSetL (.ref p) (.int k) v H Q := ⟨p, xs, k, j, rfl, rfl, h, e, q⟩
theorem r_setM {e : En} {G : Hp} {M : List Addr} {p : Addr} {xs : List V} {k : Int} {j : Nat} {Q : Hp → Prop} (w : Wd e G H M) (hm : p ∈ M) (h : H p = some (.lst xs)) (e' : ixN xs.length k = some j)
    (q : ∀ H', Wd e G H' M → H' p = some (.lst (xs.set j v)) → But p H H' → Q H') : rSetL (.ref p) (.int k) v H Q := ⟨p, xs, k, j, rfl, rfl, h, e', q _ (wd_mut w hm) upd_same but_upd⟩
/-! ### built-ins -/
def rInt1 : List V → Hp → VK → Prop := fun xs H Q => (∃ i, xs = [.int i] ∧ Q (.int i) H) ∨ ∃ k, xs = [.bl k] ∧ Q (.int (if k then 1 else 0)) H
theorem q_int {X : Cx} : CallR X (.type "int") rInt1 := call_int1
theorem r_int {a : Int} (q : Qv (.int a) H) : rInt1 [.int a] H Qv := .inl ⟨a, rfl, q⟩
theorem r_intB {b : Bool} (q : Qv (.int (if b then 1 else 0)) H) : rInt1 [.bl b] H Qv := .inr ⟨b, rfl, q⟩
def rAbs : List V → Hp → VK → Prop := fun xs H Q => ∃ i, xs = [.int i] ∧ Q (.int (if i < 0 then -i else i)) H
theorem q_abs {X : Cx} : CallR X (.builtin "abs") rAbs := call_abs
theorem r_abs {a : Int} (q : Qv (.int (if a < 0 then -a else a)) H) : rAbs [.int a] H Qv := ⟨a, rfl, q⟩
def rLenX (K : PySem.W.Frag) : List V → Hp → VK → Prop := fun xs H Q => ∃ x n, xs = [x] ∧ LenV K x H n ∧ Q (.int n) H
theorem q_len {X : Cx} : CallR X (.builtin "len") (rLenX X.K) := call_len
theorem r_lenL {p : Addr} {xs : List V} (h : SqL K H p xs) (q : Qv (.int (xs.length : Nat)) H) : rLenX K [.ref p] H Qv := ⟨_, _, rfl, .inl ⟨xs, h, rfl⟩, q⟩
theorem r_lenT {p : Addr} {xs : List V} (h : SqT K H p xs) (q : Qv (.int (xs.length : Nat)) H) : rLenX K [.ref p] H Qv := ⟨_, _, rfl, .inr ⟨xs, h, rfl⟩, q⟩
theorem r_lenS {z : Str} (h : z.length ≤ sizeLine) (q : Qv (.int (z.length : Nat)) H) : rLenX K [.str z] H Qv := ⟨_, _, rfl, ⟨h, rfl⟩, q⟩
def rListOf (K : PySem.W.Frag) : List V → Hp → VK → Prop := fun xs H Q => ∃ p ys, xs = [.ref p] ∧ (SqL K H p ys ∨ SqT K H p ys) ∧ ∀ l, H l = none → Q (.ref l) (upd H l (.lst ys))
theorem q_list {X : Cx} : CallR X (.type "list") (rListOf X.K) := call_list_of
theorem r_listL {p : Addr} {ys : List V} (h : SqL K H p ys) (q : Lay 0 (.lst ys) Qv H) : rListOf K [.ref p] H Qv := ⟨p, ys, rfl, .inl h, q.2⟩
theorem r_listT {p : Addr} {ys : List V} (h : SqT K H p ys) (q : Lay 0 (.lst ys) Qv H) : rListOf K [.ref p] H Qv := ⟨p, ys, rfl, .inr h, q.2⟩
theorem r_sl {r : V → Option Int → Option Int → Hp → VK → Prop} {t1 t2 : TO} (q : te σ H fun x H1 => t1 σ H1 fun l H2 => t2 σ H2 fun u H3 => r x l u H3 Qv) : tSl r te t1 t2 σ H Qv := q
theorem r_noPart {Q : Option Int → Hp → Prop} (q : Q none H) : tNoPart σ H Q := q
theorem r_part {Q : Option Int → Hp → Prop} (q : te σ H fun x H1 => ∃ i, x = .int i ∧ Q (some i) H1) : tPart te σ H Q := q
theorem r_exi {P : Int → Prop} {a : Int} (q : P a) : ∃ i, V.int a = .int i ∧ P i := ⟨a, rfl, q⟩
theorem r_slL {p : Addr} {xs : List V} {lo hi : Option Int} (h : SqL K H p xs) (q : Lay 0 (.lst (cutV xs lo hi)) Qv H) : rSlL K (.ref p) lo hi H Qv := ⟨p, xs, rfl, h, q.2⟩
theorem r_repr {d : PyData} (h : Dp K H x d) (s : d.showable = true) (dp : d.depth ≤ 60) (sz : d.shown.length ≤ sizeLine) (q : Qv (.str d.shown) H) : rRepr K [x] H Qv := ⟨x, d, rfl, h, s, dp, sz, q⟩
end
theorem dpa_ints {K : PySem.W.Frag} {H : Hp} : ∀ ns : List Int, DpAll K H (ns.map V.int) (ns.map PyData.int)
  | [] => .nil
  | n :: r => .cons (.int n) (dpa_ints r)
theorem canLay_ints : ∀ ns : List Int, PyData.canLayAll0 (ns.map PyData.int) = true
  | [] => by simp [PyData.canLayAll0]
  | n :: r => by simp [PyData.canLayAll0, PyData.canLay0, canLay_ints r]
theorem depth_ints : ∀ ns : List Int, PyData.depthAll (ns.map PyData.int) = 0
  | [] => by simp [PyData.depthAll]
  | n :: r => by simp [PyData.depthAll, PyData.depth, depth_ints r]
theorem shaped_ints (ns : List Int) : SeqAt.shaped (.list (ns.map PyData.int)) = true := by
  simp [SeqAt.shaped, PyData.canLay0, PyData.depth, canLay_ints, depth_ints]
theorem shaped_nil : SeqAt.shaped (.list []) = true := shaped_ints []
theorem eqv_nil (ds : List PyData) : PyData.eqv (.list ds) (.list []) = ds.isEmpty := by
  cases ds <;> simp [PyData.eqv, PyData.eqvAll]
theorem sq_bound {a c : Int} (h0 : 0 ≤ a) (h1 : a ≤ 1048576) (c0 : 0 ≤ c) (c1 : c ≤ 1048576) : 0 ≤ c * a * a ∧ c * a * a ≤ 1152921504606846976 := by
  have e1 : c * a ≤ 1048576 * 1048576 := Int.mul_le_mul c1 h1 h0 (by decide)
  have e0 : 0 ≤ c * a := Int.mul_nonneg c0 h0
  refine ⟨Int.mul_nonneg e0 h0, ?_⟩
  exact Int.le_trans (Int.mul_le_mul e1 h1 h0 (by decide)) (by decide)
theorem mul_bound {m k : Int} (h0 : 0 ≤ m) (h1 : m ≤ 4294967296) (k0 : 0 ≤ k) (k1 : k ≤ 134217728) : 0 ≤ m * k ∧ m * k ≤ 576460752303423488 :=
  ⟨Int.mul_nonneg h0 k0, Int.le_trans (Int.mul_le_mul h1 k1 k0 (by decide)) (by decide)⟩
theorem at_mod {α : Type} {xs : List α} (a : Int) (h : xs ≠ []) : ∃ j v, (a % (xs.length : Int)) = (j : Nat) ∧ xs[j]? = some v ∧ atI xs (a % (xs.length : Int)) = some v := by
  have h0 : 0 < xs.length := by cases xs with
    | nil => exact absurd rfl h
    | cons _ _ => simp
  have h1 := Int.emod_nonneg a (show (xs.length : Int) ≠ 0 by omega)
  have h2 := Int.emod_lt_of_pos a (show (0 : Int) < xs.length by omega)
  obtain ⟨j, e⟩ := Int.eq_ofNat_of_zero_le h1
  have hj : j < xs.length := by omega
  refine ⟨j, xs[j], e, List.getElem?_eq_getElem hj, ?_⟩
  rw [e]
  exact atI_nat (List.getElem?_eq_getElem hj)
theorem at_mod_ints {ns : List Int} (a : Int) (h : ns ≠ []) : ∃ z, atI (ns.map V.int) (a % ((ns.map V.int).length : Int)) = some (V.int z) := by
  obtain ⟨j, v, _, h2, h3⟩ := at_mod (xs := ns.map V.int) a (by simpa using h)
  rw [List.getElem?_map] at h2
  cases e : ns[j]? with
  | none => rw [e] at h2; cases h2
  | some z =>
    rw [e] at h2
    exact ⟨z, by rw [h3]; exact h2.symm⟩
theorem pow_small {m k c a e : Int} (m0 : 0 ≤ m) (m1 : m ≤ 4294967296) (k0 : 0 ≤ k) (k1 : k ≤ 134217728) (c0 : 0 ≤ c) (c1 : c ≤ 1048576) (a0 : 0 ≤ a) (a1 : a ≤ 1048576) (e0 : 0 ≤ e) (e1 : e ≤ 4294967296) : (m * k + c * a * a + e).natAbs < 2 ^ 64 := by
  have h1 := mul_bound m0 m1 k0 k1
  have h2 := sq_bound a0 a1 c0 c1
  omega
theorem cdiv_lit {i j : Int} (h : 0 < j) (h2 : j < 1073741824) : CDivW i j := wide_div (b := 30) h (by omega) (by decide) (by decide)
/-! ### what a law's draws promise -/
def spDraw : Sp := fun vs H Q _ => ∃ (G : Hp) (p c : Addr) (n : Nat) (many : Int), vs = [.ref p, .int many] ∧ Same G H ∧ G p = none ∧ Cells c G ∧ PenAt p c n H ∧ n ≤ 1048576 ∧ 0 < many ∧ many ≤ 10000000000000000000000000000000000000000000000000000000000000000000000 ∧
  RetP p c (n + 1) G H (fun v _ => ∃ d : Int, v = .int d ∧ 0 ≤ d ∧ d < many) Q
theorem u_draw {e : En} {G H : Hp} {M : List Addr} {p c : Addr} {n : Nat} {many : Int} {Q : VK} {E : XK} (w : Wd e G H M) (hm : p ∈ M) (hc : Cells c G) (P : PenAt p c n H) (hn : n ≤ 1048576) (h0 : 0 < many)
    (hb : many ≤ 10000000000000000000000000000000000000000000000000000000000000000000000) (k : ∀ (d : Int) (G' H' : Hp), Wd e G' H' M → Same G G' → But p H H' → PenAt p c (n + 1) H' → 0 ≤ d → d < many → Q (.int d) H') : spDraw [.ref p, .int many] H Q E :=
  ⟨G, p, c, n, many, rfl, w.le, (w.mu p hm).1, hc, P, hn, h0, hb, retP_use w hm fun v G' H' w' s b P' ⟨d, e, h1, h2⟩ => by subst e; exact k d G' H' w' s b P' h1 h2⟩
theorem cutV_ints (ns : List Int) (lo hi : Option Int) : ∃ ms : List Int, cutV (ns.map V.int) lo hi = ms.map V.int := by
  unfold cutV
  exact ⟨_, by rw [← List.map_drop, ← List.map_take]⟩
/-- the pen is made -/
def spPen (K : PySem.W.Frag) : Sp := fun vs H Q _ => ∃ (G : Hp) (a : Addr) (ns : List Int), vs = [.ref a] ∧ Same G H ∧ SqL K G a (ns.map V.int) ∧ ns.length ≤ 63 ∧
  ∀ (p c : Addr) (G' H' : Hp), Same H H' → Same G' H' → Same G G' → (∀ a, H a ≠ none → G' a = G a) → G' p = none → H p = none → Cells c G' → PenAt p c 0 H' → Q (.ref p) H'
theorem wd_grow {e : En} {G H G' H' : Hp} {M : List Addr} {p : Addr} {o : HO} (w : Wd e G H M) (s1 : Same H H') (s2 : Same G' H') (s3 : Same G G') (fr : ∀ a, H a ≠ none → G' a = G a) (gp : G' p = none) (hp : H p = none) (ho : H' p = some o) : Wd e G' H' (p :: M) := by
  have w1 := wd_same w s1
  refine ⟨s2, fun a ha => ?_, List.nodup_cons.mpr ⟨fun z => w.nm hp z rfl, w.nd⟩, w1.dom, fun a o h => s3 _ _ (w.gr _ _ h), fun a ha => by rw [fr a (w.dom a ha)]; exact w.fr a ha, w1.kp⟩
  rcases List.mem_cons.mp ha with x | ha
  · subst x
    exact ⟨gp, ⟨o, ho⟩, .inl (w.n0 hp)⟩
  · obtain ⟨h1, ⟨o, h2⟩, h3⟩ := w.mu a ha
    obtain ⟨_, h4, _⟩ := w1.mu a ha
    exact ⟨by rw [fr a (some_ne h2)]; exact h1, h4, h3⟩
theorem u_pen {K : PySem.W.Frag} {e : En} {G H : Hp} {M : List Addr} {a : Addr} {ns : List Int} {Q : VK} {E : XK} (w : Wd e G H M) (h : SqL K G a (ns.map V.int)) (hl : ns.length ≤ 63)
    (k : ∀ (p c : Addr) (G' H' : Hp), Wd e G' H' (p :: M) → Same G G' → Same H H' → Cells c G' → PenAt p c 0 H' → Q (.ref p) H') : spPen K [.ref a] H Q E :=
  ⟨G, a, ns, rfl, w.le, h, hl, fun p c G' H' s1 s2 s3 fr gp hp hc P => by
    obtain ⟨_, _, h1, _⟩ := id P
    exact k p c G' H' (wd_grow w s1 s2 s3 fr gp hp h1) s3 s1 hc P⟩
/-- what can be picked from -/
def IsSq (K : PySem.W.Frag) (G : Hp) (s : V) (xs : List V) : Prop := (∃ l, s = .ref l ∧ (SqL K G l xs ∨ SqT K G l xs)) ∨ ∃ z : Str, s = .str z ∧ z.length ≤ 1000 ∧ xs = z.cps.toList.map fun c => V.str ⟨#[c]⟩
def spPick (K : PySem.W.Frag) : Sp := fun vs H Q _ => ∃ (G : Hp) (p c : Addr) (n : Nat) (s : V) (xs : List V), vs = [.ref p, s] ∧ Same G H ∧ G p = none ∧ Cells c G ∧ PenAt p c n H ∧ n ≤ 1048576 ∧ IsSq K G s xs ∧ xs ≠ [] ∧ xs.length ≤ 1000000 ∧
  RetP p c (n + 1) G H (fun v _ => v ∈ xs) Q
theorem u_pick {K : PySem.W.Frag} {e : En} {G H : Hp} {M : List Addr} {p c : Addr} {n : Nat} {s : V} {xs : List V} {Q : VK} {E : XK} (w : Wd e G H M) (hm : p ∈ M) (hc : Cells c G) (P : PenAt p c n H) (hn : n ≤ 1048576) (hs : IsSq K G s xs) (h0 : xs ≠ []) (hb : xs.length ≤ 1000000)
    (k : ∀ (v : V) (G' H' : Hp), Wd e G' H' M → Same G G' → But p H H' → PenAt p c (n + 1) H' → v ∈ xs → Q v H') : spPick K [.ref p, s] H Q E :=
  ⟨G, p, c, n, s, xs, rfl, w.le, (w.mu p hm).1, hc, P, hn, hs, h0, hb, retP_use w hm fun v G' H' w' s b P' h => k v G' H' w' s b P' h⟩
/-! ### kinds -/
theorem same_ty {K : PySem.W.Frag} {H H' : Hp} {x : V} {t : Value} (s : Same H H') (h : TyX K H x t) : TyX K H' x t := by
  cases h with
  | base b =>
    cases b with
    | non => exact .base .non
    | bl y => exact .base (.bl y)
    | int i => exact .base (.int i)
    | str y => exact .base (.str y)
    | flt y => exact .base (.flt y)
    | lst e => exact .base (.lst (s _ _ e))
    | frz e => exact .base (.frz (s _ _ e))
    | tup e => exact .base (.tup (s _ _ e))
    | dK e => exact .base (.dK (s _ _ e))
    | dT e => exact .base (.dT (s _ _ e))
    | ins e cl ha hn htk hm => exact .base (.ins (s _ _ e) cl ha hn htk hm)
  | byt y => exact .byt y
  | set e => exact .set (s _ _ e)
  | kList e c => exact .kList e c
  | kTuple e c => exact .kTuple e c
  | kDict e c => exact .kDict e c
  | fTuple e => exact .fTuple (s _ _ e)
  | fDict e => exact .fDict (s _ _ e)
theorem r_isi {K : PySem.W.Frag} {H : Hp} {x : V} {n : String} {t : Value} {b : Bool} {Qv : VK} (h : TyX K H x t) (e : PySem.W.kitOne K t (.type n) = some b) (q : Qv (.bl b) H) : rIsi K [x, .ty n] H Qv := ⟨x, .ty n, t, .type n, b, rfl, .ty n, h, e, q⟩
theorem r_isiC {K : PySem.W.Frag} {H : Hp} {x : V} {C : Addr} {t : Value} {b : Bool} {Qv : VK} (h : TyX K H x t) (e : PySem.W.kitOne K t (.ref C) = some b) (q : Qv (.bl b) H) : rIsi K [x, .ref C] H Qv := ⟨x, .ref C, t, .ref C, b, rfl, .own C, h, e, q⟩
end Q
namespace Q
open PySem PySem.Spec PyProof.Rows L2
/-! ### a def as it stands, ready to be called -/
abbrev FnP (K : PySem.W.Frag) (x qual : Str) (st : Stmt) (dvs : List V) (f : Addr) (fd : FuncData) : Prop := FunD K x qual (defArgs st) (defBody st) (defScope st) dvs [] f fd
structure Df (P : Program) (w : World) (K : PySem.W.Frag) (mg : Str → Option Value) (base : Heap) (CX : CXT) (k : Nat) (x : Str) (dvs : List V) (sp : Sp) : Prop where
  ex : ∃ (f : Addr) (fd : FuncData) (ps : List Str) (ds : List Value), mg x = some (.ref f) ∧ PySem.W.keepIn K (.ref f) = true ∧ Binds K fd ps ds ∧ Vals dvs ds ∧ FnOk P w K mg base CX k f fd ps sp
structure DfA (P : Program) (w : World) (K : PySem.W.Frag) (mg : Str → Option Value) (base : Heap) (CX : CXT) (k : Nat) (x : Str) (dvs : List V) (sp : Sp) : Prop where
  ex : ∃ (f : Addr) (fd : FuncData) (ps : List Str) (ds : List Value), mg x = some (.ref f) ∧ PySem.W.keepIn K (.ref f) = true ∧ Binds K fd ps ds ∧ Vals dvs ds ∧ FnA P w K mg base CX k f fd ps sp
section
variable {X : Cx} {CX : CXT} {k j : Nat} {sp : Sp} {dvs : List V} {E : XK} {x : Str} {e : Expr} {es : List Expr} {t : TA} {pos p : Pos}
theorem pe_callD (D : Df X.prog X.w X.K X.mg X.base CX k x dvs sp) (hr : Room j X.A) (hx : Passes CX X E) (ha : PA X (e :: es) t) (hj : k ≤ j := by decide) (hg : Gl X x := by rfl)
    (hdb : (x == ("__debug__" : Str)) = false := by decide) (he : starEach (e :: es) X.env = (false, eval e X.env) :: starEach es X.env := by rfl) (hpl : (backTo pos (starEach es X.env)).any (·.1) = false := by rfl) :
    PE X (.Call (.Name x p) (e :: es) [] pos) (tCall sp dvs E t) := by
  obtain ⟨f, fd, ps, ds, h1, h2, h3, h4, h5⟩ := D.ex
  exact pe_call h5 (hr.mono hj) hg h1 h2 h3 h4 hx ha hdb he hpl
theorem pe_callD0 (D : Df X.prog X.w X.K X.mg X.base CX k x dvs sp) (hr : Room j X.A) (hx : Passes CX X E) (hj : k ≤ j := by decide) (hg : Gl X x := by rfl)
    (hdb : (x == ("__debug__" : Str)) = false := by decide) : PE X (.Call (.Name x p) [] [] pos) (tCall sp dvs E tNil) := by
  obtain ⟨f, fd, ps, ds, h1, h2, h3, h4, h5⟩ := D.ex
  exact pe_call0 h5 (hr.mono hj) hg h1 h2 h3 h4 hx hdb
theorem pe_callDA (D : DfA X.prog X.w X.K X.mg X.base CX k x dvs sp) (g : G0 X.A) (hr : Room j X.A) (hx : Passes CX X E) (ha : PA X (e :: es) t) (hj : k ≤ j := by decide) (hg : Gl X x := by rfl)
    (hdb : (x == ("__debug__" : Str)) = false := by decide) (he : starEach (e :: es) X.env = (false, eval e X.env) :: starEach es X.env := by rfl) (hpl : (backTo pos (starEach es X.env)).any (·.1) = false := by rfl) :
    PE X (.Call (.Name x p) (e :: es) [] pos) (tCall sp dvs E t) := by
  obtain ⟨f, fd, ps, ds, h1, h2, h3, h4, h5⟩ := D.ex
  exact pe_callA h5 g (hr.mono hj) hg h1 h2 h3 h4 hx ha hdb he hpl
end
section
variable {P : Program} {w : World} {K : PySem.W.Frag} {mg : Str → Option Value} {base : Heap} {x qual : Str} {st : Stmt} {f : Addr} {fd : FuncData} {N ps : List Str} {k : Nat} {sp : Sp} {dvs : List V}
/-- a def from which nothing is raised -/
theorem fnP_ok (F : FnP K x qual st dvs f fd) (S : FnScope N ps (defScope st)) (len : ∀ vs H Q E, sp vs H Q E → vs.length = ps.length)
    (body : ∀ (cdv : Value) (A : Around) (outer : List Env) (s : Shared) (H : Hp) (vs : List V) (Q : VK) (E : XK), Room k (A.deeper (envOfC qual (defScope st) s.heap.objs.size f cdv)) → sp vs H Q E →
      ∃ t, PSs (cxOf CX0 P w K mg base N qual (defScope st) f cdv A outer s H E).nox (defBody st) t ∧ t { nx := fun _ H' => Q .non H', rt := Q } (start N vs) H) :
    FnOk P w K mg base CX0 (k + 1) f fd ps sp := FunD.ok F S len fun cdv A outer s H vs Q E hr h => by
  obtain ⟨t, h1, q⟩ := body cdv A outer s H vs Q E hr h
  exact ⟨t, h1.nox, q⟩
theorem fnP_okA (F : FnP K x qual st dvs f fd) (S : FnScope N ps (defScope st)) (len : ∀ vs H Q E, sp vs H Q E → vs.length = ps.length)
    (body : ∀ (cdv : Value) (A : Around) (outer : List Env) (s : Shared) (H : Hp) (vs : List V) (Q : VK) (E : XK), G0 (A.deeper (envOfC qual (defScope st) s.heap.objs.size f cdv)) → Room k (A.deeper (envOfC qual (defScope st) s.heap.objs.size f cdv)) → sp vs H Q E →
      ∃ t, PSs (cxOf CX0 P w K mg base N qual (defScope st) f cdv A outer s H E).nox (defBody st) t ∧ t { nx := fun _ H' => Q .non H', rt := Q } (start N vs) H) :
    FnA P w K mg base CX0 (k + 1) f fd ps sp := by
  obtain ⟨oc, od, dV, kV, doc, pm, an, cdv, ct, osl, rfl, lk, hcd, _, _⟩ := F.ex
  refine ⟨len, fun A outer s H args us vs Q E g hr e0 hb r h => ?_⟩
  refine LamX.run_ofS lk hcd S hr e0 hb r (len _ _ _ _ h) fun hr2 => ?_
  obtain ⟨t, h1, q⟩ := body cdv A outer s H vs Q E (g0_deeper g) hr2 h
  exact ⟨t, h1.nox, q⟩
theorem df_of {CX : CXT} (F : FnP K x qual st [] f fd) (hm : mg x = some (.ref f)) (G : FnOk P w K mg base CX k f fd ps sp)
    (b : ∀ (kV doc pm : Value) (an : Option Addr) (cdv ct : Value) (us : List Value), us.length = ps.length → bindArgs (PySem.W.fnOf x qual (defArgs st) (defBody st) (defScope st) .none kV doc pm an cdv ct) ⟨us, []⟩ = pure (ps.zip us)) :
    Df P w K mg base CX k x [] sp := ⟨f, fd, ps, [], hm, F.kp, F.bindsN b, .nil, G⟩
theorem dfA_of {CX : CXT} (F : FnP K x qual st [] f fd) (hm : mg x = some (.ref f)) (G : FnA P w K mg base CX k f fd ps sp)
    (b : ∀ (kV doc pm : Value) (an : Option Addr) (cdv ct : Value) (us : List Value), us.length = ps.length → bindArgs (PySem.W.fnOf x qual (defArgs st) (defBody st) (defScope st) .none kV doc pm an cdv ct) ⟨us, []⟩ = pure (ps.zip us)) :
    DfA P w K mg base CX k x [] sp := ⟨f, fd, ps, [], hm, F.kp, F.bindsN b, .nil, G⟩
end
end Q
namespace Q
open PySem PySem.Spec PyProof.Rows L2
/-! ### loops and comprehensions by their walk -/
def ForGo (J : It) (g : TG) (tb : TS) (D : Ends) (σ : L2.St) (H : Hp) : Prop := ∃ W : Nat → Nat → L2.St → Hp → Prop, (∃ m, W 0 m σ H) ∧ ∀ i m σ H, W i m σ H →
  (J.stop i H ∧ D.nx σ H) ∨ (J.go i H ∧ ∃ N : L2.St → Hp → Prop, (∀ σ' H', N σ' H' → ∃ m', m' < m ∧ W (i + 1) m' σ' H') ∧ ∀ x H', J.yld i H x H' → g x σ H' fun σ2 H2 => tb { D with nx := N, ct := N, bk := D.nx } σ2 H2)
theorem r_for {wi : TI} {g : TG} {tb : TS} {D : Ends} {σ : L2.St} {H : Hp} (q : wi σ H fun J H1 => ForGo J g tb D σ H1) : tFor wi g tb D σ H := q
theorem for_go {J : It} {n : Nat} {G : Hp → Prop} {Y : Nat → Hp → V → Hp → Prop} {g : TG} {tb : TS} {D : Ends} {σ : L2.St} {H : Hp} (w : Walk J n G Y) (Pv : Nat → L2.St → Hp → Prop) (h0 : Pv 0 σ H) (hG : ∀ i σ H, i ≤ n → Pv i σ H → G H)
    (hs : ∀ i x σ H H', i < n → Pv i σ H → Y i H x H' → g x σ H' fun σ2 H2 => tb { D with nx := Pv (i + 1), ct := Pv (i + 1), bk := D.nx } σ2 H2) (hd : ∀ σ H, Pv n σ H → D.nx σ H) : ForGo J g tb D σ H := for_it w Pv h0 hG hs hd
def LcGo (J : It) (g : TG) (tt : TT) (te : TE) (vs : List Nat) (σ : L2.St) (Q : VK) (H1 : Hp) : Prop := ∀ D, H1 D = none → ∃ W : Nat → Nat → Hp → Prop, (∃ m, W 0 m (upd H1 D (.lst []))) ∧ ∀ i m H, W i m H →
  (J.stop i H ∧ Q (.ref D) H) ∨ (J.go i H ∧ ∃ Nx : Hp → Prop, (∀ H', Nx H' → ∃ m', m' < m ∧ W (i + 1) m' H') ∧ ∀ x H', J.yld i H x H' → g x (wipe σ vs) H' fun σ2 H2 => wipe σ2 vs = wipe σ vs ∧ tt σ2 H2 fun b H3 =>
    if b = true then te σ2 H3 fun y H4 => ∃ acc, H4 D = some (.lst acc) ∧ acc.length < sizeLine ∧ Nx (upd H4 D (.lst (acc ++ [y]))) else Nx H3)
theorem r_lc {wi : TI} {g : TG} {tt : TT} {te : TE} {vs : List Nat} {σ : L2.St} {H : Hp} {Q : VK} (q : wi σ H fun J H1 => LcGo J g tt te vs σ Q H1) : tLc wi g tt te vs σ H Q := q
/-- a comprehension on its way: D the new list's place, acc what it holds, Gi the ghost -/
def LcP (e : En) (G : Hp) (M : List Addr) (R : Nat → List V → Hp → Hp → Prop) (Dd : Addr) (i : Nat) (H : Hp) : Prop := ∃ acc Gi, Wd e Gi H (Dd :: M) ∧ Same G Gi ∧ H Dd = some (.lst acc) ∧ acc.length ≤ i ∧ R i acc Gi H
def LcAdd (Dd : Addr) (P : Hp → Prop) : VK := fun y H4 => ∃ acc, H4 Dd = some (.lst acc) ∧ acc.length < sizeLine ∧ P (upd H4 Dd (.lst (acc ++ [y])))
def LcT (Dd : Addr) (P : Hp → Prop) (tt : TT) (te : TE) (vs : List Nat) (σ : L2.St) : L2.St → Hp → Prop := fun σ2 H2 => wipe σ2 vs = wipe σ vs ∧ tt σ2 H2 fun b H3 => if b = true then te σ2 H3 (LcAdd Dd P) else P H3
theorem r_lcT {Dd : Addr} {P : Hp → Prop} {tt : TT} {te : TE} {vs : List Nat} {σ σ2 : L2.St} {H : Hp} (h : wipe σ2 vs = wipe σ vs) (q : tt σ2 H fun b H3 => if b = true then te σ2 H3 (LcAdd Dd P) else P H3) : LcT Dd P tt te vs σ σ2 H := ⟨h, q⟩
theorem r_yes {σ : L2.St} {H : Hp} {Q : Bool → Hp → Prop} (q : Q true H) : tYes σ H Q := q
theorem r_lcAdd {e : En} {G Gy H4 : Hp} {M : List Addr} {R : Nat → List V → Hp → Hp → Prop} {Dd : Addr} {i : Nat} {acc : List V} {y : V} (w : Wd e Gy H4 (Dd :: M)) (s : Same G Gy) (h : H4 Dd = some (.lst acc)) (hl : acc.length ≤ i) (hi : i ≤ 1000000)
    (k : ∀ H5, Wd e Gy H5 (Dd :: M) → But Dd H4 H5 → R (i + 1) (acc ++ [y]) Gy H5) : LcAdd Dd (LcP e G M R Dd (i + 1)) y H4 := by
  have w5 := wd_mut (o := .lst (acc ++ [y])) w List.mem_cons_self
  refine ⟨acc, h, Nat.lt_of_le_of_lt (Nat.le_trans hl hi) (by decide), _, Gy, w5, s, upd_same, ?_, k _ w5 but_upd⟩
  rw [List.length_append]
  exact Nat.add_le_add_right hl 1
theorem lc_go {e : En} {G H1 : Hp} {M : List Addr} {J : It} {n : Nat} {Gd : Hp → Prop} {Y : Nat → Hp → V → Hp → Prop} {g : TG} {tt : TT} {te : TE} {vs : List Nat} {σ : L2.St} {Q : VK} (w : Wd e G H1 M) (hw : Walk J n Gd Y) (R : Nat → List V → Hp → Hp → Prop)
    (h0 : ∀ (Dd : Addr) (H : Hp), Wd e G H (Dd :: M) → Same H1 H → (∀ m ∈ M, Dd ≠ m) → R 0 [] G H)
    (hG : ∀ i acc Gi H, Wd e Gi H M → Same G Gi → R i acc Gi H → Gd H)
    (hs : ∀ (Dd : Addr) i acc Gi H x H', i < n → acc.length ≤ i → Wd e Gi H (Dd :: M) → Same G Gi → H Dd = some (.lst acc) → (∀ m ∈ M, Dd ≠ m) → R i acc Gi H → Y i H x H' → g x (wipe σ vs) H' (LcT Dd (LcP e G M R Dd (i + 1)) tt te vs σ))
    (hd : ∀ (p : Addr) acc Gi Gp H, acc.length ≤ n → Wd e Gp H M → Same G Gp → Same Gi Gp → Gp p = some (.lst acc) → R n acc Gi H → Q (.ref p) H) : LcGo J g tt te vs σ Q H1 := by
  intro Dd hD
  have w1 := wd_layM (o := .lst []) w hD
  have nm : ∀ m ∈ M, Dd ≠ m := fun m hm => w.nm hD hm
  refine lc_it hw (LcP e G M R Dd) ⟨[], G, w1, Same.refl _, upd_same, Nat.le_refl _, h0 Dd _ w1 (same_upd hD) nm⟩ (fun i H _ ⟨acc, Gi, w2, s2, _, _, r⟩ => hG i acc Gi H (wd_drop w2 (List.sublist_cons_self _ _)) s2 r) (fun i x H H' hi ⟨acc, Gi, w2, s2, h2, l2, r⟩ y => hs Dd i acc Gi H x H' hi l2 w2 s2 h2 nm r y) fun H ⟨acc, Gi, w2, s2, h2, l2, r⟩ => ?_
  obtain ⟨w3, s3⟩ := wd_freeze w2 h2 (w.n0 hD)
  exact hd Dd acc Gi _ H l2 w3 (s2.trans s3) s3 upd_same r
/-! ### what is walked -/
theorem r_iList {K : PySem.W.Frag} {tl : TE} {σ : L2.St} {H : Hp} {R : It → Hp → Prop} (q : tl σ H fun x H1 => ∃ a, x = .ref a ∧ (∃ xs, SqL K H1 a xs) ∧ R (Itl K a) H1) : iList K tl σ H R := q
theorem r_iTup {K : PySem.W.Frag} {tl : TE} {σ : L2.St} {H : Hp} {R : It → Hp → Prop} (q : tl σ H fun x H1 => ∃ a, x = .ref a ∧ (∃ xs, SqT K H1 a xs) ∧ R (Itt K a) H1) : iTup K tl σ H R := q
theorem r_iListR {K : PySem.W.Frag} {H : Hp} {R : Addr → Prop} {a : Addr} {xs : List V} (h : SqL K H a xs) (q : R a) : ∃ b, V.ref a = .ref b ∧ (∃ xs, SqL K H b xs) ∧ R b := ⟨a, rfl, ⟨xs, h⟩, q⟩
theorem r_iTupR {K : PySem.W.Frag} {H : Hp} {R : Addr → Prop} {a : Addr} {xs : List V} (h : SqT K H a xs) (q : R a) : ∃ b, V.ref a = .ref b ∧ (∃ xs, SqT K H b xs) ∧ R b := ⟨a, rfl, ⟨xs, h⟩, q⟩
theorem r_iStr {te : TE} {σ : L2.St} {H : Hp} {R : It → Hp → Prop} (q : te σ H fun v H1 => ∃ x, v = .str x ∧ R (Its x) H1) : iStr te σ H R := q
theorem r_exs {P : Str → Prop} {a : Str} (q : P a) : ∃ x, V.str a = .str x ∧ P x := ⟨a, rfl, q⟩
theorem r_rng1 {ta : TA} {σ : L2.St} {H : Hp} {R : It → Hp → Prop} (q : ta σ H fun vs H1 => ∃ j : Int, vs = [.int j] ∧ -(2 ^ 62) ≤ j ∧ j < 2 ^ 62 ∧ R (Itr 0 j.toNat) H1) : iRng1 ta σ H R := q
theorem r_rng1R {P : Int → Prop} {j : Int} (h1 : -(2 ^ 62) ≤ j) (h2 : j < 2 ^ 62) (q : P j) : ∃ i : Int, [V.int j] = [.int i] ∧ -(2 ^ 62) ≤ i ∧ i < 2 ^ 62 ∧ P i := ⟨j, rfl, h1, h2, q⟩
theorem r_rng2 {ta : TA} {σ : L2.St} {H : Hp} {R : It → Hp → Prop} (q : ta σ H fun vs H1 => ∃ i j : Int, vs = [.int i, .int j] ∧ (-(2 ^ 62) ≤ i ∧ i < 2 ^ 62 ∧ -(2 ^ 62) ≤ j ∧ j < 2 ^ 62) ∧ R (Itr i (j - i).toNat) H1) : iRng2 ta σ H R := q
theorem r_rng2R {P : Int → Int → Prop} {i j : Int} (h : -(2 ^ 62) ≤ i ∧ i < 2 ^ 62 ∧ -(2 ^ 62) ≤ j ∧ j < 2 ^ 62) (q : P i j) : ∃ a b : Int, [V.int i, V.int j] = [.int a, .int b] ∧ (-(2 ^ 62) ≤ a ∧ a < 2 ^ 62 ∧ -(2 ^ 62) ≤ b ∧ b < 2 ^ 62) ∧ P a b := ⟨i, j, rfl, h, q⟩
theorem r_iEnum {K : PySem.W.Frag} {ta : TA} {σ : L2.St} {H : Hp} {R : It → Hp → Prop} (q : ta σ H fun vs H1 => ∃ a xs, vs = [.ref a] ∧ SqL K H1 a xs ∧ R (Ite K a) H1) : iEnum K ta σ H R := q
theorem r_iEnumR {K : PySem.W.Frag} {H : Hp} {R : Addr → Prop} {a : Addr} {xs : List V} (h : SqL K H a xs) (q : R a) : ∃ b xs, [V.ref a] = [.ref b] ∧ SqL K H b xs ∧ R b := ⟨a, xs, rfl, h, q⟩
def rInSign : R2 := fun x y H Q => ∃ (c : Nat) (z : Str), x = .str ⟨#[c]⟩ ∧ y = .str z ∧ Q (.bl (decide (c ∈ z.cps.toList))) H
theorem q_inSign {X : Cx} : OpR X (compareOp .In) rInSign := op_in_sign
theorem r_inSign {c : Nat} {z : Str} {H : Hp} {Qv : VK} (q : Qv (.bl (decide (c ∈ z.cps.toList))) H) : rInSign (.str ⟨#[c]⟩) (.str z) H Qv := ⟨c, z, rfl, rfl, q⟩
theorem r_all {K : PySem.W.Frag} {H : Hp} {a : Addr} {bs : List Bool} {Qv : VK} (h : SqL K H a (bs.map V.bl)) (q : Qv (.bl (bs.all id)) H) : rAll K [.ref a] H Qv := ⟨a, bs, rfl, h, q⟩
/-- a name of the module -/
def Gc (mg : Str → Option Value) (x : Str) (v : V) : Prop := ∃ u, mg x = some u ∧ RelV v u
theorem pe_gc {X : Cx} {x : Str} {v : V} {pos : Pos} (h : Gc X.mg x v) (hg : Gl X x := by rfl) (hd : (x == ("__debug__" : Str)) = false := by decide) : PE X (.Name x pos) (tC v) := by
  obtain ⟨u, h1, h2⟩ := h
  exact pe_glob hg h1 h2 hd
/-- the built-ins that the texts ask for -/
structure Bi (mg : Str → Option Value) : Prop where
  int : mg "int" = none
  len : mg "len" = none
  abs : mg "abs" = none
  list : mg "list" = none
  range : mg "range" = none
  repr : mg "repr" = none
  str : mg "str" = none
  isinstance : mg "isinstance" = none
  all : mg "all" = none
  any : mg "any" = none
  bool : mg "bool" = none
  tuple : mg "tuple" = none
  sorted : mg "sorted" = none
  set : mg "set" = none
  dict : mg "dict" = none
  enumerate : mg "enumerate" = none
  zip : mg "zip" = none
  min : mg "min" = none
  max : mg "max" = none
/-! ### kinds of values -/
def isI : V → Bool
  | .int _ => true
  | _ => false
def isB : V → Bool
  | .bl _ => true
  | _ => false
def isS : V → Bool
  | .str _ => true
  | _ => false
/-- what isinstance says of a value, int, bool and str asked -/
structure Kd (K : PySem.W.Frag) (G : Hp) (x : V) (t : Value) : Prop where
  ty : TyX K G x t
  int : PySem.W.kitOne K t (.type "int") = some (isI x || isB x)
  bool : PySem.W.kitOne K t (.type "bool") = some (isB x)
  str : PySem.W.kitOne K t (.type "str") = some (isS x)
section
variable {K : PySem.W.Frag} {G G' : Hp}
theorem Kd.same {x : V} {t : Value} (h : Kd K G x t) (s : Same G G') : Kd K G' x t := ⟨same_ty s h.ty, h.int, h.bool, h.str⟩
theorem kd_int (i : Int) : Kd K G (.int i) (.type "int") := ⟨.base (.int i), kit_ty (show kitB "int" "int" = some true from by decide +kernel), kit_ty (show kitB "int" "bool" = some false from by decide +kernel), kit_ty (show kitB "int" "str" = some false from by decide +kernel)⟩
theorem kd_bl (b : Bool) : Kd K G (.bl b) (.type "bool") := ⟨.base (.bl b), kit_ty (show kitB "bool" "int" = some true from by decide +kernel), kit_ty (show kitB "bool" "bool" = some true from by decide +kernel), kit_ty (show kitB "bool" "str" = some false from by decide +kernel)⟩
theorem kd_str (z : Str) : Kd K G (.str z) (.type "str") := ⟨.base (.str z), kit_ty (show kitB "str" "int" = some false from by decide +kernel), kit_ty (show kitB "str" "bool" = some false from by decide +kernel), kit_ty (show kitB "str" "str" = some true from by decide +kernel)⟩
theorem kd_non : Kd K G .non (.type "NoneType") := ⟨.base .non, kit_ty (show kitB "NoneType" "int" = some false from by decide +kernel), kit_ty (show kitB "NoneType" "bool" = some false from by decide +kernel), kit_ty (show kitB "NoneType" "str" = some false from by decide +kernel)⟩
theorem kd_ref {a : Addr} {n : String} (h : TyX K G (.ref a) (.type n)) (h1 : kitB n "int" = some false) (h2 : kitB n "bool" = some false) (h3 : kitB n "str" = some false) : Kd K G (.ref a) (.type n) := ⟨h, kit_ty h1, kit_ty h2, kit_ty h3⟩
theorem kd_lst {a : Addr} {xs : List V} (h : G a = some (.lst xs)) : Kd K G (.ref a) (.type "list") := kd_ref (.base (.lst h)) (by decide +kernel) (by decide +kernel) (by decide +kernel)
theorem kd_tup {a : Addr} {xs : List V} (h : G a = some (.tup xs)) : Kd K G (.ref a) (.type "tuple") := kd_ref (.base (.tup h)) (by decide +kernel) (by decide +kernel) (by decide +kernel)
theorem kd_dK {a : Addr} {xs : List (Key × V)} (h : G a = some (.dK xs)) : Kd K G (.ref a) (.type "dict") := kd_ref (.base (.dK h)) (by decide +kernel) (by decide +kernel) (by decide +kernel)
end
theorem r_isi_int_int {K : PySem.W.Frag} {H : Hp} {Qv : VK} {i : Int} (q : Qv (.bl true) H) : rIsi K [(.int i), .ty "int"] H Qv := ⟨(.int i), .ty "int", .type "int", .type "int", true, rfl, .ty "int", .base (.int i), kit_ty (by decide +kernel), q⟩
theorem r_isi_int_bool {K : PySem.W.Frag} {H : Hp} {Qv : VK} {i : Int} (q : Qv (.bl false) H) : rIsi K [(.int i), .ty "bool"] H Qv := ⟨(.int i), .ty "bool", .type "int", .type "bool", false, rfl, .ty "bool", .base (.int i), kit_ty (by decide +kernel), q⟩
theorem r_isi_int_str {K : PySem.W.Frag} {H : Hp} {Qv : VK} {i : Int} (q : Qv (.bl false) H) : rIsi K [(.int i), .ty "str"] H Qv := ⟨(.int i), .ty "str", .type "int", .type "str", false, rfl, .ty "str", .base (.int i), kit_ty (by decide +kernel), q⟩
theorem r_isi_int_list {K : PySem.W.Frag} {H : Hp} {Qv : VK} {i : Int} (q : Qv (.bl false) H) : rIsi K [(.int i), .ty "list"] H Qv := ⟨(.int i), .ty "list", .type "int", .type "list", false, rfl, .ty "list", .base (.int i), kit_ty (by decide +kernel), q⟩
theorem r_isi_int_tuple {K : PySem.W.Frag} {H : Hp} {Qv : VK} {i : Int} (q : Qv (.bl false) H) : rIsi K [(.int i), .ty "tuple"] H Qv := ⟨(.int i), .ty "tuple", .type "int", .type "tuple", false, rfl, .ty "tuple", .base (.int i), kit_ty (by decide +kernel), q⟩
theorem r_isi_int_dict {K : PySem.W.Frag} {H : Hp} {Qv : VK} {i : Int} (q : Qv (.bl false) H) : rIsi K [(.int i), .ty "dict"] H Qv := ⟨(.int i), .ty "dict", .type "int", .type "dict", false, rfl, .ty "dict", .base (.int i), kit_ty (by decide +kernel), q⟩
theorem r_isi_bl_int {K : PySem.W.Frag} {H : Hp} {Qv : VK} {b : Bool} (q : Qv (.bl true) H) : rIsi K [(.bl b), .ty "int"] H Qv := ⟨(.bl b), .ty "int", .type "bool", .type "int", true, rfl, .ty "int", .base (.bl b), kit_ty (by decide +kernel), q⟩
theorem r_isi_bl_bool {K : PySem.W.Frag} {H : Hp} {Qv : VK} {b : Bool} (q : Qv (.bl true) H) : rIsi K [(.bl b), .ty "bool"] H Qv := ⟨(.bl b), .ty "bool", .type "bool", .type "bool", true, rfl, .ty "bool", .base (.bl b), kit_ty (by decide +kernel), q⟩
theorem r_isi_bl_str {K : PySem.W.Frag} {H : Hp} {Qv : VK} {b : Bool} (q : Qv (.bl false) H) : rIsi K [(.bl b), .ty "str"] H Qv := ⟨(.bl b), .ty "str", .type "bool", .type "str", false, rfl, .ty "str", .base (.bl b), kit_ty (by decide +kernel), q⟩
theorem r_isi_bl_list {K : PySem.W.Frag} {H : Hp} {Qv : VK} {b : Bool} (q : Qv (.bl false) H) : rIsi K [(.bl b), .ty "list"] H Qv := ⟨(.bl b), .ty "list", .type "bool", .type "list", false, rfl, .ty "list", .base (.bl b), kit_ty (by decide +kernel), q⟩
theorem r_isi_bl_tuple {K : PySem.W.Frag} {H : Hp} {Qv : VK} {b : Bool} (q : Qv (.bl false) H) : rIsi K [(.bl b), .ty "tuple"] H Qv := ⟨(.bl b), .ty "tuple", .type "bool", .type "tuple", false, rfl, .ty "tuple", .base (.bl b), kit_ty (by decide +kernel), q⟩
theorem r_isi_bl_dict {K : PySem.W.Frag} {H : Hp} {Qv : VK} {b : Bool} (q : Qv (.bl false) H) : rIsi K [(.bl b), .ty "dict"] H Qv := ⟨(.bl b), .ty "dict", .type "bool", .type "dict", false, rfl, .ty "dict", .base (.bl b), kit_ty (by decide +kernel), q⟩
theorem r_isi_str_int {K : PySem.W.Frag} {H : Hp} {Qv : VK} {z : Str} (q : Qv (.bl false) H) : rIsi K [(.str z), .ty "int"] H Qv := ⟨(.str z), .ty "int", .type "str", .type "int", false, rfl, .ty "int", .base (.str z), kit_ty (by decide +kernel), q⟩
theorem r_isi_str_bool {K : PySem.W.Frag} {H : Hp} {Qv : VK} {z : Str} (q : Qv (.bl false) H) : rIsi K [(.str z), .ty "bool"] H Qv := ⟨(.str z), .ty "bool", .type "str", .type "bool", false, rfl, .ty "bool", .base (.str z), kit_ty (by decide +kernel), q⟩
theorem r_isi_str_str {K : PySem.W.Frag} {H : Hp} {Qv : VK} {z : Str} (q : Qv (.bl true) H) : rIsi K [(.str z), .ty "str"] H Qv := ⟨(.str z), .ty "str", .type "str", .type "str", true, rfl, .ty "str", .base (.str z), kit_ty (by decide +kernel), q⟩
theorem r_isi_str_list {K : PySem.W.Frag} {H : Hp} {Qv : VK} {z : Str} (q : Qv (.bl false) H) : rIsi K [(.str z), .ty "list"] H Qv := ⟨(.str z), .ty "list", .type "str", .type "list", false, rfl, .ty "list", .base (.str z), kit_ty (by decide +kernel), q⟩
theorem r_isi_str_tuple {K : PySem.W.Frag} {H : Hp} {Qv : VK} {z : Str} (q : Qv (.bl false) H) : rIsi K [(.str z), .ty "tuple"] H Qv := ⟨(.str z), .ty "tuple", .type "str", .type "tuple", false, rfl, .ty "tuple", .base (.str z), kit_ty (by decide +kernel), q⟩
theorem r_isi_str_dict {K : PySem.W.Frag} {H : Hp} {Qv : VK} {z : Str} (q : Qv (.bl false) H) : rIsi K [(.str z), .ty "dict"] H Qv := ⟨(.str z), .ty "dict", .type "str", .type "dict", false, rfl, .ty "dict", .base (.str z), kit_ty (by decide +kernel), q⟩
theorem r_isi_non_int {K : PySem.W.Frag} {H : Hp} {Qv : VK}  (q : Qv (.bl false) H) : rIsi K [.non, .ty "int"] H Qv := ⟨.non, .ty "int", .type "NoneType", .type "int", false, rfl, .ty "int", .base .non, kit_ty (by decide +kernel), q⟩
theorem r_isi_non_bool {K : PySem.W.Frag} {H : Hp} {Qv : VK}  (q : Qv (.bl false) H) : rIsi K [.non, .ty "bool"] H Qv := ⟨.non, .ty "bool", .type "NoneType", .type "bool", false, rfl, .ty "bool", .base .non, kit_ty (by decide +kernel), q⟩
theorem r_isi_non_str {K : PySem.W.Frag} {H : Hp} {Qv : VK}  (q : Qv (.bl false) H) : rIsi K [.non, .ty "str"] H Qv := ⟨.non, .ty "str", .type "NoneType", .type "str", false, rfl, .ty "str", .base .non, kit_ty (by decide +kernel), q⟩
theorem r_isi_non_list {K : PySem.W.Frag} {H : Hp} {Qv : VK}  (q : Qv (.bl false) H) : rIsi K [.non, .ty "list"] H Qv := ⟨.non, .ty "list", .type "NoneType", .type "list", false, rfl, .ty "list", .base .non, kit_ty (by decide +kernel), q⟩
theorem r_isi_non_tuple {K : PySem.W.Frag} {H : Hp} {Qv : VK}  (q : Qv (.bl false) H) : rIsi K [.non, .ty "tuple"] H Qv := ⟨.non, .ty "tuple", .type "NoneType", .type "tuple", false, rfl, .ty "tuple", .base .non, kit_ty (by decide +kernel), q⟩
theorem r_isi_non_dict {K : PySem.W.Frag} {H : Hp} {Qv : VK}  (q : Qv (.bl false) H) : rIsi K [.non, .ty "dict"] H Qv := ⟨.non, .ty "dict", .type "NoneType", .type "dict", false, rfl, .ty "dict", .base .non, kit_ty (by decide +kernel), q⟩
theorem kt_list_int {K : PySem.W.Frag} : PySem.W.kitOne K (.type "list") (.type "int") = some false := kit_ty (by decide +kernel)
theorem kt_list_bool {K : PySem.W.Frag} : PySem.W.kitOne K (.type "list") (.type "bool") = some false := kit_ty (by decide +kernel)
theorem kt_list_str {K : PySem.W.Frag} : PySem.W.kitOne K (.type "list") (.type "str") = some false := kit_ty (by decide +kernel)
theorem kt_list_list {K : PySem.W.Frag} : PySem.W.kitOne K (.type "list") (.type "list") = some true := kit_ty (by decide +kernel)
theorem kt_list_tuple {K : PySem.W.Frag} : PySem.W.kitOne K (.type "list") (.type "tuple") = some false := kit_ty (by decide +kernel)
theorem kt_list_dict {K : PySem.W.Frag} : PySem.W.kitOne K (.type "list") (.type "dict") = some false := kit_ty (by decide +kernel)
theorem kt_tuple_int {K : PySem.W.Frag} : PySem.W.kitOne K (.type "tuple") (.type "int") = some false := kit_ty (by decide +kernel)
theorem kt_tuple_bool {K : PySem.W.Frag} : PySem.W.kitOne K (.type "tuple") (.type "bool") = some false := kit_ty (by decide +kernel)
theorem kt_tuple_str {K : PySem.W.Frag} : PySem.W.kitOne K (.type "tuple") (.type "str") = some false := kit_ty (by decide +kernel)
theorem kt_tuple_list {K : PySem.W.Frag} : PySem.W.kitOne K (.type "tuple") (.type "list") = some false := kit_ty (by decide +kernel)
theorem kt_tuple_tuple {K : PySem.W.Frag} : PySem.W.kitOne K (.type "tuple") (.type "tuple") = some true := kit_ty (by decide +kernel)
theorem kt_tuple_dict {K : PySem.W.Frag} : PySem.W.kitOne K (.type "tuple") (.type "dict") = some false := kit_ty (by decide +kernel)
theorem kt_dict_int {K : PySem.W.Frag} : PySem.W.kitOne K (.type "dict") (.type "int") = some false := kit_ty (by decide +kernel)
theorem kt_dict_bool {K : PySem.W.Frag} : PySem.W.kitOne K (.type "dict") (.type "bool") = some false := kit_ty (by decide +kernel)
theorem kt_dict_str {K : PySem.W.Frag} : PySem.W.kitOne K (.type "dict") (.type "str") = some false := kit_ty (by decide +kernel)
theorem kt_dict_list {K : PySem.W.Frag} : PySem.W.kitOne K (.type "dict") (.type "list") = some false := kit_ty (by decide +kernel)
theorem kt_dict_tuple {K : PySem.W.Frag} : PySem.W.kitOne K (.type "dict") (.type "tuple") = some false := kit_ty (by decide +kernel)
theorem kt_dict_dict {K : PySem.W.Frag} : PySem.W.kitOne K (.type "dict") (.type "dict") = some true := kit_ty (by decide +kernel)
theorem sz_m {n : Nat} (h : n ≤ 1000000) : n ≤ sizeLine := Nat.le_trans h (by decide)
theorem ite_nt {A B : Prop} (a : A) : if (!false) = true then A else B := by
  rw [if_pos (by decide)]
  exact a
theorem ite_nf {A B : Prop} (b : B) : if (!true) = true then A else B := by
  rw [if_neg (by decide)]
  exact b
theorem ite_d {p : Prop} [Decidable p] {A B : Prop} (h1 : p → A) (h2 : ¬ p → B) : if decide p = true then A else B := ite2 (fun h => h1 (of_decide_eq_true h)) fun h => h2 fun q => h (decide_eq_true q)
theorem ite_nd {p : Prop} [Decidable p] {A B : Prop} (h1 : ¬ p → A) (h2 : p → B) : if (!decide p) = true then A else B := by
  by_cases h : p
  · rw [decide_eq_true h]; exact ite_nf (h2 h)
  · rw [decide_eq_false h]; exact ite_nt (h1 h)
theorem ite_b {b : Bool} {A B : Prop} (h1 : b = true → A) (h2 : b = false → B) : if b = true then A else B := ite2 h1 fun h => h2 (Bool.eq_false_iff.mpr h)
theorem ite_nb {b : Bool} {A B : Prop} (h1 : b = false → A) (h2 : b = true → B) : if (!b) = true then A else B := by
  cases b with
  | true => exact ite_nf (h2 rfl)
  | false => exact ite_nt (h1 rfl)
theorem atI_0 {α : Type} (c : α) (r : List α) : atI (c :: r) 0 = some c := atI_nat (j := 0) rfl
theorem take_snoc {α : Type} {l : List α} {i : Nat} {x : α} (h : l[i]? = some x) : l.take (i + 1) = l.take i ++ [x] := by
  rw [List.take_add_one, h]
  rfl
theorem take_map_snoc {α β : Type} {l : List α} {i : Nat} {x : α} (f : α → β) (h : l[i]? = some x) : (l.take (i + 1)).map f = (l.take i).map f ++ [f x] := by
  rw [take_snoc h, List.map_append]
  rfl
end Q
namespace Q
open PySem PySem.Spec PyProof.Rows L2
/-! ### names and moments: what the program's own looks answer -/
abbrev zLetters : Str := "abcdefghijklmnopqrstuvwxyz"
abbrev zFigures : Str := "0123456789"
def resS : List Str := ["begun", "setby", "found", "trusted", "passed", "failed", "agreed", "differed", "served", "backed", "sound", "unsound", "sure", "never", "open", "none", "record", "lot", "menu", "wanted"]
def resV : List V := resS.map V.str
def letB (c : Nat) : Bool := decide (c ∈ zLetters.cps.toList)
def figB (c : Nat) : Bool := decide (c ∈ zFigures.cps.toList)
def headB : List Nat → Bool
  | c :: _ => letB c
  | [] => false
def nmOk (z : Str) : Bool := (decide (1 ≤ z.length) && decide (z.length ≤ 8)) && (!inV (.str z) resV && (headB z.cps.toList && z.cps.toList.all fun c => letB c || figB c))
def nameV : V → Bool
  | .str z => nmOk z
  | _ => false
def momV (x : V) (l : Int) : Bool := match x with
  | .int i => decide (l ≤ i) && decide (i ≤ 1000000000000000000000000000000)
  | _ => false
structure Nm (K : PySem.W.Frag) (mg : Str → Option Value) : Prop where
  RESERVED : ∃ a, Gc mg "RESERVED" (.ref a) ∧ ∀ H, SqT K H a resV
  LETTERS : Gc mg "LETTERS" (.str zLetters)
  FIGURES : Gc mg "FIGURES" (.str zFigures)
  MOST_SIGNS : Gc mg "MOST_SIGNS" (.int 8)
  MOST_MOMENT : Gc mg "MOST_MOMENT" (.int 1000000000000000000000000000000)
def spIsInt (K : PySem.W.Frag) : Sp := fun vs H Q _ => ∃ (G : Hp) (x : V) (t : Value), vs = [x] ∧ Same G H ∧ Kd K G x t ∧ Ret G H (fun v _ => v = .bl (isI x)) Q
def spMoment (K : PySem.W.Frag) : Sp := fun vs H Q _ => ∃ (G : Hp) (x : V) (t : Value) (l : Int), vs = [x, .int l] ∧ Same G H ∧ Kd K G x t ∧ Ret G H (fun v _ => v = .bl (momV x l)) Q
def spIsName (K : PySem.W.Frag) : Sp := fun vs H Q _ => ∃ (G : Hp) (x : V) (t : Value), vs = [x] ∧ Same G H ∧ Kd K G x t ∧ (∀ z, x = .str z → z.length ≤ 1000000) ∧ Ret G H (fun v _ => v = .bl (nameV x)) Q
section
variable {K : PySem.W.Frag} {e : En} {G H : Hp} {M : List Addr} {x : V} {t : Value} {Q : VK} {E : XK}
theorem u_isInt (w : Wd e G H M) (h : Kd K G x t) (k : ∀ G' H', Wd e G' H' M → Same G G' → Same H H' → Q (.bl (isI x)) H') : spIsInt K [x] H Q E :=
  ⟨G, x, t, rfl, w.le, h, ret_use w fun v G' H' w' s1 s2 p => by subst p; exact k G' H' w' s1 s2⟩
theorem u_moment {l : Int} (w : Wd e G H M) (h : Kd K G x t) (k : ∀ G' H', Wd e G' H' M → Same G G' → Same H H' → Q (.bl (momV x l)) H') : spMoment K [x, .int l] H Q E :=
  ⟨G, x, t, l, rfl, w.le, h, ret_use w fun v G' H' w' s1 s2 p => by subst p; exact k G' H' w' s1 s2⟩
theorem u_isName (w : Wd e G H M) (h : Kd K G x t) (hz : ∀ z, x = .str z → z.length ≤ 1000000) (k : ∀ G' H', Wd e G' H' M → Same G G' → Same H H' → Q (.bl (nameV x)) H') : spIsName K [x] H Q E :=
  ⟨G, x, t, rfl, w.le, h, hz, ret_use w fun v G' H' w' s1 s2 p => by subst p; exact k G' H' w' s1 s2⟩
end
end Q
namespace Q
open PySem PySem.Spec PyProof.Rows L2
/-! ### an instance's own ==, !=, str -/
section
variable {X : Cx} {CX : CXT} {k : Nat} {C f : Addr} {fd : FuncData} {ps : List Str} {sp : Sp} {E : XK}
theorem run_under {pins : List (Addr × Obj)} {σ : L2.St} {H : Hp} {s : Shared} {Q : VK} {us : List Value} {vs : List V} {A' : Around} (F : FnOk X.prog X.w X.K X.mg X.base CX k f fd ps sp) (hr : Room k A')
    (e0 : Env0 X.prog X.w X.K X.mg X.base A' X.stack s H) (hb : Binds X.K fd ps []) (hx : Passes CX X E) (I : Inv X pins σ H s) (r : Vals vs us) (h : sp vs H Q E) :
    wpAny (model X.prog X.w) A' (call (.ref f) us) (EP X pins σ Q) X.xe s := by
  have hl : (us ++ []).length = ps.length := by
    rw [List.append_nil, ← r.length]
    exact F.len _ _ _ _ h
  have hbb := hb s us I.kIn hl
  rw [List.append_nil] at hbb
  refine wpAny_call (codeAny_mono (F.run A' X.stack s H ⟨us, []⟩ us vs Q E hr e0 hbb r h) fun o s' hq => ?_)
  match o, hq with
  | .error e, hq => exact hx pins σ H s e s' I hq
  | .ok (.ret u), hq => exact I.after hq
  | .ok .next, hq => exact hq.elim
  | .ok .brk, hq => exact hq.elim
  | .ok .cont, hq => exact hq.elim
/-- x == y by the def of x's class -/
def rEqI (K : PySem.W.Frag) (C : Addr) (sp : Sp) (E : XK) : R2 := fun x y H Q => ∃ a dx fs t, x = .ref a ∧ H a = some (.ins C dx fs) ∧ TyX K H y t ∧ PySem.W.notFirst K C t = true ∧ sp [x, y] H Q E
theorem q_eqI (hs : PySem.W.findIn X.K (.ref C) "__eq__" = some (some (.ref f))) (hf : PySem.W.isFn X.K (.ref f) = true) (F : FnOk X.prog X.w X.K X.mg X.base CX k f fd ps sp) (hr : Room k X.A) (hb : Binds X.K fd ps []) (hx : Passes CX X E) :
    OpR X (compareOp .Eq) (rEqI X.K C sp E) := by
  intro pins s σ H x y v u Q I rx ry h
  obtain ⟨a, dx, fs, t, rfl, ea, ty, hn, q⟩ := h
  cases (show v = Value.ref a from rx)
  obtain ⟨mA, O, _, _, _, _⟩ := ins_get I.hok ea
  obtain ⟨od, J, _⟩ := O.look
  obtain ⟨P, Z, p, _⟩ := kit_of I ry ty
  obtain ⟨m, hF⟩ := I.fr
  have key : wpAny (model X.prog X.w) X.A (richCompare .Eq (.ref a) u) (EP X pins σ Q) X.xe s := by
    refine PySem.W.cmp_K (op := .Eq) (tb := t) hr.units0 hF I.ok.mod.kin J (Z.ty _ _ I.kIn p) hn hs hf ?_
    refine wpAny_mono (run_under (us := [.ref a, u]) (vs := [.ref a, y]) F hr I.env0 hb hx I (.cons rfl (.cons ry .nil)) q) (fun w s' z => ?_) fun _ _ x => x
    obtain ⟨z', H', I', rz, qz⟩ := z
    exact SlX.cmpback rz ⟨z', H', I', rz, qz⟩
  exact key
theorem r_eqI {K : PySem.W.Frag} {H : Hp} {a : Addr} {dx : Addr} {fs : List (Str × V)} {y : V} {t : Value} {Qv : VK} (h : H a = some (.ins C dx fs)) (ty : TyX K H y t) (n : PySem.W.notFirst K C t = true) (q : sp [.ref a, y] H Qv E) :
    rEqI K C sp E (.ref a) y H Qv := ⟨a, dx, fs, t, rfl, h, ty, n, q⟩
theorem ifBound_b {K : PySem.W.Frag} {M : Model} {A : Around} {E : Value → Shared → Prop} {s : Shared} {x C : Addr} {ox : Obj} {od : Option Obj} {name : Str} {id : String} {args : List Value} {Q : Option Value → Shared → Prop} (X : K.In s.heap)
    (I : PySem.W.InstAt s.heap x ox C od) (hs : PySem.W.findIn K (.ref C) name = some (some (.builtin id))) (hb : ∀ self, bindSpecial (.builtin id) self = pure (.builtin id, [self]))
    (h : wpAny M A (call (.builtin id) (.ref x :: args)) (fun v => Q (some v)) E s) : wpAny M A (callSpecialIfBound? (.ref x) name args) Q E s := by
  simp only [callSpecialIfBound?, bindSpecialIfBound?]
  refine wpAny_holding (wpAny_bind (wpAny_bind (wpAny_bind (I.type.here ((PySem.W.looks_findIn X hs).here ?_)))))
  refine wpAny_bind (wpAny_askSetting (wpAny_ite ?_))
  have fin : wpAny M A (call (.builtin id) ([.ref x] ++ args) >>= fun v => pure (some v)) Q E s := wpAny_bind (wpAny_mono h (fun v s' h' => wpAny_pure h') fun _ _ h' => h')
  split
  · exact wpAny_bind ((PySem.W.Looks.of_pure (hb _)).here (wpAny_pure (by exact fin)))
  · exact wpAny_tryCatch (wpAny_bind ((PySem.W.Looks.of_pure (hb _)).here (wpAny_pure (by exact fin))))
theorem cmp_b {K : PySem.W.Frag} {prog : Program} {w : World} {A : Around} {E : Value → Shared → Prop} {s : Shared} {x C : Addr} {b tb : Value} {ox : Obj} {od : Option Obj} {op : CmpOp} {id : String} {Q : Value → Shared → Prop}
    (hu : A.units < cLine) (X : K.In s.heap) (I : PySem.W.InstAt s.heap x ox C od) (hb : PySem.W.Looks (model prog w) s.heap (typeOf b) tb) (hn : PySem.W.notFirst K C tb = true)
    (hs : PySem.W.findIn K (.ref C) (cmpInfo op).2.1 = some (some (.builtin id))) (hbd : ∀ self, bindSpecial (.builtin id) self = pure (.builtin id, [self]))
    (h : wpAny (model prog w) A (call (.builtin id) [.ref x, b]) (PySem.W.CmpBack Q) E s) : wpAny (model prog w) A (richCompare op (.ref x) b) Q E s := by
  have one : wpAny (model prog w) A (tryCompare (.ref x) (cmpInfo op).2.1 b) (fun r s' => ∃ v, r = some v ∧ Q v s') E s := by
    unfold tryCompare
    refine wpAny_bind (ifBound_b X I hs hbd (wpAny_mono h (fun v s' hv => ?_) fun _ _ e => e))
    cases v <;> first | exact hv.elim | exact wpAny_pure ⟨_, rfl, hv⟩
  unfold richCompare
  simp only [oneThing_ref]
  refine wpAny_holding (wpAny_bind (wpAny_cRoomFor hu ?_))
  refine wpAny_bind (I.type.here (wpAny_bind (hb.here ?_)))
  split
  · rename_i q
    have e : PySem.W.subIn K tb (.ref C) = some false := by
      rcases Bool.or_eq_true_iff.mp hn with e | e
      · rw [beq_iff_eq.mp e] at q; simp at q
      · exact beq_iff_eq.mp e
    refine wpAny_bind ((PySem.W.looks_subIn X e).here ?_)
    simp only [Bool.false_eq_true, if_false]
    refine wpAny_bind (wpAny_mono one (fun r s' z => ?_) fun _ _ e => e)
    obtain ⟨v, rfl, hq⟩ := z
    exact wpAny_pure hq
  · refine wpAny_bind (wpAny_pure ?_)
    simp only [Bool.false_eq_true, if_false]
    refine wpAny_bind (wpAny_mono one (fun r s' z => ?_) fun _ _ e => e)
    obtain ⟨v, rfl, hq⟩ := z
    exact wpAny_pure hq
/-- x != y where the class has an own == alone -/
def rNeI (K : PySem.W.Frag) (C : Addr) (sp : Sp) (E : XK) : R2 := fun x y H Q => ∃ a dx fs t, x = .ref a ∧ H a = some (.ins C dx fs) ∧ TyX K H y t ∧ PySem.W.notFirst K C t = true ∧ sp [x, y] H (fun v H' => ∃ b, v = .bl b ∧ Q (.bl (!b)) H') E
theorem q_neI (hne : PySem.W.findIn X.K (.ref C) "__ne__" = some (some (.builtin "object.__ne__"))) (hm : PySem.W.mroIn X.K C (.type "object") = some true) (hs : PySem.W.findIn X.K (.ref C) "__eq__" = some (some (.ref f))) (hf : PySem.W.isFn X.K (.ref f) = true)
    (F : FnOk X.prog X.w X.K X.mg X.base CX k f fd ps sp) (hr : Room (k + 1) X.A) (hb : Binds X.K fd ps []) (hx : Passes CX X E) :
    OpR X (compareOp .NotEq) (rNeI X.K C sp E) := by
  intro pins s σ H x y v u Q I rx ry h
  obtain ⟨a, dx, fs, t, rfl, ea, ty, hn, q⟩ := h
  cases (show v = Value.ref a from rx)
  obtain ⟨mA, O, _, _, _, _⟩ := ins_get I.hok ea
  obtain ⟨od, J, _⟩ := O.look
  obtain ⟨P, Z, p, _⟩ := kit_of I ry ty
  obtain ⟨m, hF⟩ := I.fr
  have hr1 : Room k X.A.in1 := hr.in1
  have key : wpAny (model X.prog X.w) X.A (richCompare .NotEq (.ref a) u) (EP X pins σ Q) X.xe s := by
    refine cmp_b (op := .NotEq) (tb := t) hr.units0 I.kIn J (Z.ty _ _ I.kIn p) hn hne PySem.F.slot_object_ne.bind ?_
    refine wpAny_call (codeAny_call_builtin PySem.F.slot_object_ne.plain PySem.F.cmpEntry_ne (PySem.W.check_slot (i := "object.__ne__") (owner := "object") (n := "__ne__") PySem.F.cmpKind_ne PySem.F.cmpSplit_ne (J.type.andThen (PySem.W.looks_mroIn I.kIn hm)) (PySem.F.cmpArgs_ne _ _) ?_))
    unfold Builtin.«object.__ne__»
    refine wpAny_bind (m := slotArgs "__ne__" 1 _) (wpAny_pure ?_)
    refine wpAny_bind (m := cRoomFor _ _) (wpAny_cRoomFor hr1.units0 ?_)
    refine wpAny_bind (m := callSpecialIfBound? (.ref a) (Str.ofString "__eq__") [u]) (PySem.W.ifBound_K I.kIn J hs hf ?_)
    refine wpAny_mono (run_under (us := [.ref a, u]) (vs := [.ref a, y]) F hr1 I.env0.in1 hb hx I (.cons rfl (.cons ry .nil)) q) (fun w s' z => ?_) fun _ _ x => x
    obtain ⟨z', H', I', rz, b, e, qz⟩ := z
    subst e
    cases (show w = Value.bool b from rz)
    refine wpAny_bind (m := truthy (.bool b)) (wpAny_truthy_bool ?_)
    exact wpAny_pure ⟨.bl (!b), H', I', rfl, qz⟩
  exact key
theorem r_neI {K : PySem.W.Frag} {H : Hp} {a : Addr} {dx : Addr} {fs : List (Str × V)} {y : V} {t : Value} {Qv : VK} (h : H a = some (.ins C dx fs)) (ty : TyX K H y t) (n : PySem.W.notFirst K C t = true) (q : sp [.ref a, y] H (fun v H' => ∃ b, v = .bl b ∧ Qv (.bl (!b)) H') E) :
    rNeI K C sp E (.ref a) y H Qv := ⟨a, dx, fs, t, rfl, h, ty, n, q⟩
/-- str(x) by the class's own def -/
def rStrI (C : Addr) (sp : Sp) (E : XK) : List V → Hp → VK → Prop := fun xs H Q => ∃ a dx fs, xs = [.ref a] ∧ H a = some (.ins C dx fs) ∧ sp [.ref a] H (fun v H' => ∃ z, v = .str z ∧ Q v H') E
theorem q_strI (hs : PySem.W.findIn X.K (.ref C) "__str__" = some (some (.ref f))) (hf : PySem.W.isFn X.K (.ref f) = true) (F : FnOk X.prog X.w X.K X.mg X.base CX k f fd ps sp) (hr : Room (k + 2) X.A) (hb : Binds X.K fd ps []) (hx : Passes CX X E) :
    CallR X (.type "str") (rStrI C sp E) := by
  intro pins s σ H xs us Q I r h
  obtain ⟨a, dx, fs, rfl, ea, q⟩ := h
  obtain ⟨u, rfl, ru⟩ := r.one
  cases (show u = Value.ref a from ru)
  obtain ⟨mA, O, _, _, _, _⟩ := ins_get I.hok ea
  obtain ⟨od, J, _⟩ := O.look
  have hr2 : Room k X.A.in1.in1 := (show Room (k + 1) X.A.in1 from Room.in1 hr).in1
  refine PySem.W.kso_call hr2.units0 I.kIn J hs hf ?_
  refine wpAny_mono (run_under (us := [.ref a]) (vs := [.ref a]) F hr2 I.env0.in1.in1 hb hx I (.cons rfl .nil) q) (fun w s' z => ?_) fun _ _ x => x
  obtain ⟨z', H', I', rz, y, e, qz⟩ := z
  subst e
  obtain ⟨t, e⟩ := (show ∃ t, w = Value.str y t from rz)
  subst e
  exact ⟨.str y, H', I', ⟨t, rfl⟩, qz⟩
theorem r_strI {H : Hp} {a : Addr} {dx : Addr} {fs : List (Str × V)} {Qv : VK} (h : H a = some (.ins C dx fs)) (q : sp [.ref a] H (fun v H' => ∃ z, v = .str z ∧ Qv v H') E) : rStrI C sp E [.ref a] H Qv := ⟨a, dx, fs, rfl, h, q⟩
/-- < of data that can be compared -/
def rLtD (K : PySem.W.Frag) : R2 := fun x y H Q => ∃ d e, Dp K H x d ∧ Dp K H y e ∧ PySem.W.alike d e = true ∧ d ≠ .none ∧ d.depth ≤ 60 ∧ Q (.bl (PySem.W.dataLt d e)) H
theorem q_ltD (hu : X.A.units + 64 < cLine) : OpR X (compareOp .Lt) (rLtD X.K) := by
  intro pins s σ H x y v u Q I rx ry h
  obtain ⟨d, e, hd, he, ha, hn, dp, q⟩ := h
  obtain ⟨as, h1⟩ := Dp.reads I d x v hd rx
  obtain ⟨bs, h2⟩ := Dp.reads I e y u he ry
  exact PySem.W.lt_data h1 h2 ha hn (by omega) ⟨.bl _, H, I, rfl, q⟩
theorem r_ltD {K : PySem.W.Frag} {H : Hp} {x y : V} {Qv : VK} {d e : PyData} (h1 : Dp K H x d) (h2 : Dp K H y e) (ha : PySem.W.alike d e = true) (hn : d ≠ .none) (dp : d.depth ≤ 60) (q : Qv (.bl (PySem.W.dataLt d e)) H) : rLtD K x y H Qv :=
  ⟨d, e, h1, h2, ha, hn, dp, q⟩
end
/-! ### a method called with keywords -/
/-- o.m(k = v, ..): m keywords -/
def tMethK (C : Addr) (m : Str) (n : Nat) (sp : Sp) (E : XK) (ta : TE) (tk : TA) (gV : List V → List V → List V) : TE := fun σ H Q => ta σ H fun x H1 => ∃ a dx fs, x = .ref a ∧ H1 a = some (.ins C dx fs) ∧ fs.lookup m = none ∧
  tk σ H1 fun zs H2 => zs.length = n ∧ sp (gV [x] zs) H2 Q E
section
variable {X : Cx} {CX : CXT} {k : Nat} {C f : Addr} {fd : FuncData} {ps ks : List Str} {sp : Sp} {E : XK} {o : Expr} {m : Str} {pos apos : Pos} {kws : List Keyword} {ta : TE} {tk : TA} {g : List Value → List Value → List Value} {gV : List V → List V → List V} {pl : Sem Bool}
theorem pe_methK (he : PE X o ta) (c : Cls X.K C) (hm : Meth X.K C m f) (F : FnOk X.prog X.w X.K X.mg X.base CX k f fd ps sp) (hr : Room k X.A) (hb : KBn X.K fd ps 1 ks g gV) (hx : Passes CX X E) (hkw : PK X kws tk)
    (hall : (backToKw pos (keywordEach kws X.env)).all (·.1.isSome) = true := by rfl) (hks : (backToKw pos (keywordEach kws X.env)).filterMap (·.1) = ks := by rfl)
    (hpl : ((backTo pos (starEach [] X.env)).any (·.1) || (backToKw pos (keywordEach kws X.env)).any (·.1.isNone)) = false := by rfl)
    (ht : eval (.Call (.Attribute o m apos) [] kws pos) X.env = (do
      let ov ← eval o X.env
      standAt apos.atName
      let (f, first) ← holding [ov] (getMethod ov m pl)
      callWith pos f first (backTo pos (starEach [] X.env)) (backToKw pos (keywordEach kws X.env))) := by rfl) :
    PE X (.Call (.Attribute o m apos) [] kws pos) (tMethK C m ks.length sp E ta tk gV) := by
  refine ⟨fun pins s σ H Q I h => ?_⟩
  refine PySem.W.methodCall_KW (pl := pl) (thn (he.run pins s σ H _ I h) fun u s1 ⟨x, H1, I1, rx, a, dx, fs, ex, ea, l, q⟩ => ?_) ht
  subst ex
  obtain rfl : u = Value.ref a := rx
  refine getmeth_ok I1 ea c hm l ?_
  refine PySem.W.callWith_KW0 (h₀ := X.base) I1.ok.mod.kin hm.kp hall (thn (hkw.run pos pins s1 σ H1 _ I1 q) fun ws s2 ⟨zs, H2, I2, rz, l2, q2⟩ => ⟨I2.kIn, ?_⟩) hpl
  rw [hks]
  have r1 : Vals [V.ref a] [Value.ref a] := .cons rfl .nil
  have r2 := hb.rel r1 rz
  have e2 : ws.length = ks.length := rz.length.symm.trans l2
  refine wpAny_call (codeAny_mono (F.run X.A X.stack s2 H2 ⟨[.ref a], ks.zip ws⟩ (g [.ref a] ws) _ Q E hr I2.env0 (hb.to _ [.ref a] ws I2.kIn rfl e2) r2 q2) fun o s' hq => ?_)
  match o, hq with
  | .error e, hq => exact hx pins σ H2 s2 e s' I2 hq
  | .ok (.ret u), hq => exact I2.after hq
  | .ok .next, hq => exact hq.elim
  | .ok .brk, hq => exact hq.elim
  | .ok .cont, hq => exact hq.elim
end
end Q
namespace Q
open PySem PySem.Spec PyProof.Rows L2
/-! ### fields -/
def FldK (K : PySem.W.Frag) (f : Str) (x : V) (H : Hp) (Q : VK) : Prop := ∃ a C dx fs v, x = .ref a ∧ H a = some (.ins C dx fs) ∧ Cls K C ∧ NoAttr K C f ∧ fs.lookup f = some v ∧ Q v H
def SetK (K : PySem.W.Frag) (f : Str) (y x : V) (H : Hp) (R : Hp → Prop) : Prop := ∃ a C dx fs, x = .ref a ∧ H a = some (.ins C dx fs) ∧ Cls K C ∧ NoAttr K C f ∧ fs.length < 1000 ∧ R (upd H a (.ins C dx (putF f y fs)))
section
variable {K : PySem.W.Frag} {f : Str} {ta tv : TE} {σ : L2.St} {H G : Hp} {Qv : VK} {D : Ends} {a C dx : Addr} {fs : List (Str × V)} {v y : V} {e : En} {M : List Addr}
theorem r_tFld (q : ta σ H fun x H1 => FldK K f x H1 Qv) : tFld K ta f σ H Qv := q
theorem r_fld (h : H a = some (.ins C dx fs)) (c : Cls K C) (n : NoAttr K C f) (l : fs.lookup f = some v) (q : Qv v H) : FldK K f (.ref a) H Qv := ⟨a, C, dx, fs, v, rfl, h, c, n, l, q⟩
theorem r_sFld (q : tv σ H fun y H1 => ta σ H1 fun x H2 => SetK K f y x H2 fun H3 => D.nx σ H3) : sFld K ta tv f D σ H := q
theorem r_setF {R : Hp → Prop} (w : Wd e G H M) (hm : a ∈ M) (h : H a = some (.ins C dx fs)) (c : Cls K C) (n : NoAttr K C f) (l : fs.length < 1000)
    (q : ∀ H', Wd e G H' M → H' a = some (.ins C dx (putF f y fs)) → But a H H' → R H') : SetK K f y (.ref a) H R := ⟨a, C, dx, fs, rfl, h, c, n, l, q _ (wd_mut w hm) upd_same but_upd⟩
/-- a property is read -/
def PropK (C : Addr) (sp : Sp) (dvs : List V) (E : XK) (x : V) (H : Hp) (Q : VK) : Prop := ∃ a dx fs, x = .ref a ∧ H a = some (.ins C dx fs) ∧ sp (.ref a :: dvs) H Q E
theorem r_tProp {sp : Sp} {dvs : List V} {E : XK} (q : ta σ H fun x H1 => PropK C sp dvs E x H1 Qv) : tProp C sp dvs E ta σ H Qv := q
theorem r_prop {sp : Sp} {dvs : List V} {E : XK} (h : H a = some (.ins C dx fs)) (q : sp (.ref a :: dvs) H Qv E) : PropK C sp dvs E (.ref a) H Qv := ⟨a, dx, fs, rfl, h, q⟩
/-- a method is called -/
def MethGo (C : Addr) (m : Str) (x : V) (H : Hp) (R : Addr → Prop) : Prop := ∃ a dx fs, x = .ref a ∧ H a = some (.ins C dx fs) ∧ fs.lookup m = none ∧ R a
theorem r_tMeth {m : Str} {sp : Sp} {dvs : List V} {E : XK} {t : TA} (q : ta σ H fun x H1 => MethGo C m x H1 fun _ => t σ H1 fun vs H2 => sp (x :: (vs ++ dvs)) H2 Qv E) : tMeth C m sp dvs E ta t σ H Qv := by
  have key : ∀ (x : V) (H1 : Hp), MethGo C m x H1 (fun _ => t σ H1 fun vs H2 => sp (x :: (vs ++ dvs)) H2 Qv E) = (∃ a dx fs, x = .ref a ∧ H1 a = some (.ins C dx fs) ∧ fs.lookup m = none ∧ t σ H1 fun vs H2 => sp (x :: (vs ++ dvs)) H2 Qv E) := fun _ _ => rfl
  simp only [key] at q
  exact q
theorem r_meth {m : Str} {R : Addr → Prop} (h : H a = some (.ins C dx fs)) (l : fs.lookup m = none) (q : R a) : MethGo C m (.ref a) H R := ⟨a, dx, fs, rfl, h, l, q⟩
def MethGoK (C : Addr) (m : Str) (x : V) (H : Hp) (R : Prop) : Prop := ∃ a dx fs, x = .ref a ∧ H a = some (.ins C dx fs) ∧ fs.lookup m = none ∧ R
theorem r_tMethK {m : Str} {sp : Sp} {n : Nat} {E : XK} {tk : TA} {gV : List V → List V → List V} (q : ta σ H fun x H1 => MethGoK C m x H1 (tk σ H1 fun zs H2 => zs.length = n ∧ sp (gV [x] zs) H2 Qv E)) : tMethK C m n sp E ta tk gV σ H Qv := q
theorem r_methK {m : Str} {R : Prop} (h : H a = some (.ins C dx fs)) (l : fs.lookup m = none) (q : R) : MethGoK C m (.ref a) H R := ⟨a, dx, fs, rfl, h, l, q⟩
/-- an instance is made -/
def MakeGo (C : Addr) (sp : Sp) (vs : List V) (E : XK) (H : Hp) (Q : VK) : Prop := ∀ x dx, H x = none → H dx = none → dx ≠ x → sp (.ref x :: vs) (upd (upd H dx (.own x)) x (.ins C dx [])) (fun v H2 => v = .non ∧ Q (.ref x) H2) E
theorem r_tMake {sp : Sp} {dvs : List V} {E : XK} {t : TA} (q : t σ H fun vs H1 => MakeGo C sp (vs ++ dvs) E H1 Qv) : tMake C sp dvs E t σ H Qv := q
theorem make_go {sp : Sp} {vs : List V} {E : XK} (w : Wd e G H M)
    (k : ∀ x dx G' H', H x = none → (∀ m ∈ M, x ≠ m) → Same G G' → Same H H' → Wd e G' H' (x :: M) → H' x = some (.ins C dx []) → e.H0 x = none → sp (.ref x :: vs) H' (fun v H2 => v = .non ∧ Qv (.ref x) H2) E) : MakeGo C sp vs E H Qv := by
  intro x dx hx hd ne
  have w1 := wd_lay (o := .own x) w hd
  have hx1 : upd H dx (.own x) x = none := by rw [upd_ne ne.symm]; exact hx
  exact k x dx _ _ hx (fun m hm => w.nm hx hm) (same_upd (w.g hd)) ((same_upd hd).trans (same_upd hx1)) (wd_layM w1 hx1) upd_same (w.n0 hx)
end
theorem dp_map {K : PySem.W.Frag} {H : Hp} {α : Type} (f : α → V) (g : α → PyData) (h : ∀ x, Dp K H (f x) (g x)) : ∀ l : List α, DpAll K H (l.map f) (l.map g)
  | [] => .nil
  | x :: r => .cons (h x) (dp_map f g h r)
/-! ### a comprehension whose list is changed later -/
theorem lc_goM {e : En} {G H1 : Hp} {M : List Addr} {J : It} {n : Nat} {Gd : Hp → Prop} {Y : Nat → Hp → V → Hp → Prop} {g : TG} {tt : TT} {te : TE} {vs : List Nat} {σ : L2.St} {Q : VK} (w : Wd e G H1 M) (hw : Walk J n Gd Y) (R : Nat → List V → Hp → Hp → Prop)
    (h0 : ∀ (Dd : Addr) (H : Hp), Wd e G H (Dd :: M) → Same H1 H → (∀ m ∈ M, Dd ≠ m) → R 0 [] G H)
    (hG : ∀ i acc Gi H, Wd e Gi H M → Same G Gi → R i acc Gi H → Gd H)
    (hs : ∀ (Dd : Addr) i acc Gi H x H', i < n → acc.length ≤ i → Wd e Gi H (Dd :: M) → Same G Gi → H Dd = some (.lst acc) → (∀ m ∈ M, Dd ≠ m) → R i acc Gi H → Y i H x H' → g x (wipe σ vs) H' (LcT Dd (LcP e G M R Dd (i + 1)) tt te vs σ))
    (hd : ∀ (p : Addr) acc Gi H, acc.length ≤ n → Wd e Gi H (p :: M) → Same G Gi → H p = some (.lst acc) → (∀ m ∈ M, p ≠ m) → R n acc Gi H → Q (.ref p) H) : LcGo J g tt te vs σ Q H1 := by
  intro Dd hD
  have w1 := wd_layM (o := .lst []) w hD
  have nm : ∀ m ∈ M, Dd ≠ m := fun m hm => w.nm hD hm
  refine lc_it hw (LcP e G M R Dd) ⟨[], G, w1, Same.refl _, upd_same, Nat.le_refl _, h0 Dd _ w1 (same_upd hD) nm⟩ (fun i H _ ⟨acc, Gi, w2, s2, _, _, r⟩ => hG i acc Gi H (wd_drop w2 (List.sublist_cons_self _ _)) s2 r) (fun i x H H' hi ⟨acc, Gi, w2, s2, h2, l2, r⟩ y => hs Dd i acc Gi H x H' hi l2 w2 s2 h2 nm r y) fun H ⟨acc, Gi, w2, s2, h2, l2, r⟩ => ?_
  exact hd Dd acc Gi H l2 w2 s2 h2 nm r
theorem r_tBM {K : PySem.W.Frag} {T : String} {r : V → List V → Hp → VK → Prop} {to : TE} {t : TA} {σ : L2.St} {H : Hp} {Qv : VK} (q : to σ H fun x H1 => tyV K T x H1 ∧ t σ H1 fun xs H2 => r x xs H2 Qv) : tBM K T r to t σ H Qv := q
theorem r_appM {e : En} {G H : Hp} {M : List Addr} {l : Addr} {xs : List V} {y : V} {Qv : VK} (w : Wd e G H M) (hm : l ∈ M) (h : H l = some (.lst xs)) (hl : xs.length < sizeLine) (q : ∀ H', Wd e G H' M → H' l = some (.lst (xs ++ [y])) → But l H H' → Qv .non H') :
    rAppend (.ref l) [y] H Qv := ⟨l, xs, y, rfl, rfl, h, hl, q _ (wd_mut w hm) upd_same but_upd⟩
/-! ### sayings -/
structure SyC (K : PySem.W.Frag) (C : Addr) : Prop where
  c : Cls K C
  n1 : NoAttr K C "tool"
  n2 : NoAttr K C "moment"
  n3 : NoAttr K C "is_sound"
  n4 : NoAttr K C "face"
  ca : PySem.W.findIn K (.ref C) "__class__" = some (some (.builtin "object.__class__"))
  cn : PySem.W.specialIn K (.builtin "object.__class__") "__get__" = some (some (.builtin "getset_descriptor.__get__"))
  ct : PySem.W.takesIn K (.builtin "object.__class__") = some true
  cm : PySem.W.mroIn K C (.type "object") = some true
  me : PySem.W.kitOne K (.ref C) (.ref C) = some true
  non : PySem.W.kitOne K (.type "NoneType") (.ref C) = some false
  int : PySem.W.kitOne K (.type "int") (.ref C) = some false
  bl : PySem.W.kitOne K (.type "bool") (.ref C) = some false
  str : PySem.W.kitOne K (.type "str") (.ref C) = some false
  lst : PySem.W.kitOne K (.type "list") (.ref C) = some false
  tup : PySem.W.kitOne K (.type "tuple") (.ref C) = some false
  dK : PySem.W.kitOne K (.type "dict") (.ref C) = some false
  fme : PySem.W.notFirst K C (.ref C) = true
  fnon : PySem.W.notFirst K C (.type "NoneType") = true
  fint : PySem.W.notFirst K C (.type "int") = true
  fbl : PySem.W.notFirst K C (.type "bool") = true
  fstr : PySem.W.notFirst K C (.type "str") = true
  flst : PySem.W.notFirst K C (.type "list") = true
  ftup : PySem.W.notFirst K C (.type "tuple") = true
  fdK : PySem.W.notFirst K C (.type "dict") = true
def faceV (z : Str) (i : Int) (b : Bool) : List V := [.str z, .int i, .bl b]
def faceD (z : Str) (i : Int) (b : Bool) : PyData := .tuple [.str z, .int i, .bool b]
/-- name and moment as they must be -/
def Right (z : Str) (i : Int) : Prop := nmOk z = true ∧ 0 ≤ i ∧ i ≤ 1000000000000000000000000000000
def SayAt (C : Addr) (G : Hp) (a : Addr) (z : Str) (i : Int) (b : Bool) : Prop := Right z i ∧ ∃ dx fc, G a = some (.ins C dx [("tool", .str z), ("moment", .int i), ("is_sound", .bl b), ("face", .ref fc)]) ∧ G fc = some (.tup [.str z, .int i, .bl b])
theorem SayAt.same {C a : Addr} {G G' : Hp} {z : Str} {i : Int} {b : Bool} (h : SayAt C G a z i b) (s : Same G G') : SayAt C G' a z i b := by
  obtain ⟨r, dx, fc, h1, h2⟩ := h
  exact ⟨r, dx, fc, s _ _ h1, s _ _ h2⟩
theorem nmOk_len {z : Str} (h : nmOk z = true) : z.length ≤ 8 := by
  unfold nmOk at h
  rw [Bool.and_eq_true, Bool.and_eq_true] at h
  exact of_decide_eq_true h.1.2
theorem Right.name {z : Str} {i : Int} (h : Right z i) : nameV (.str z) = true := h.1
theorem Right.mom {z : Str} {i : Int} (h : Right z i) : momV (.int i) 0 = true := by
  show (decide (0 ≤ i) && decide (i ≤ 1000000000000000000000000000000)) = true
  rw [decide_eq_true h.2.1, decide_eq_true h.2.2]
  rfl
theorem Right.len {z : Str} {i : Int} (h : Right z i) : z.length ≤ 8 := nmOk_len h.1
def spSayInit (C : Addr) : Sp := fun vs H Q _ => ∃ (G : Hp) (x dx : Addr) (z : Str) (i : Int) (b : Bool), vs = [.ref x, .str z, .int i, .bl b] ∧ Same G H ∧ G x = none ∧ H x = some (.ins C dx []) ∧ Right z i ∧
  ∀ (G' H' : Hp) (fc : Addr), But x H H' → Same G' H' → Same G G' → (∀ a, H a ≠ none → G' a = G a) → G' fc = some (.tup [.str z, .int i, .bl b]) → H' x = some (.ins C dx [("tool", .str z), ("moment", .int i), ("is_sound", .bl b), ("face", .ref fc)]) → Q .non H'
theorem u_say {C : Addr} {e : En} {G H : Hp} {M : List Addr} {z : Str} {i : Int} {b : Bool} {Qv : VK} {E : XK} (w : Wd e G H M) (r : Right z i)
    (k : ∀ a G' H', Wd e G' H' M → Same G G' → Same H H' → SayAt C G' a z i b → Qv (.ref a) H') : MakeGo C (spSayInit C) [.str z, .int i, .bl b] E H Qv := by
  refine make_go w fun x dx G1 H1 hx nm s1 t1 w1 h1 n0 => ?_
  refine ⟨G1, x, dx, z, i, b, rfl, w1.le, (w1.mu x List.mem_cons_self).1, h1, r, fun G2 H2 fc b2 s2 s3 fr hf h2 => ⟨rfl, ?_⟩⟩
  have w2 : Wd e G2 H2 (x :: M) := by
    have w3 := wd_but w1 List.mem_cons_self b2 h2
    refine ⟨s2, fun a ha => ?_, w1.nd, w3.dom, fun a o h => s3 _ _ (w1.gr _ _ h), fun a ha => by rw [fr a (w1.dom a ha)]; exact w1.fr a ha, w3.kp⟩
    obtain ⟨g1, ⟨o, g2⟩, g3⟩ := w1.mu a ha
    obtain ⟨_, g4, _⟩ := w3.mu a ha
    exact ⟨by rw [fr a (some_ne g2)]; exact g1, g4, g3⟩
  obtain ⟨w4, s4⟩ := wd_freeze w2 h2 n0
  refine k x _ H2 w4 (s1.trans (s3.trans s4)) (fun a o h => ?_) ⟨r, dx, fc, upd_same, s4 _ _ hf⟩
  refine b2 a o (fun q => ?_) (t1 _ _ h)
  subst q
  rw [hx] at h
  cases h
def spAhead (C : Addr) : Sp := fun vs H Q _ => ∃ (G : Hp) (a c : Addr) (z : Str) (i : Int) (b : Bool) (z' : Str) (i' : Int) (b' : Bool), vs = [.ref a, .ref c] ∧ Same G H ∧ SayAt C G a z i b ∧ SayAt C G c z' i' b' ∧
  Ret G H (fun v _ => v = .bl (PySem.W.dataLt (faceD z i b) (faceD z' i' b'))) Q
/-- what == of a saying with y answers -/
def EqTo (K : PySem.W.Frag) (C : Addr) (G : Hp) (z : Str) (i : Int) (b : Bool) (y : V) (r : Bool) : Prop := (∃ t, TyX K G y t ∧ PySem.W.kitOne K t (.ref C) = some false ∧ r = false) ∨
  ∃ (c : Addr) (z' : Str) (i' : Int) (b' : Bool), y = .ref c ∧ SayAt C G c z' i' b' ∧ r = PyData.eqv (faceD z i b) (faceD z' i' b')
def spSayEq (K : PySem.W.Frag) (C : Addr) : Sp := fun vs H Q _ => ∃ (G : Hp) (a : Addr) (z : Str) (i : Int) (b : Bool) (y : V) (r : Bool), vs = [.ref a, y] ∧ Same G H ∧ SayAt C G a z i b ∧ EqTo K C G z i b y r ∧ Ret G H (fun v _ => v = .bl r) Q
def sayText (z : Str) (i : Int) (b : Bool) : Str := Str.empty ++ z ++ Str.ofString " " ++ Str.ofString (toString i) ++ Str.ofString " " ++ (if b then Str.ofString "sound" else Str.ofString "unsound")
def spSayStr (C : Addr) : Sp := fun vs H Q _ => ∃ (G : Hp) (a : Addr) (z : Str) (i : Int) (b : Bool), vs = [.ref a] ∧ Same G H ∧ SayAt C G a z i b ∧ Right z i ∧ Ret G H (fun v _ => v = .str (sayText z i b)) Q
def spPoint (C : Addr) : Sp := fun vs H Q _ => ∃ (G : Hp) (a : Addr) (z : Str) (i : Int) (b : Bool), vs = [.ref a] ∧ Same G H ∧ SayAt C G a z i b ∧ Ret G H (fun v G' => ∃ p, v = .ref p ∧ G' p = some (.tup [.str z, .int i])) Q
section
variable {K : PySem.W.Frag} {C a c : Addr} {e : En} {G H : Hp} {M : List Addr} {z z' : Str} {i i' : Int} {b b' r : Bool} {y : V} {Q : VK} {E : XK}
theorem u_ahead (w : Wd e G H M) (h1 : SayAt C G a z i b) (h2 : SayAt C G c z' i' b') (k : ∀ G' H', Wd e G' H' M → Same G G' → Same H H' → Q (.bl (PySem.W.dataLt (faceD z i b) (faceD z' i' b'))) H') : spAhead C [.ref a, .ref c] H Q E :=
  ⟨G, a, c, z, i, b, z', i', b', rfl, w.le, h1, h2, ret_use w fun v G' H' w' s1 s2 p => by subst p; exact k G' H' w' s1 s2⟩
theorem u_sayEq (w : Wd e G H M) (h1 : SayAt C G a z i b) (h2 : EqTo K C G z i b y r) (k : ∀ G' H', Wd e G' H' M → Same G G' → Same H H' → Q (.bl r) H') : spSayEq K C [.ref a, y] H Q E :=
  ⟨G, a, z, i, b, y, r, rfl, w.le, h1, h2, ret_use w fun v G' H' w' s1 s2 p => by subst p; exact k G' H' w' s1 s2⟩
theorem u_sayStr (w : Wd e G H M) (h1 : SayAt C G a z i b) (h2 : Right z i) (k : ∀ G' H', Wd e G' H' M → Same G G' → Same H H' → Q (.str (sayText z i b)) H') : spSayStr C [.ref a] H Q E :=
  ⟨G, a, z, i, b, rfl, w.le, h1, h2, ret_use w fun v G' H' w' s1 s2 p => by subst p; exact k G' H' w' s1 s2⟩
theorem u_point (w : Wd e G H M) (h1 : SayAt C G a z i b) (k : ∀ p G' H', Wd e G' H' M → Same G G' → Same H H' → G' p = some (.tup [.str z, .int i]) → Q (.ref p) H') : spPoint C [.ref a] H Q E :=
  ⟨G, a, z, i, b, rfl, w.le, h1, ret_use w fun v G' H' w' s1 s2 p => by obtain ⟨p, e, h⟩ := p; subst e; exact k p G' H' w' s1 s2 h⟩
theorem SyC.ty (S : SyC K C) (h : SayAt C G a z i b) : TyX K G (.ref a) (.ref C) := by
  obtain ⟨_, dx, fc, h1, _⟩ := h
  exact .base (.ins h1 S.c S.ca S.cn S.ct S.cm)
theorem EqTo.say (h : SayAt C G c z' i' b') : EqTo K C G z i b (.ref c) (PyData.eqv (faceD z i b) (faceD z' i' b')) := .inr ⟨c, z', i', b', rfl, h, rfl⟩
theorem EqTo.non (S : SyC K C) : EqTo K C G z i b .non false := .inl ⟨_, .base .non, S.non, rfl⟩
theorem EqTo.int (S : SyC K C) {j : Int} : EqTo K C G z i b (.int j) false := .inl ⟨_, .base (.int j), S.int, rfl⟩
theorem EqTo.bl (S : SyC K C) {j : Bool} : EqTo K C G z i b (.bl j) false := .inl ⟨_, .base (.bl j), S.bl, rfl⟩
theorem EqTo.str (S : SyC K C) {j : Str} : EqTo K C G z i b (.str j) false := .inl ⟨_, .base (.str j), S.str, rfl⟩
theorem EqTo.lst (S : SyC K C) {l : Addr} {xs : List V} (h : G l = some (.lst xs)) : EqTo K C G z i b (.ref l) false := .inl ⟨_, .base (.lst h), S.lst, rfl⟩
theorem EqTo.tup (S : SyC K C) {l : Addr} {xs : List V} (h : G l = some (.tup xs)) : EqTo K C G z i b (.ref l) false := .inl ⟨_, .base (.tup h), S.tup, rfl⟩
end
theorem alike_face {z z' : Str} {i i' : Int} {b b' : Bool} : PySem.W.alike (faceD z i b) (faceD z' i' b') = true := by simp [faceD, PySem.W.alike, PySem.W.alikeAll]
theorem nmOk_str {z : Str} (h : nmOk z = true) : PyData.strOk z = true := by
  unfold nmOk at h
  rw [Bool.and_eq_true, Bool.and_eq_true, Bool.and_eq_true, Bool.and_eq_true] at h
  have h1 := h.2.2.2
  unfold PyData.strOk
  rw [Array.all_eq_true_iff_forall_mem]
  intro c hc
  have h2 := List.all_eq_true.mp h1 c (Array.mem_toList_iff.mpr hc)
  have l1 : ∀ c ∈ zLetters.cps.toList, c < 0x110000 := by decide
  have l2 : ∀ c ∈ zFigures.cps.toList, c < 0x110000 := by decide
  rcases Bool.or_eq_true_iff.mp h2 with h3 | h3
  · exact decide_eq_true (l1 c (of_decide_eq_true h3))
  · exact decide_eq_true (l2 c (of_decide_eq_true h3))
theorem shaped_face {z : Str} {i : Int} {b : Bool} (h : Right z i) : SeqAt.shaped (faceD z i b) = true := by
  have e : PyData.strOk z = true := nmOk_str h.1
  simp [faceD, SeqAt.shaped, PyData.canLay0, PyData.canLayAll0, PyData.depth, PyData.depthAll, e]
theorem depth_face {z : Str} {i : Int} {b : Bool} : (faceD z i b).depth ≤ 60 := by simp [faceD, PyData.depth, PyData.depthAll]
theorem ne_face {z : Str} {i : Int} {b : Bool} : faceD z i b ≠ .none := fun h => nomatch h
theorem lenZ {i : Int} (h0 : 0 ≤ i) (h1 : i ≤ 1000000000000000000000000000000) : (Str.ofString (toString i)).length ≤ 31 := toString_length_le h0 (by decide) (Int.lt_of_le_of_lt h1 (by decide))
theorem logZ {i : Int} (h0 : 0 ≤ i) (h1 : i ≤ 1000000000000000000000000000000) : i.natAbs.log2 < 1920 := by
  by_cases z : i.natAbs = 0
  · rw [z]; decide
  · refine (Nat.log2_lt z).mpr (Nat.lt_of_le_of_lt (m := 1000000000000000000000000000000) (by omega) ?_)
    exact Nat.lt_of_lt_of_le (m := 2 ^ 100) (by decide) (Nat.pow_le_pow_right (by decide) (by decide))
/-! ### f-strings, step by step -/
section
variable {te : TE} {ts : List TE} {acc y : Str} {i : Int} {σ : L2.St} {H : Hp} {Q : Str → Hp → Prop} {Qv : VK}
def FmtK (x : V) (H : Hp) (Q : VK) : Prop := (∃ y : Str, x = .str y ∧ y.length ≤ sizeLine ∧ Q (.str y) H) ∨ ∃ i : Int, x = .int i ∧ i.natAbs.log2 < 1920 ∧ Q (.str (toString i)) H
theorem r_tFmt (q : te σ H fun x H1 => FmtK x H1 Qv) : tFmt te σ H Qv := q
theorem r_fmtS (h : y.length ≤ sizeLine) (q : Qv (.str y) H) : FmtK (.str y) H Qv := .inl ⟨y, rfl, h, q⟩
theorem r_fmtI (h : i.natAbs.log2 < 1920) (q : Qv (.str (toString i)) H) : FmtK (.int i) H Qv := .inr ⟨i, rfl, h, q⟩
theorem r_jnil (q : Q acc H) : tJs [] acc σ H Q := q
def JK (acc : Str) (x : V) (R : Str → Prop) : Prop := ∃ y : Str, x = .str y ∧ (acc ++ y).length ≤ sizeLine ∧ R (acc ++ y)
theorem r_jcons (q : te σ H fun x H1 => JK acc x fun s => tJs ts s σ H1 Q) : tJs (te :: ts) acc σ H Q := q
theorem r_jk {R : Str → Prop} (h : (acc ++ y).length ≤ sizeLine) (q : R (acc ++ y)) : JK acc (.str y) R := ⟨y, rfl, h, q⟩
end
end Q
namespace Q
open PySem PySem.Spec PyProof.Rows L2
/-! ### classes as they stand, ready to be used -/
section
variable {P : Program} {w : World} {K : PySem.W.Frag} {mg : Str → Option Value} {base : Heap} {CX : CXT} {k : Nat}
theorem kbn_of {x qual : Str} {params : Arguments} {body : List Stmt} {scope : Scope} {kws : List (Str × V)} {f : Addr} {fd : FuncData} {ps : List Str} (F : FunD K x qual params body scope [] kws f fd) (n : Nat) (ks : List Str) (g : {α : Type} → List α → List α → List α)
    (hrel : ∀ {vs zs : List V} {us ws : List Value}, Vals vs us → Vals zs ws → Vals (g vs zs) (g us ws))
    (h : ∀ (kV doc pm : Value) (an : Option Addr) (cdv ct : Value) (us ws : List Value), us.length = n → ws.length = ks.length →
      bindArgs (PySem.W.fnOf x qual params body scope .none kV doc pm an cdv ct) ⟨us, ks.zip ws⟩ = pure (ps.zip (g us ws))) : KBn K fd ps n ks (fun us ws => g us ws) (fun vs zs => g vs zs) := by
  obtain ⟨oc, od, dV, kV, doc, pm, an, cdv, ct, osl, rfl, lk, hcd, hD, hK⟩ := F.ex
  rcases hD with ⟨_, rfl⟩ | ⟨e, _⟩
  · exact ⟨fun s us ws X l1 l2 => .of_eq (h kV doc pm an cdv ct us ws l1 l2), fun r1 r2 => hrel r1 r2⟩
  · exact absurd rfl e
variable (P w K mg base CX k)
structure MkD (x : Str) (C : Addr) (dvs : List V) (sp : Sp) : Prop where
  ex : ∃ (f : Addr) (fd : FuncData) (ps : List Str) (ds : List Value), mg x = some (.ref C) ∧ Mk K C f ∧ Binds K fd ps ds ∧ Vals dvs ds ∧ FnOk P w K mg base CX k f fd ps sp
structure MkK (x : Str) (C : Addr) (n : Nat) (ks : List Str) (gV : List V → List V → List V) (sp : Sp) : Prop where
  ex : ∃ (f : Addr) (fd : FuncData) (ps : List Str) (g : List Value → List Value → List Value), mg x = some (.ref C) ∧ Mk K C f ∧ KBn K fd ps n ks g gV ∧ FnOk P w K mg base CX k f fd ps sp
structure MetD (C : Addr) (m : Str) (dvs : List V) (sp : Sp) : Prop where
  ex : ∃ (f : Addr) (fd : FuncData) (ps : List Str) (ds : List Value), Cls K C ∧ Meth K C m f ∧ Binds K fd ps ds ∧ Vals dvs ds ∧ FnOk P w K mg base CX k f fd ps sp
structure MetK (C : Addr) (m : Str) (ks : List Str) (gV : List V → List V → List V) (sp : Sp) : Prop where
  ex : ∃ (f : Addr) (fd : FuncData) (ps : List Str) (g : List Value → List Value → List Value), Cls K C ∧ Meth K C m f ∧ KBn K fd ps 1 ks g gV ∧ FnOk P w K mg base CX k f fd ps sp
structure PrD (C : Addr) (m : Str) (sp : Sp) : Prop where
  ex : ∃ (p g : Addr) (fd : FuncData) (ps : List Str), Cls K C ∧ PropOf K C m p g ∧ Binds K fd ps [] ∧ FnOk P w K mg base CX k g fd ps sp
/-- a special def: ==, str -/
structure SpD (C : Addr) (m : Str) (sp : Sp) : Prop where
  ex : ∃ (f : Addr) (fd : FuncData) (ps : List Str), PySem.W.findIn K (.ref C) m = some (some (.ref f)) ∧ PySem.W.isFn K (.ref f) = true ∧ Binds K fd ps [] ∧ FnOk P w K mg base CX k f fd ps sp
end
section
variable {X : Cx} {CX : CXT} {k j n : Nat} {C : Addr} {sp : Sp} {dvs : List V} {E : XK} {x m : Str} {o e : Expr} {es : List Expr} {t tk : TA} {ta : TE} {pos p apos : Pos} {pl : Sem Bool} {ks : List Str} {kws : List Keyword} {gV : List V → List V → List V}
theorem pe_makeD (D : MkD X.prog X.w X.K X.mg X.base CX k x C dvs sp) (hr : Room j X.A) (hx : Passes CX X E) (ha : PA X (e :: es) t) (hj : k + 1 ≤ j := by decide) (hg : Gl X x := by rfl)
    (hdb : (x == ("__debug__" : Str)) = false := by decide) (he : starEach (e :: es) X.env = (false, eval e X.env) :: starEach es X.env := by rfl) (hpl : (backTo pos (starEach es X.env)).any (·.1) = false := by rfl) :
    PE X (.Call (.Name x p) (e :: es) [] pos) (tMake C sp dvs E t) := by
  obtain ⟨f, fd, ps, ds, h1, h2, h3, h4, h5⟩ := D.ex
  exact pe_make h2 h5 (hr.mono hj) hg h1 h3 h4 hx ha hdb he hpl
theorem pe_methD (he : PE X o ta) (D : MetD X.prog X.w X.K X.mg X.base CX k C m dvs sp) (hr : Room j X.A) (hx : Passes CX X E) (ha : PA X (e :: es) t) (hj : k ≤ j := by decide)
    (hst : starEach (e :: es) X.env = (false, eval e X.env) :: starEach es X.env := by rfl) (hpl : (backTo pos (starEach es X.env)).any (·.1) = false := by rfl)
    (ht : eval (.Call (.Attribute o m apos) (e :: es) [] pos) X.env = (do
      let ov ← eval o X.env
      standAt apos.atName
      let (f, first) ← holding [ov] (getMethod ov m pl)
      callWith pos f first (backTo pos (starEach (e :: es) X.env)) (backToKw pos (keywordEach [] X.env))) := by rfl) :
    PE X (.Call (.Attribute o m apos) (e :: es) [] pos) (tMeth C m sp dvs E ta t) := by
  obtain ⟨f, fd, ps, ds, h1, h2, h3, h4, h5⟩ := D.ex
  exact pe_meth he h1 h2 h5 (hr.mono hj) h3 h4 hx ha hst hpl ht
theorem pe_methD0 (he : PE X o ta) (D : MetD X.prog X.w X.K X.mg X.base CX k C m dvs sp) (hr : Room j X.A) (hx : Passes CX X E) (hj : k ≤ j := by decide)
    (ht : eval (.Call (.Attribute o m apos) [] [] pos) X.env = (do
      let ov ← eval o X.env
      standAt apos.atName
      let (f, first) ← holding [ov] (getMethod ov m pl)
      callWith pos f first (backTo pos (starEach [] X.env)) (backToKw pos (keywordEach [] X.env))) := by rfl) :
    PE X (.Call (.Attribute o m apos) [] [] pos) (tMeth C m sp dvs E ta tNil) := by
  obtain ⟨f, fd, ps, ds, h1, h2, h3, h4, h5⟩ := D.ex
  exact pe_meth0 he h1 h2 h5 (hr.mono hj) h3 h4 hx ht
theorem pe_methKD (he : PE X o ta) (D : MetK X.prog X.w X.K X.mg X.base CX k C m ks gV sp) (hr : Room j X.A) (hx : Passes CX X E) (hkw : PK X kws tk) (hj : k ≤ j := by decide)
    (hall : (backToKw pos (keywordEach kws X.env)).all (·.1.isSome) = true := by rfl) (hks : (backToKw pos (keywordEach kws X.env)).filterMap (·.1) = ks := by rfl)
    (hpl : ((backTo pos (starEach [] X.env)).any (·.1) || (backToKw pos (keywordEach kws X.env)).any (·.1.isNone)) = false := by rfl)
    (ht : eval (.Call (.Attribute o m apos) [] kws pos) X.env = (do
      let ov ← eval o X.env
      standAt apos.atName
      let (f, first) ← holding [ov] (getMethod ov m pl)
      callWith pos f first (backTo pos (starEach [] X.env)) (backToKw pos (keywordEach kws X.env))) := by rfl) :
    PE X (.Call (.Attribute o m apos) [] kws pos) (tMethK C m ks.length sp E ta tk gV) := by
  obtain ⟨f, fd, ps, g, h1, h2, h3, h5⟩ := D.ex
  exact pe_methK he h1 h2 h5 (hr.mono hj) h3 hx hkw hall hks hpl ht
theorem pe_propD (he : PE X e ta) (D : PrD X.prog X.w X.K X.mg X.base CX k C m sp) (hr : Room j X.A) (hx : Passes CX X.nox E) (hj : k + 1 ≤ j := by decide)
    (hab : attributeBase e m X.env (eval e X.env) = eval e X.env := by rfl) : PE X (.Attribute e m pos) (tProp C sp [] E ta) := by
  obtain ⟨p, g, fd, ps, h1, h2, h3, h5⟩ := D.ex
  exact pe_prop he h1 h2 h5 (hr.mono hj) h3 .nil hx hab
theorem q_eqD (D : SpD X.prog X.w X.K X.mg X.base CX k C "__eq__" sp) (hr : Room j X.A) (hx : Passes CX X E) (hj : k ≤ j := by decide) : OpR X (compareOp .Eq) (rEqI X.K C sp E) := by
  obtain ⟨f, fd, ps, h1, h2, h3, h4⟩ := D.ex
  exact q_eqI h1 h2 h4 (hr.mono hj) h3 hx
theorem q_neD (hne : PySem.W.findIn X.K (.ref C) "__ne__" = some (some (.builtin "object.__ne__"))) (hm : PySem.W.mroIn X.K C (.type "object") = some true) (D : SpD X.prog X.w X.K X.mg X.base CX k C "__eq__" sp) (hr : Room j X.A) (hx : Passes CX X E)
    (hj : k + 1 ≤ j := by decide) : OpR X (compareOp .NotEq) (rNeI X.K C sp E) := by
  obtain ⟨f, fd, ps, h1, h2, h3, h4⟩ := D.ex
  exact q_neI hne hm h1 h2 h4 (hr.mono hj) h3 hx
theorem q_strD (D : SpD X.prog X.w X.K X.mg X.base CX k C "__str__" sp) (hr : Room j X.A) (hx : Passes CX X E) (hj : k + 2 ≤ j := by decide) : CallR X (.type "str") (rStrI C sp E) := by
  obtain ⟨f, fd, ps, h1, h2, h3, h4⟩ := D.ex
  exact q_strI h1 h2 h4 (hr.mono hj) h3 hx
end
theorem u_moment0 {K : PySem.W.Frag} {e : En} {G H : Hp} {M : List Addr} {x : V} {t : Value} {Q : VK} {E : XK} {l : Int} (w : Wd e G H M) (h : Kd K G x t) (k : ∀ G' H', Wd e G' H' M → Same G G' → Same H H' → Q (.bl (momV x l)) H') :
    spMoment K ([x] ++ [.int l]) H Q E := u_moment w h k
theorem r_tyL {K : PySem.W.Frag} {H : Hp} {p : Addr} {xs : List V} {R : Prop} (h : SqL K H p xs) (q : R) : tyV K "list" (.ref p) H ∧ R := ⟨.inl ⟨rfl, xs, h⟩, q⟩
def bl3 (a b c : Bool) : PyData := .list [.bool a, .bool b, .bool c]
theorem showable3 {a b c : Bool} : (bl3 a b c).showable = true := by cases a <;> cases b <;> cases c <;> decide
theorem depth3 {a b c : Bool} : (bl3 a b c).depth ≤ 60 := by cases a <;> cases b <;> cases c <;> decide
theorem size3 {a b c : Bool} : (bl3 a b c).shown.length ≤ sizeLine := by
  refine sz_m ?_
  cases a <;> cases b <;> cases c <;> decide +kernel
theorem showable1 {a : Bool} : (PyData.bool a).showable = true := by cases a <;> decide
theorem depth1 {a : Bool} : (PyData.bool a).depth ≤ 60 := by cases a <;> decide
theorem size1 {a : Bool} : (PyData.bool a).shown.length ≤ sizeLine := by
  refine sz_m ?_
  cases a <;> decide +kernel
theorem EqTo.same {K : PySem.W.Frag} {C : Addr} {G G' : Hp} {z : Str} {i : Int} {b r : Bool} {y : V} (h : EqTo K C G z i b y r) (s : Same G G') : EqTo K C G' z i b y r := by
  rcases h with ⟨t, h1, h2, h3⟩ | ⟨c, z', i', b', h1, h2, h3⟩
  · exact .inl ⟨t, same_ty s h1, h2, h3⟩
  · exact .inr ⟨c, z', i', b', h1, h2.same s, h3⟩
end Q
namespace Q
open PySem PySem.Spec PyProof.Rows L2
/-! ### the law's own end: nothing is being shown around the law's def -/
section
variable {P : Program} {w : World} {K : PySem.W.Frag} {mg mb : Str → Option Value} {CX : CXT} {k : Nat} {fa a : Addr} {fd : FuncData} {x : Str} {sp : Sp} {s₁ : Shared} {vs : List Value} {ns : List Int}
/-- from one abstract heap in which the script alone may be told -/
theorem from_heap (Hh : Hp) (KX : K.In s₁.heap) (hns : s₁.heap.Ns mainGlobals mg) (hb : s₁.heap.Ns builtinsNs mb)
    (hbb : ∀ y : Str, y ≠ "__name__" → mb y = bootBuiltins y) (hlim : s₁.heap.NoLimit) (hg : s₁.gens = #[])
    (hobj : s₁.heap.get? a = some { cls := .type "list", data := .seq vs.toArray }) (hr : Room k callerA)
    (F : ∀ b0 : Heap, K.In b0 → b0.Ns mainGlobals mg → FnA P w K mg b0 CX k fa fd [x] sp)
    (hbind : ∀ (s : Shared) (u : Value), BindsTo s fd ⟨[u], []⟩ [(x, u)]) (only : Only Hh) (told : HOk P w Hh s₁.heap)
    (hsp : sp [.ref a] Hh (fun v _ => v = .bl true) fun _ _ _ => False) (hCX : ∀ e s', CX [] Hh s₁ (fun _ _ _ => False) e s' → False)
    (alone : ∀ b, Hh b ≠ none → b = a) (apart : Hh a ≠ none → K.lookup a = none) :
    codeAny (model P w) callerA (.call (.ref fa) ⟨[.ref a], []⟩) (fun r t => r = .ok (.ret (.bool true)) ∧ OldK s₁.heap t.heap ∧ t.os = s₁.os ∧ AllBare t.gens) s₁ := by
  let base := hidT s₁.heap Hh
  have seen : ∀ {b : Addr} {o : Obj}, s₁.heap.get? b = some o → Hh b = none → base.get? b = some o := fun z n => hidT_get z n
  have dicts : ∀ {b : Addr} {o : Obj} {es : Array DictEntry} {ep : Nat}, s₁.heap.get? b = some o → o.data = .dict es ep → Hh b = none := by
    intro b o es ep z d
    by_cases q : Hh b = none
    · exact q
    · have ba := alone b q
      rw [ba, hobj] at z
      obtain rfl := Option.some.inj z
      exact absurd d (by intro y; cases y)
  have names : ∀ {b : Addr} {m : Str → Option Value}, s₁.heap.Ns b m → base.Ns b m := by
    rintro b m ⟨o, es, ep, z, d, r⟩
    exact ⟨o, es, ep, seen z (dicts z d), d, r⟩
  have inB : K.In base := by
    intro b o z
    refine seen (KX b o z) ?_
    by_cases q : Hh b = none
    · exact q
    · have ba := alone b q
      rw [ba] at z q
      rw [apart q] at z
      cases z
  obtain ⟨mc, l1, l2⟩ := hlim
  have md : Mod K mg base := ⟨inB, names hns, ⟨mb, names hb, hbb⟩, ⟨mc, names l1, l2⟩⟩
  have env : Env0 P w K mg base callerA [] s₁ Hh := by
    refine ⟨rfl, md, fun b o z => of_hidT z, Nat.le_of_eq (hidT_size _ _), trivial, fun b z => ?_, told, .of_eq hg⟩
    exact absurd (show b ∈ ([] : List Addr) from z) (by simp)
  have go := (F base inB (names hns)).run callerA [] s₁ Hh ⟨[.ref a], []⟩ [.ref a] [.ref a] _ _ g0_caller hr env (hbind s₁ (.ref a)) (.cons rfl .nil) hsp
  refine codeAny_mono go fun r t h => ?_
  match r, h with
  | .error e, h => exact (hCX e t h).elim
  | .ok .next, h => exact h.elim
  | .ok .brk, h => exact h.elim
  | .ok .cont, h => exact h.elim
  | .ok (.ret u), h =>
    obtain ⟨v, H', os, bare, un, told', ru, q⟩ := h
    have q' : v = .bl true := q
    subst q'
    obtain rfl : u = Value.bool true := ru
    refine ⟨rfl, OldK.of_keep fun b o z => ?_, os, bare⟩
    by_cases n : Hh b = none
    · exact un.keep b o z n (by intro y; exact absurd (show b ∈ ([] : List Addr) from y) (by simp)) (by simp)
    · rcases only b with y | ⟨ob, xs, y⟩
      · exact absurd y n
      · obtain ⟨e1, _⟩ := told b _ y
        obtain ⟨e2, _⟩ := told' b _ (un.frzs b ob _ y)
        rw [z] at e1
        obtain rfl := Option.some.inj e1
        exact e2
theorem end_A (KX : K.In s₁.heap) (hns : s₁.heap.Ns mainGlobals mg) (hb : s₁.heap.Ns builtinsNs mb)
    (hbb : ∀ y : Str, y ≠ "__name__" → mb y = bootBuiltins y) (hlim : s₁.heap.NoLimit) (hg : s₁.gens = #[])
    (hobj : s₁.heap.get? a = some { cls := .type "list", data := .seq vs.toArray }) (hi : IntsAre vs ns) (hl : ns.length ≤ sizeLine) (hr : Room k callerA)
    (F : ∀ b0 : Heap, K.In b0 → b0.Ns mainGlobals mg → FnA P w K mg b0 CX k fa fd [x] sp)
    (hbind : ∀ (s : Shared) (u : Value), BindsTo s fd ⟨[u], []⟩ [(x, u)])
    (hsp : ∀ Hh : Hp, Only Hh → SqL K Hh a (ns.map V.int) → sp [.ref a] Hh (fun v _ => v = .bl true) fun _ _ _ => False)
    (hCX : ∀ Hh e s', CX [] Hh s₁ (fun _ _ _ => False) e s' → False) :
    codeAny (model P w) callerA (.call (.ref fa) ⟨[.ref a], []⟩) (fun r t => r = .ok (.ret (.bool true)) ∧ OldK s₁.heap t.heap ∧ t.os = s₁.os ∧ AllBare t.gens) s₁ := by
  have rv := vals_ints hi
  have nv := hi.length
  by_cases q : ∃ o, K.lookup a = some o
  · obtain ⟨o, lk⟩ := q
    have z := KX a o lk
    rw [hobj] at z
    obtain rfl := Option.some.inj z
    have only : Only fun _ => none := fun _ => .inl rfl
    refine from_heap (fun _ => none) KX hns hb hbb hlim hg hobj hr F hbind only (fun b u y => ?_) (hsp _ only (.inr ⟨_, vs.toArray, _, lk, rfl, rfl, rfl, ?_, ?_⟩)) (hCX _) (fun b y => absurd rfl y) fun y => absurd rfl y
    · exact absurd (show (none : Option HO) = some u from y) (by intro y; cases y)
    · rw [List.size_toArray, nv]; exact hl
    · simpa using rv
  · have lk : K.lookup a = none := by
      cases z : K.lookup a with
      | none => rfl
      | some o => exact absurd ⟨o, z⟩ q
    let Hh : Hp := fun b => if b = a then some (.frz { cls := .type "list", data := .seq vs.toArray } (.lst (ns.map V.int))) else none
    have at_a : Hh a = some (.frz { cls := .type "list", data := .seq vs.toArray } (.lst (ns.map V.int))) := if_pos rfl
    have off : ∀ b, b ≠ a → Hh b = none := fun b n => if_neg n
    have only : Only Hh := fun b => by
      by_cases n : b = a
      · exact .inr ⟨_, _, by rw [n]; exact at_a⟩
      · exact .inl (off b n)
    refine from_heap Hh KX hns hb hbb hlim hg hobj hr F hbind only (fun b u y => ?_) (hsp _ only (.inl (.inr ⟨_, at_a⟩))) (hCX _) (fun b y => ?_) fun _ => lk
    · by_cases n : b = a
      · rw [n, at_a] at y
        obtain rfl := Option.some.inj y
        rw [n]
        exact ⟨hobj, by rw [List.length_map]; exact hl, vs, _, rv, hobj⟩
      · rw [off b n] at y
        cases y
    · by_cases n : b = a
      · exact n
      · exact absurd (off b n) y
end
theorem walk_ofA {l : PySem.W.OpenLaw} {n k : Nat} {q : Program} {loose : List Str} {XP : (Str → Option Value) → Heap → Prop} {YP : World → Heap → Prop} {d : DefRec} {CX : CXT} {x : Str}
    (hn : l.most = some n) (hn2 : n ≤ sizeLine) (hdf : d.params.defaults = []) (hr : Room k callerA)
    (F : ∀ (w : World) (mg : Str → Option Value) (fa : Addr) (h : Heap), YP w h → h.Ns mainGlobals mg → mg d.name = some (.ref fa) →
      ∃ (K : PySem.W.Frag) (fd : FuncData) (sp : Sp), K.In h ∧ (∀ (s : Shared) (u : Value), BindsTo s fd ⟨[u], []⟩ [(x, u)]) ∧
        (∀ (Hh : Hp) (a : Addr) (ns : List Int), ns.length ≤ n → Only Hh → SqL K Hh a (ns.map V.int) → sp [.ref a] Hh (fun v _ => v = .bl true) fun _ _ _ => False) ∧
        ∀ b0 : Heap, K.In b0 → b0.Ns mainGlobals mg → FnA l.prog w K mg b0 CX k fa fd [x] sp)
    (hCX : ∀ (Hh : Hp) (s : Shared) (e : Value) (s' : Shared), CX [] Hh s (fun _ _ _ => False) e s' → False) :
    PySem.W.WalkO q loose XP YP l.row.toRowW d [] (fun f vs => PySem.call f vs) := by
  refine Att.attach_call hn hdf fun w s₀ s₁ mg mb fa o pm cd doc a vs ns G Y ho hd hcd hmg hobj hints hlen hg => ?_
  obtain ⟨K, fd, sp, KX, hb, hsp, hF⟩ := F w mg fa _ Y G.T.g hmg
  refine end_A KX G.T.g G.T.b G.T.builtins G.T.nolimit hg hobj hints (Nat.le_trans hlen hn2) hr hF hb ?_ fun Hh e s' => hCX Hh s₁ e s'
  exact fun Hh hO hS => hsp Hh a ns hlen hO hS
/-! ### the head's facts: defs, named facts, a Bool of one's own -/
abbrev AlQ : Type := He.AlD × Bool
def obsQ (n : Nat) (fa : List He.Fa) (fn : List He5.DefA) (ex : PySem.W.Frag → Bool) (g : Addr → Option Obj) : AlQ := (He5.obsAG n fa fn g, ex (He.frG g (He5.asA g n)))
def hookQ (n : Nat) (fa : List He.Fa) (fn : List He5.DefA) (ex : PySem.W.Frag → Bool) : PySem.W.Hook where
  α := AlQ
  obs := fun s => obsQ n fa fn ex s.heap.get?
  val := fun _ => (He5.valA fn, true)
  says := fun _ h => ∃ K : PySem.W.Frag, K.In h ∧ He5.SaysA fa fn K ∧ ex K = true
  of := fun _ _ e => ⟨_, He.frG_in, congrArg (fun z : AlQ => z.1) e, congrArg (fun z : AlQ => z.2) e⟩
  keeps := fun _ _ _ ⟨K, hK, c⟩ k => ⟨K, PySem.W.Frag.In.keeps hK k, c⟩
theorem obsQ_eq {n : Nat} {fa : List He.Fa} {fn : List He5.DefA} {ex : PySem.W.Frag → Bool} {g : Addr → Option Obj} {s : Shared} (h : ∀ a, g a = s.heap.get? a) : obsQ n fa fn ex g = (hookQ n fa fn ex).obs s := by
  obtain rfl : g = s.heap.get? := funext h
  rfl
/-- a property's getter -/
def getterOf (K : PySem.W.Frag) (p : Addr) : Addr := match PySem.W.recIn K p "property" with
  | some (.ref g :: _) => g
  | _ => 0
def propB (K : PySem.W.Frag) (C : Addr) (f : Str) : Bool := He.eqO (PySem.W.findIn K (.ref C) f) (some (some (.ref (He.ma K C f)))) && (He.eqO (PySem.W.specialIn K (.ref (He.ma K C f)) "__get__") (some (some (.builtin "property.__get__"))) &&
  (decide (PySem.W.takesIn K (.ref (He.ma K C f)) = some true) && (match PySem.W.recIn K (He.ma K C f) "property" with
    | some (.ref _ :: _) => true
    | _ => false)))
theorem propB_ok {K : PySem.W.Frag} {C : Addr} {f : Str} (h : propB K C f = true) : PropOf K C f (He.ma K C f) (getterOf K (He.ma K C f)) := by
  obtain ⟨h1, h⟩ := He.ba h
  obtain ⟨h2, h⟩ := He.ba h
  obtain ⟨h3, h4⟩ := He.ba h
  refine ⟨He.eqO_ok h1, He.eqO_ok h2, of_decide_eq_true h3, ?_⟩
  unfold getterOf
  split at h4
  · rename_i g rest e
    exact ⟨rest, by rw [e]⟩
  · cases h4
end Q

/-! ### the steps as tactics -/
open PySem PySem.Spec PyProof.Rows L2 Q
local macro_rules | `(tactic| walk_at "ne") => `(tactic| first
  | assumption
  | (refine' Ne.symm ?h; (case h => assumption))
  | (refine' (by assumption : ∀ m ∈ _, _ ≠ m) _ ?h; (case h => simp))
  | (refine' Ne.symm ((by assumption : ∀ m ∈ _, _ ≠ m) _ ?h); (case h => simp)))
local macro_rules | `(tactic| walk_at "atg") => `(tactic| first
  | assumption
  | (refine' same_at ?s ?h; (case s => assumption); (case h => walk_at "atg")))
local macro_rules | `(tactic| walk_at "at") => `(tactic| first
  | assumption
  | exact upd_same
  | (refine' wd_at ?w ?h; (case w => assumption); (case h => walk_at "atg"))
  | (refine' same_at ?s ?h; (case s => assumption); (case h => walk_at "at"))
  | (refine' but_at ?b ?n ?h; (case b => assumption); (case h => walk_at "at"); (case n => walk_at "ne")))
local macro_rules | `(tactic| walk_at "sqg") => `(tactic| first
  | assumption
  | (refine' SqL.of ?h; (case h => walk_at "atg"))
  | (refine' SqT.of ?h; (case h => walk_at "atg"))
  | (refine' same_sqL ?s ?h; (case s => assumption); (case h => walk_at "sqg"))
  | (refine' same_sqT ?s ?h; (case s => assumption); (case h => walk_at "sqg")))
local macro_rules | `(tactic| walk_at "sq") => `(tactic| first
  | assumption
  | (refine' SqL.of ?h; (case h => walk_at "at"))
  | (refine' SqT.of ?h; (case h => walk_at "at"))
  | (refine' wd_sqL ?w ?h; (case w => assumption); (case h => walk_at "sqg"))
  | (refine' wd_sqT ?w ?h; (case w => assumption); (case h => walk_at "sqg")))
local macro_rules | `(tactic| walk_at "dpaG") => `(tactic| first
  | exact DpAll.nil
  | (refine' DpAll.cons ?a ?b; (case a => walk_at "dpG"); (case b => walk_at "dpaG"))
  | exact dpa_ints _
  | assumption
  | (refine' same_dpa ?s ?h; (case s => assumption); (case h => assumption)))
local macro_rules | `(tactic| walk_at "dpG") => `(tactic| first
  | exact Dp.bl _ | exact Dp.int _ | exact Dp.str _ | exact Dp.non
  | assumption
  | (refine' Dp.lst ?h ?a; (case h => walk_at "sqg"); (case a => walk_at "dpaG"))
  | (refine' Dp.tup ?h ?a; (case h => walk_at "sqg"); (case a => walk_at "dpaG"))
  | (refine' same_dp ?s ?h; (case s => assumption); (case h => walk_at "dpG")))
local macro_rules | `(tactic| walk_at "dpa") => `(tactic| first
  | exact DpAll.nil
  | (refine' DpAll.cons ?a ?b; (case a => walk_at "dp"); (case b => walk_at "dpa"))
  | exact dpa_ints _
  | assumption)
local macro_rules | `(tactic| walk_at "dp") => `(tactic| first
  | exact Dp.bl _ | exact Dp.int _ | exact Dp.str _ | exact Dp.non
  | assumption
  | (refine' wd_dp ?w ?h; (case w => assumption); (case h => walk_at "dpG"))
  | (refine' Dp.lst ?h ?a; (case h => walk_at "sq"); (case a => walk_at "dpa"))
  | (refine' Dp.tup ?h ?a; (case h => walk_at "sq"); (case a => walk_at "dpa")))
local macro_rules | `(tactic| walk_at "pen") => `(tactic| first
  | assumption
  | (refine' PenAt.same ?P ?s; (case s => assumption); (case P => walk_at "pen"))
  | (refine' PenAt.but ?P ?b ?n; (case b => assumption); (case P => walk_at "pen"); (case n => walk_at "ne")))
local macro_rules | `(tactic| walk_at "cells") => `(tactic| first
  | assumption
  | (refine' Cells.same ?P ?s; (case s => assumption); (case P => walk_at "cells")))
local macro_rules | `(tactic| walk_at "cond") => `(tactic| first | omega | decide | with_reducible assumption | (simp; done))
local macro_rules | `(tactic| walk_at "size") => `(tactic| first | decide | (refine' sz_m ?h; (case h => first | omega | exact Nat.le_of_ble_eq_true rfl | (simp; done) | (simp; omega))))
local macro_rules | `(tactic| walk_at "js") => `(tactic| (refine' sz_m ?h; (case h => (simp only [Str.length_append]; first | omega | (simp; omega) | (simp [Str.length, Str.empty]; omega)))))
local macro_rules | `(tactic| walk_at "lsz") => `(tactic| first | assumption | (refine' Nat.lt_of_lt_of_le (m := 1000000) ?h ?g; (case g => decide); (case h => first | omega | (simp; omega))))
local macro_rules | `(tactic| walk_at "say") => `(tactic| first
  | assumption
  | (refine' SayAt.same ?h ?s; (case s => assumption); (case h => walk_at "say")))
local macro_rules | `(tactic| walk_at "qu") => `(tactic| fail "no user step")
local macro_rules | `(tactic| walk_at "q") => `(tactic| first
  | with_reducible refine' r_seq ?_ | with_reducible refine' r_asg ?_ | with_reducible refine' r_name ?_ | with_reducible refine' r_op ?_
  | ((with_reducible refine' r_var ?h ?_); (case h => exact rfl))
  | with_reducible refine' r_c ?_ | with_reducible refine' r_cb ?_ | with_reducible refine' r_cons ?_ | with_reducible refine' r_nil ?_
  | with_reducible refine' r_call0 ?_ | with_reducible refine' r_call ?_ | with_reducible refine' r_ret ?_ | with_reducible refine' r_next ?_ | with_reducible refine' r_drop ?_ | with_reducible refine' r_ifS ?_
  | with_reducible refine' r_test ?_ | with_reducible refine' r_tB ?_ | with_reducible refine' r_exb ?_ | with_reducible refine' r_and ?_ | with_reducible refine' r_or ?_ | with_reducible refine' r_not ?_
  | with_reducible refine' r_andV ?_ | with_reducible refine' r_orV ?_ | with_reducible refine' r_notV ?_ | with_reducible refine' r_ifE ?_ | with_reducible refine' r_chain ?_ | with_reducible refine' r_un ?_
  | with_reducible refine' r_tup ?_ | with_reducible refine' r_lst ?_ | with_reducible refine' r_lstM ?_ | with_reducible refine' r_gSub ?_ | with_reducible refine' r_sl ?_ | with_reducible refine' r_noPart ?_ | with_reducible refine' r_part ?_ | with_reducible refine' r_exi ?_
  | with_reducible refine' iteT ?_ | with_reducible refine' iteF ?_ | with_reducible refine' ite_nt ?_ | with_reducible refine' ite_nf ?_
  | with_reducible refine' r_addI ?_ | with_reducible refine' r_sub ?_ | with_reducible refine' r_lt ?_ | with_reducible refine' r_le ?_ | with_reducible refine' r_gt ?_ | with_reducible refine' r_ge ?_ | with_reducible refine' r_ltS ?_
  | with_reducible refine' r_isN ?_ | with_reducible refine' r_notN ?_
  | with_reducible refine' r_int ?_ | with_reducible refine' r_intB ?_ | with_reducible refine' r_abs ?_
  | ((with_reducible refine' r_addS ?h ?_); (case h => walk_at "cond"))
  | ((with_reducible refine' r_mul ?h ?_); (case h => first | (exact Or.inl ⟨by walk_at "cond", by walk_at "cond"⟩) | (exact Or.inr ⟨by walk_at "cond", by walk_at "cond"⟩)))
  | ((with_reducible refine' r_mod ?h ?_); (case h => walk_at "cond"))
  | ((with_reducible refine' r_fdiv ?h ?_); (case h => first | with_reducible assumption | exact cdiv_lit (by decide) (by decide) | (refine ‹∀ x : Int, CDivW x _› _)))
  | ((with_reducible refine' r_pow ?h ?_); (case h => exact ⟨by walk_at "cond", by walk_at "cond", by walk_at "cond"⟩))
  | ((with_reducible refine' r_ixL ?h ?e ?_); (case h => walk_at "sq"); (case e => first | exact rfl | assumption))
  | ((with_reducible refine' r_ixT ?h ?e ?_); (case h => walk_at "sq"); (case e => first | exact rfl | assumption))
  | ((with_reducible refine' r_setM ?w ?m ?h ?e ?_); (case w => assumption); (case m => simp; done); (case h => walk_at "at"); (case e => exact rfl); intro H' w' h' b')
  | ((with_reducible refine' r_lenL ?h ?_); (case h => walk_at "sq"))
  | ((with_reducible refine' r_lenT ?h ?_); (case h => walk_at "sq"))
  | ((with_reducible refine' r_lenS ?h ?_); (case h => walk_at "size"))
  | ((with_reducible refine' r_ixS ?h ?e ?_); (case h => walk_at "size"); (case e => first | assumption | exact rfl))
  | ((with_reducible refine' r_listL ?h ?_); (case h => walk_at "sq"))
  | ((with_reducible refine' r_listT ?h ?_); (case h => walk_at "sq"))
  | ((with_reducible refine' r_slL ?h ?_); (case h => walk_at "sq"))
  | ((with_reducible refine' r_eqS ?h ?_); (case h => exact rfl))
  | ((with_reducible refine' r_neS ?h ?_); (case h => exact rfl))
  | ((with_reducible refine' r_eqD ?h1 ?h2 ?s1 ?s2 ?_); (case h1 => walk_at "dp"); (case h2 => walk_at "dp"); (case s1 => walk_at "shp"); (case s2 => walk_at "shp"))
  | ((with_reducible refine' r_neD ?h1 ?h2 ?s1 ?s2 ?_); (case h1 => walk_at "dp"); (case h2 => walk_at "dp"); (case s1 => walk_at "shp"); (case s2 => walk_at "shp"))
  | ((with_reducible refine' r_repr ?h ?s ?d ?z ?_); (case h => walk_at "dp"); (case s => walk_at "shw"); (case d => walk_at "shw"); (case z => walk_at "shw"))
  | ((with_reducible refine' r_layM ?w ?l ?_); (case w => assumption); (case l => walk_at "size"); intro p' H' n' w' h' s' d')
  | ((with_reducible refine' r_lay ?w ?l ?_); (case w => assumption); (case l => walk_at "size"); intro p' G' H' n' w' s' h' t')
  | with_reducible refine' r_for ?_ | with_reducible refine' r_lc ?_ | with_reducible refine' r_iList ?_ | with_reducible refine' r_iTup ?_ | with_reducible refine' r_iStr ?_ | with_reducible refine' r_exs ?_
  | with_reducible refine' r_rng1 ?_ | with_reducible refine' r_rng2 ?_ | with_reducible refine' r_iEnum ?_ | with_reducible refine' r_yes ?_ | with_reducible refine' r_inSign ?_
  | ((with_reducible refine' r_rng1R ?a ?b ?_); (case a => walk_at "cond"); (case b => walk_at "cond"))
  | ((with_reducible refine' r_rng2R ?a ?_); (case a => exact ⟨by walk_at "cond", by walk_at "cond", by walk_at "cond", by walk_at "cond"⟩))
  | ((with_reducible refine' r_iListR ?h ?_); (case h => walk_at "sq"))
  | ((with_reducible refine' r_iTupR ?h ?_); (case h => walk_at "sq"))
  | ((with_reducible refine' r_iEnumR ?h ?_); (case h => walk_at "sq"))
  | ((with_reducible refine' r_lcT ?h ?_); (case h => exact rfl))
  | ((with_reducible refine' r_all ?h ?_); (case h => walk_at "sq"))
  | with_reducible refine' r_isi_int_int ?_ | with_reducible refine' r_isi_int_bool ?_ | with_reducible refine' r_isi_int_str ?_ | with_reducible refine' r_isi_int_list ?_ | with_reducible refine' r_isi_int_tuple ?_ | with_reducible refine' r_isi_int_dict ?_ | with_reducible refine' r_isi_bl_int ?_ | with_reducible refine' r_isi_bl_bool ?_ | with_reducible refine' r_isi_bl_str ?_ | with_reducible refine' r_isi_bl_list ?_ | with_reducible refine' r_isi_bl_tuple ?_ | with_reducible refine' r_isi_bl_dict ?_ | with_reducible refine' r_isi_str_int ?_ | with_reducible refine' r_isi_str_bool ?_ | with_reducible refine' r_isi_str_str ?_ | with_reducible refine' r_isi_str_list ?_ | with_reducible refine' r_isi_str_tuple ?_ | with_reducible refine' r_isi_str_dict ?_ | with_reducible refine' r_isi_non_int ?_ | with_reducible refine' r_isi_non_bool ?_ | with_reducible refine' r_isi_non_str ?_ | with_reducible refine' r_isi_non_list ?_ | with_reducible refine' r_isi_non_tuple ?_ | with_reducible refine' r_isi_non_dict ?_
  | ((with_reducible refine' r_isi ?h ?e ?_); (case h => walk_at "ty"); (case e => first | assumption | exact kt_list_int | exact kt_list_bool | exact kt_list_str | exact kt_list_list | exact kt_list_tuple | exact kt_list_dict | exact kt_tuple_int | exact kt_tuple_bool | exact kt_tuple_str | exact kt_tuple_list | exact kt_tuple_tuple | exact kt_tuple_dict | exact kt_dict_int | exact kt_dict_bool | exact kt_dict_str | exact kt_dict_list | exact kt_dict_tuple | exact kt_dict_dict))
  | ((with_reducible refine' r_isiC ?h ?e ?_); (case h => walk_at "ty"); (case e => assumption))
  | ((with_reducible refine' r_inL ?h ?f ?g ?_); (case h => walk_at "sq"); (case f => exact rfl); (case g => first | exact rfl | assumption))
  | ((with_reducible refine' r_inT ?h ?f ?g ?_); (case h => walk_at "sq"); (case f => exact rfl); (case g => first | exact rfl | assumption))
  | ((with_reducible refine' r_ninL ?h ?f ?g ?_); (case h => walk_at "sq"); (case f => exact rfl); (case g => first | exact rfl | assumption))
  | ((with_reducible refine' r_ninT ?h ?f ?g ?_); (case h => walk_at "sq"); (case f => exact rfl); (case g => first | exact rfl | assumption))
  | ((with_reducible refine' r_lcAdd ?w ?s ?h ?l ?i ?_); (case w => assumption); (case s => walk_at "sg"); (case h => walk_at "at"); (case l => assumption); (case i => omega); intro H' w' b')
  | with_reducible refine' r_tFld ?_ | with_reducible refine' r_sFld ?_ | with_reducible refine' r_tProp ?_ | with_reducible refine' r_tMeth ?_ | with_reducible refine' r_tMethK ?_ | with_reducible refine' r_tMake ?_
  | with_reducible refine' r_tBM ?_ | ((with_reducible refine' r_tyL ?h ?_); (case h => walk_at "sq"))
  | ((with_reducible refine' r_appM ?w ?m ?h ?l ?_); (case w => assumption); (case m => simp; done); (case h => walk_at "at"); (case l => walk_at "lsz"); intro H' w' h' b')
  | with_reducible refine' r_tFmt ?_ | with_reducible refine' r_jnil ?_ | with_reducible refine' r_jcons ?_
  | ((with_reducible refine' r_fld ?h ?c ?n ?l ?_); (case h => walk_at "at"); (case c => assumption); (case n => assumption); (case l => exact rfl))
  | ((with_reducible refine' r_setF ?w ?m ?h ?c ?n ?l ?_); (case w => assumption); (case m => simp; done); (case h => walk_at "at"); (case c => assumption); (case n => assumption); (case l => first | decide | exact Nat.le_of_ble_eq_true rfl); intro H' w' h' b')
  | ((with_reducible refine' r_prop ?h ?_); (case h => walk_at "at"))
  | ((with_reducible refine' r_meth ?h ?l ?_); (case h => walk_at "at"); (case l => exact rfl))
  | ((with_reducible refine' r_methK ?h ?l ?_); (case h => walk_at "at"); (case l => exact rfl))
  | ((with_reducible refine' r_fmtS ?h ?_); (case h => walk_at "size"))
  | ((with_reducible refine' r_fmtI ?h ?_); (case h => assumption))
  | ((with_reducible refine' r_jk ?h ?_); (case h => walk_at "js"))
  | ((with_reducible refine' u_isInt ?w ?h ?_); (case w => assumption); (case h => walk_at "kd"); intro G' H' w' s' t')
  | ((with_reducible refine' u_moment ?w ?h ?_); (case w => assumption); (case h => walk_at "kd"); intro G' H' w' s' t')
  | ((with_reducible refine' u_moment0 ?w ?h ?_); (case w => assumption); (case h => walk_at "kd"); intro G' H' w' s' t')
  | ((with_reducible refine' u_isName ?w ?h ?z ?_); (case w => assumption); (case h => walk_at "kd"); (case z => assumption); intro G' H' w' s' t')
  | walk_at "qu")
local macro_rules | `(tactic| walk_at "sg") => `(tactic| first
  | assumption | exact Same.refl _
  | (refine' Same.trans ?a ?b; (case b => assumption); walk_at "sg"))
local macro_rules | `(tactic| walk_at "kd") => `(tactic| first
  | exact kd_int _ | exact kd_bl _ | exact kd_str _ | exact kd_non | assumption
  | (refine' kd_tup ?h; (case h => walk_at "atg"))
  | (refine' kd_lst ?h; (case h => walk_at "atg"))
  | (refine' Kd.same ?h ?s; (case s => assumption); (case h => walk_at "kd")))
local macro_rules | `(tactic| walk_at "ty") => `(tactic| first
  | assumption | exact .base (.int _) | exact .base (.bl _) | exact .base (.str _) | exact .base .non
  | (refine' same_ty ?s ?h; (case s => assumption); (case h => walk_at "ty"))
  | (refine' same_ty ?s ?h; (case s => exact Wd.le (by assumption)); (case h => walk_at "ty")))
local macro_rules | `(tactic| walk_at "shp") => `(tactic| first | assumption | exact shaped_ints _ | exact shaped_nil | decide | (simp [SeqAt.shaped, PyData.canLay0, PyData.canLayAll0, PyData.depth, PyData.depthAll]; done))
local macro_rules | `(tactic| walk_at "shw") => `(tactic| first | assumption | decide | (simp; done))
local macro_rules | `(tactic| walk_at "qq") => `(tactic| repeat walk_at "q")

namespace Q
def top (i : Nat) : Stmt := PySem.Challenge.pw_soundtill_k02_sayings_in_order.main.body.getD i (.Pass ⟨0, 0, 0, 0⟩)
theorem cut63_len (xs : List V) : (cutV xs none (some 63)).length ≤ 63 := by
  unfold cutV
  rw [List.length_take]
  have : HT.sIx xs.length xs.length (some 63) ≤ 63 := by
    simp only [HT.sIx]
    first | omega | (split <;> omega) | (simp; omega)
  omega
/-! ### the pen -/
abbrev sDraw : Stmt := top 24
abbrev nDraw : List Str := ["_law_pen_here", "_law_many", "_law_digit", "_law_at", "_law_cell", "_law_great", "_law_mixed"]
theorem scDraw : FnScope nDraw ["_law_pen_here", "_law_many"] (defScope sDraw) := ⟨rfl, rfl, rfl, by decide +kernel, rfl, by decide +kernel, by decide +kernel⟩
section
variable {P : Program} {w : World} {K : PySem.W.Frag} {mg : Str → Option Value} {base : Heap}
theorem ok_draw {f : Addr} {fd : FuncData} (F : FnP K "_law_draw" "_law_draw" sDraw [] f fd) (T : Bi mg) : FnOk P w K mg base CX0 2 f fd ["_law_pen_here", "_law_many"] spDraw := by
  refine fnP_ok F scDraw (fun vs H Q E h => ?_) (fun cdv A outer s H vs Q E hr h => ?_)
  · obtain ⟨G, p, c, n, many, rfl, _⟩ := h
    rfl
  · obtain ⟨G, p, c, n, many, rfl, sG, gp, hc, hp, hn, h0, hb, k⟩ := h
    have hu64 := hr.units
    refine ⟨_, (pss_cons (ps_if (pt_cmpR q_gt (pe_ix q_ix (pv 0) pe_int (fun _ _ => rfl)) pe_int (nomark _)) (pss_cons (ps_set (i := 2) scDraw.nd rfl (Or.inl rfl) (pe_op q_mod (pe_callTy q_int (by rfl) T.int (by decide +kernel) (pa_cons (pe_ix q_ix (pv 0) pe_int (fun _ _ => rfl)) pa_nil)) (pv 1)))
        (pss_cons (ps_asg (pe_op q_fdiv (pe_callTy q_int (by rfl) T.int (by decide +kernel) (pa_cons (pe_ix q_ix (pv 0) pe_int (fun _ _ => rfl)) pa_nil)) (pv 1)) (pg_sub (pv 0) pe_int set_list))
        (pss_one (ps_ret (pv 2))))) pss_nil)
        (pss_cons (ps_set (i := 3) scDraw.nd rfl (Or.inl rfl) (pe_ix q_ix (pv 0) pe_int (fun _ _ => rfl)))
        (pss_cons (ps_asg (pe_op q_add (pv 3) pe_int) (pg_sub (pv 0) pe_int set_list))
        (pss_cons (ps_set (i := 4) scDraw.nd rfl (Or.inl rfl) (pe_op q_add (pe_op q_mul pe_int (pv 3)) pe_int))
        (Evl.pss_cut (ps_if (pt_cmpR (q_ne hu64) (pe_ix q_ix (pv 0) pe_int (fun _ _ => rfl)) (pe_lst pa_nil) (nomark _)) (pss_one (ps_set (i := 4) scDraw.nd rfl (Or.inl rfl) (pe_ix q_ix (pe_ix q_ix (pv 0) pe_int (fun _ _ => rfl)) (pe_op q_mod (pe_callTy q_int (by rfl) T.int (by decide +kernel) (pa_cons (pv 3) pa_nil)) (pe_callB q_len (by rfl) T.len (by decide +kernel) (pa_cons (pe_ix q_ix (pv 0) pe_int (fun _ _ => rfl)) pa_nil))) (fun _ _ => rfl)))) pss_nil)
        (Evl.pss_cut (ps_if (PW.pt (pw_and (pt_cmpR q_lt (pv 3) (pe_callB q_len (by rfl) T.len (by decide +kernel) (pa_cons (pe_ix q_ix (pv 0) pe_int (fun _ _ => rfl)) pa_nil)) (nomark _)) (pw_and1 (pt_cmpR q_ge (pe_callB q_abs (by rfl) T.abs (by decide +kernel) (pa_cons (pv 4) pa_nil)) (pe_op q_pow pe_int pe_int) (nomark _))))) (pss_cons (ps_set (i := 5) scDraw.nd rfl (Or.inl rfl) (pe_op q_add (pe_op q_mul pe_int (pe_op q_sub (pe_callB q_abs (by rfl) T.abs (by decide +kernel) (pa_cons (pv 4) pa_nil)) (pe_op q_pow pe_int pe_int))) (pe_callTy q_int (by rfl) T.int (by decide +kernel) (pa_cons (pe_cmpR q_lt (pv 4) pe_int (nomark _)) pa_nil))))
        (pss_cons (ps_asg (pe_op q_fdiv (pe_callTy q_int (by rfl) T.int (by decide +kernel) (pa_cons (pv 5) pa_nil)) (pv 1)) (pg_sub (pv 0) pe_int set_list))
        (pss_one (ps_ret (pe_op q_mod (pe_callTy q_int (by rfl) T.int (by decide +kernel) (pa_cons (pv 5) pa_nil)) (pv 1)))))) pss_nil)
        (pss_cons (ps_set (i := 6) scDraw.nd rfl (Or.inl rfl) (pe_op q_mod (pe_callTy q_int (by rfl) T.int (by decide +kernel) (pa_cons (pe_op q_pow (pe_op q_add (pe_op q_add (pe_op q_mod (pe_callTy q_int (by rfl) T.int (by decide +kernel) (pa_cons (pv 4) pa_nil)) pe_int) (pe_op q_mul pe_int (pv 3))) pe_int) pe_int) pa_nil)) pe_int))
        (pss_cons (ps_set (i := 6) scDraw.nd rfl (Or.inl rfl) (pe_op q_mod (pe_callTy q_int (by rfl) T.int (by decide +kernel) (pa_cons (pe_op q_pow (pe_op q_add (pe_op q_add (pe_op q_mul (pv 6) (pe_op q_add (pe_op q_mul pe_int (pv 3)) pe_int)) (pe_op q_mul (pe_op q_mul pe_int (pv 3)) (pv 3))) pe_int) pe_int) pa_nil)) pe_int))
        (pss_one (ps_ret (pe_op q_mod (pe_callTy q_int (by rfl) T.int (by decide +kernel) (pa_cons (pe_op q_fdiv (pv 6) pe_int) pa_nil)) (pv 1)))))))))))), ?_⟩
    have hdw : ∀ x : Int, CDivW x many := fun x => wide_div (b := 300) h0 (by omega) (by decide) (by decide)
    have hm2 : ∀ x : Int, 0 ≤ x % many ∧ x % many < many := fun x => ⟨Int.emod_nonneg _ (by omega), Int.emod_lt_of_pos _ h0⟩
    obtain ⟨at_, g, h1, ha, hg⟩ := hp
    obtain ⟨ns, h2, hl⟩ := hc
    have w0 : Wd ⟨H, G, [p]⟩ G H [p] := wd_start sG (fun a h => by rw [List.mem_singleton.mp h]; exact ⟨gp, _, h1⟩) (by simp)
    have fin : ∀ (x g' : Int) (m : Nat) (G' H' : Hp) (M : List Addr), Wd ⟨H, G, [p]⟩ G' H' M → H' p = some (.lst [.ref c, .int m, .int g']) → m ≤ n + 1 → 0 ≤ g' → Q (.int (x % many)) H' := fun x g' m G' H' M w' e1 e2 e3 =>
      retP_of k w' ⟨m, g', e1, e2, e3⟩ ⟨_, rfl, hm2 x⟩
    have hat : (at_ : Int) ≤ 1048576 := by omega
    walk_at "qq"
    refine ite2 (fun hg0 => ?_) (fun hg0 => ?_)
    · walk_at "qq"
      exact fin _ _ at_ G _ [p] (by assumption) (by walk_at "at") (by omega) (Int.ediv_nonneg hg (by omega))
    walk_at "qq"
    refine ⟨fun σ' H' => ∃ (cell : Int) (G' : Hp), σ' = [some (.ref p), some (.int many), none, some (.int at_), some (.int cell), none, none] ∧
      Wd ⟨H, G, [p]⟩ G' H' [p] ∧ Same G G' ∧ H' p = some (.lst [.ref c, .int (at_ + 1), .int g]), ?_, ?_⟩
    · walk_at "qq"
      rw [eqv_nil]
      cases ns with
      | nil =>
        refine iteF ?_
        walk_at "qq"
        exact ⟨_, _, rfl, by assumption, by assumption, by walk_at "at"⟩
      | cons n0 nr =>
        obtain ⟨z, hz⟩ := at_mod_ints (ns := n0 :: nr) at_ (by simp)
        have hpos : (0 : Int) < ((List.map V.int (n0 :: nr)).length : Int) := by simp
        refine iteT ?_
        walk_at "qq"
        exact ⟨_, _, rfl, by assumption, by assumption, by walk_at "at"⟩
    · rintro σ' H' ⟨cell, G1, rfl, w1, s1, h1⟩
      walk_at "qq"
      refine ⟨fun σ' H2 => σ' = [some (.ref p), some (.int many), none, some (.int at_), some (.int cell), none, none] ∧ H2 = H', ?_, ?_⟩
      · walk_at "qq"
        refine ite2 (fun h3 => ?_) (fun _ => ?_)
        · walk_at "qq"
          refine ite2 (fun h4 => ?_) (fun _ => ?_)
          · walk_at "qq"
            have h5 := of_decide_eq_true h4
            refine fin _ _ (at_ + 1) G1 _ [p] (by assumption) (by walk_at "at") (by omega) (Int.ediv_nonneg ?_ (by omega))
            have e : (10 : Int) ^ Int.toNat 18 = 1000000000000000000 := by decide
            rw [e] at h5 ⊢
            have e2 : (0 : Int) ≤ if decide (cell < 0) = true then 1 else 0 := by split <;> decide
            omega
          · walk_at "qq"
            exact ⟨rfl, rfl⟩
        · walk_at "qq"
          exact ⟨rfl, rfl⟩
      · rintro σ' H2 ⟨rfl, rfl⟩
        walk_at "qq"
        refine r_pow ⟨by decide, by decide, pow_small (by omega) (by omega) (by omega) (by omega) (by decide) (by decide) (by omega) (by omega) (by decide) (by decide)⟩ ?_
        walk_at "qq"
        exact fin _ _ (at_ + 1) G1 _ [p] w1 h1 (by omega) hg
end

/-! ### the pen made, a pick -/
section
variable {P : Program} {w : World} {K : PySem.W.Frag} {mg : Str → Option Value} {base : Heap}
abbrev sPen : Stmt := top 23
abbrev nPen : List Str := ["_law_script"]
theorem scPen : FnScope nPen ["_law_script"] (defScope sPen) := ⟨rfl, rfl, rfl, by decide +kernel, rfl, by decide +kernel, by decide +kernel⟩
theorem ok_pen {f : Addr} {fd : FuncData} (F : FnP K "_law_pen" "_law_pen" sPen [] f fd) (T : Bi mg) : FnOk P w K mg base CX0 1 f fd ["_law_script"] (spPen K) := by
  refine fnP_ok F scPen (fun vs H Q E h => ?_) (fun cdv A outer s H vs Q E hr h => ?_)
  · obtain ⟨G, a, ns, rfl, _⟩ := h
    rfl
  · obtain ⟨G, a, ns, rfl, sG, ha, hl, k⟩ := h
    have hu64 := hr.units
    refine ⟨_, (pss_one (ps_ret (pe_lstM (pa_cons (pe_callTy q_list (by rfl) T.list (by decide +kernel) (pa_cons (pe_slice sl_list (pv 0) po_none (po_some pe_int)) pa_nil)) (pa_cons pe_int (pa_cons pe_int pa_nil)))))), ?_⟩
    have w0 := wd_pure sG
    obtain ⟨ms, hms⟩ := cutV_ints ns none (some 63)
    have hml : ms.length ≤ 63 := by
      have e := congrArg List.length hms
      rw [List.length_map] at e
      rw [← e]
      exact cut63_len _
    walk_at "qq"
    rename_i p3 H3 n3 w3 h3 s3 d3
    have mu := w3.mu p3 List.mem_cons_self
    refine k p3 _ _ H3 (fun a o h => w3.kp a o (by simp) h) w3.le w3.gr w3.fr mu.1 ?_ ⟨ms, ?_, hml⟩ ⟨0, 0, h3, Nat.le_refl _, Int.le_refl _⟩
    · rcases mu.2.2 with h | h
      · exact h
      · simp at h
    · rw [← hms]
      walk_at "at"
abbrev sPick : Stmt := top 25
abbrev nPick : List Str := ["_law_pen_here", "_law_some"]
theorem scPick : FnScope nPick ["_law_pen_here", "_law_some"] (defScope sPick) := ⟨rfl, rfl, rfl, by decide +kernel, rfl, by decide +kernel, by decide +kernel⟩
theorem ok_pick {f : Addr} {fd : FuncData} (F : FnP K "_law_pick" "_law_pick" sPick [] f fd) (T : Bi mg) (Dd : Df P w K mg base CX0 2 "_law_draw" [] spDraw) : FnOk P w K mg base CX0 3 f fd ["_law_pen_here", "_law_some"] (spPick K) := by
  refine fnP_ok F scPick (fun vs H Q E h => ?_) (fun cdv A outer s H vs Q E hr h => ?_)
  · obtain ⟨G, p, c, n, z, xs, rfl, _⟩ := h
    rfl
  · obtain ⟨G, p, c, n, z, xs, rfl, sG, gp, hc, hp, hn, hs, h0, hb, k⟩ := h
    have hu64 := hr.units
    refine ⟨_, (pss_one (ps_ret (pe_ix q_ix (pv 1) (pe_callD Dd hr pass0 (pa_cons (pv 0) (pa_cons (pe_callB q_len (by rfl) T.len (by decide +kernel) (pa_cons (pv 1) pa_nil)) pa_nil))) (fun _ _ => rfl)))), ?_⟩
    have w0 : Wd ⟨H, G, [p]⟩ G H [p] := by
      obtain ⟨a, g, h1, _⟩ := hp
      exact wd_start sG (fun a h => by rw [List.mem_singleton.mp h]; exact ⟨gp, _, h1⟩) (by simp)
    have hlen : 0 < xs.length := by cases xs with
      | nil => exact absurd rfl h0
      | cons _ _ => simp
    rcases hs with ⟨l, rfl, hl⟩ | ⟨z, rfl, hz, rfl⟩
    · rcases hl with hl | hl
      · walk_at "qq"
        refine u_draw w0 (by simp) hc hp hn (by omega) (by omega) fun d G' H' w' s' b' P' d0 d1 => ?_
        obtain ⟨j, rfl⟩ := Int.eq_ofNat_of_zero_le d0
        have hj : j < xs.length := by omega
        have hx := List.getElem?_eq_getElem hj
        have hat := atI_nat hx
        walk_at "qq"
        exact retP_of k w' P' (List.getElem_mem hj)
      · walk_at "qq"
        refine u_draw w0 (by simp) hc hp hn (by omega) (by omega) fun d G' H' w' s' b' P' d0 d1 => ?_
        obtain ⟨j, rfl⟩ := Int.eq_ofNat_of_zero_le d0
        have hj : j < xs.length := by omega
        have hx := List.getElem?_eq_getElem hj
        have hat := atI_nat hx
        walk_at "qq"
        exact retP_of k w' P' (List.getElem_mem hj)
    · have hzl : z.cps.toList.length = z.length := by simp [Str.length]
      rw [List.length_map, hzl] at hlen
      walk_at "qq"
      refine u_draw w0 (by simp) hc hp hn (by omega) (by omega) fun d G' H' w' s' b' P' d0 d1 => ?_
      obtain ⟨j, rfl⟩ := Int.eq_ofNat_of_zero_le d0
      have hj : j < z.cps.toList.length := by omega
      have hx := List.getElem?_eq_getElem hj
      have hat := atI_nat hx
      walk_at "qq"
      exact retP_of k w' P' (List.mem_map.mpr ⟨_, List.getElem_mem hj, rfl⟩)
end

/-! ### names and moments -/
section
variable {P : Program} {w : World} {K : PySem.W.Frag} {mg : Str → Option Value} {base : Heap}
abbrev sIsInt : Stmt := top 14
abbrev nIsInt : List Str := ["thing"]
theorem scIsInt : FnScope nIsInt ["thing"] (defScope sIsInt) := ⟨rfl, rfl, rfl, by decide +kernel, rfl, by decide +kernel, by decide +kernel⟩
theorem ok_isInt {f : Addr} {fd : FuncData} (F : FnP K "is_integer" "is_integer" sIsInt [] f fd) (T : Bi mg) : FnOk P w K mg base CX0 1 f fd ["thing"] (spIsInt K) := by
  refine fnP_ok F scIsInt (fun vs H Q E h => ?_) (fun cdv A outer s H vs Q E hr h => ?_)
  · obtain ⟨G, x, t, rfl, _⟩ := h
    rfl
  · obtain ⟨G, x, t, rfl, sG, hx, k⟩ := h
    have hu64 := hr.units
    refine ⟨_, (pss_one (ps_ret (pe_and (pe_callB call_isi (by rfl) T.isinstance (by decide +kernel) (pa_cons (pv 0) (pa_cons (pe_bltn (v := .ty "int") (by rfl) T.int (by decide +kernel) rfl) pa_nil))) (pe_one (pe_not (pe_callB call_isi (by rfl) T.isinstance (by decide +kernel) (pa_cons (pv 0) (pa_cons (pe_bltn (v := .ty "bool") (by rfl) T.bool (by decide +kernel) rfl) pa_nil)))))))), ?_⟩
    have w0 := wd_pure sG
    have h1 := same_ty sG hx.ty
    have h2 := hx.int
    have h3 := hx.bool
    walk_at "qq"
    cases x <;> first
      | (refine iteF ?_; exact ret_of k w0 rfl)
      | (refine iteT ?_; walk_at "qq"; exact ret_of k (by assumption) rfl)
abbrev sMoment : Stmt := top 15
abbrev nMoment : List Str := ["thing", "least"]
theorem scMoment : FnScope nMoment ["thing", "least"] (defScope sMoment) := ⟨rfl, rfl, rfl, by decide +kernel, rfl, by decide +kernel, by decide +kernel⟩
theorem ok_moment {f : Addr} {fd : FuncData} (F : FnP K "is_moment" "is_moment" sMoment [.int 0] f fd) (T : Bi mg) (C : Nm K mg) (D1 : Df P w K mg base CX0 1 "is_integer" [] (spIsInt K)) : FnOk P w K mg base CX0 2 f fd ["thing", "least"] (spMoment K) := by
  refine fnP_ok F scMoment (fun vs H Q E h => ?_) (fun cdv A outer s H vs Q E hr h => ?_)
  · obtain ⟨G, x, t, l, rfl, _⟩ := h
    rfl
  · obtain ⟨G, x, t, l, rfl, sG, hx, k⟩ := h
    have hu64 := hr.units
    refine ⟨_, (pss_one (ps_ret (pe_and (pe_callD D1 hr pass0 (pa_cons (pv 0) pa_nil)) (pe_one (pe_chain q_le q_le (pv 1) (pv 0) (pe_gc C.MOST_MOMENT)))))), ?_⟩
    have w0 := wd_pure sG
    walk_at "qq"
    cases x <;> first
      | (refine iteF ?_; exact ret_of k (by assumption) rfl)
      | skip
    refine iteT ?_
    walk_at "qq"
    refine ite2 (fun c1 => ?_) (fun c1 => ?_)
    · walk_at "qq"
      refine ret_of k (by assumption) ?_
      show V.bl _ = V.bl (_ && _)
      rw [c1] <;> rfl
    · refine ret_of k (by assumption) ?_
      show V.bl _ = V.bl (_ && _)
      rw [Bool.eq_false_iff.mpr c1] <;> rfl
abbrev sIsName : Stmt := top 16
abbrev nIsName : List Str := ["thing", "sign"]
theorem scIsName : FnScope nIsName ["thing"] (defScope sIsName) := ⟨rfl, rfl, rfl, by decide +kernel, rfl, by decide +kernel, by decide +kernel⟩
theorem ok_isName {f : Addr} {fd : FuncData} (F : FnP K "is_name" "is_name" sIsName [] f fd) (T : Bi mg) (C : Nm K mg) : FnOk P w K mg base CX0 1 f fd ["thing"] (spIsName K) := by
  refine fnP_ok F scIsName (fun vs H Q E h => ?_) (fun cdv A outer s H vs Q E hr h => ?_)
  · obtain ⟨G, x, t, rfl, _⟩ := h
    rfl
  · obtain ⟨G, x, t, rfl, sG, hx, hz, k⟩ := h
    have hu64 := hr.units
    obtain ⟨ar, hres, hresT⟩ := C.RESERVED
    refine ⟨_, (Evl.pss_cut (ps_if (PW.pt (pw_or (pt_not (pt_val (pe_callB call_isi (by rfl) T.isinstance (by decide +kernel) (pa_cons (pv 0) (pa_cons (pe_bltn (v := .ty "str") (by rfl) T.str (by decide +kernel) rfl) pa_nil))))) (pw_or (pt_not (pt_chain q_le q_le pe_int (pe_callB q_len (by rfl) T.len (by decide +kernel) (pa_cons (pv 0) pa_nil)) (pe_gc C.MOST_SIGNS))) (pw_or1 (pt_cmpR op_in_seq (pv 0) (pe_gc hres) (by rfl)))))) (pss_one (ps_ret pe_bl)) pss_nil)
        (pss_one (ps_ret (pe_and (pe_cmpR q_inSign (pe_ix q_ix (pv 0) pe_int (fun _ _ => rfl)) (pe_gc C.LETTERS) (by rfl)) (pe_one (pe_callB (cr_all rfl) (by rfl) T.all (by decide +kernel) (pa_cons (pe_lc (own := [("sign", 1)]) (g := gName 1) (tt := tYes) rfl scIsName.nd (pi_str (pv 0)) (blkOk_by (own := [("sign", 1)]) (N := nIsName) (sc := defScope sIsName) (by decide +kernel)) (fun _ _ _ _ _ => (pg_name (i := 1) scIsName.nd rfl (Or.inl rfl))) (fun _ _ _ _ _ => pts_nil) (fun _ _ _ _ _ => (pe_or (pe_cmpR q_inSign (pv 1) (pe_gc C.LETTERS) (by rfl)) (pe_one (pe_cmpR q_inSign (pv 1) (pe_gc C.FIGURES) (by rfl)))))) pa_nil))))))), ?_⟩
    have w0 := wd_pure sG
    have h1 := same_ty sG hx.ty
    have h2 := hx.str
    walk_at "qq"
    have no : nameV x = false → ∀ (G' H' : Hp), Wd ⟨H, G, []⟩ G' H' [] → Q (.bl false) H' := fun e G' H' w' => ret_of k w' (by rw [e])
    refine ⟨fun σ' H' => ∃ (z : Str) (c : Nat) (r : List Nat), x = .str z ∧ σ' = [some x, none] ∧ H' = H ∧ z.length ≤ 8 ∧ z.cps.toList = c :: r ∧ nameV x = (letB c && z.cps.toList.all fun c => letB c || figB c), ?_, ?_⟩
    · walk_at "qq"
      cases x with
      | str z =>
        refine iteF ?_
        have hz1 : z.length ≤ 1000000 := hz z rfl
        walk_at "qq"
        have hv : nameV (.str z) = nmOk z := rfl
        have hr1 := hresT H
        refine ite_d (fun c1 => ?_) (fun c1 => ?_)
        · walk_at "qq"
          refine ite_nd (fun c2 => ?_) (fun c2 => ?_)
          · walk_at "qq"
            exact no (by rw [hv]; unfold nmOk; rw [decide_eq_false (by omega : ¬ z.length ≤ 8)]; simp) _ _ w0
          · walk_at "qq"
            refine ite_b (fun c3 => ?_) (fun c3 => ?_)
            · walk_at "qq"
              exact no (by rw [hv]; unfold nmOk; rw [c3]; simp) _ _ w0
            · walk_at "qq"
              cases hc : z.cps.toList with
              | nil =>
                have e : z.length = 0 := by
                  have := congrArg List.length hc
                  simpa [Str.length] using this
                omega
              | cons a r =>
                refine ⟨z, a, r, rfl, rfl, rfl, by omega, hc, ?_⟩
                rw [hv]
                unfold nmOk
                rw [c3, decide_eq_true (by omega : 1 ≤ z.length), decide_eq_true (by omega : z.length ≤ 8), hc]
                rfl
        · walk_at "qq"
          exact no (by rw [hv]; unfold nmOk; rw [decide_eq_false (by omega : ¬ 1 ≤ z.length)]; simp) _ _ w0
      | _ =>
        refine iteT ?_
        walk_at "qq"
        exact no rfl _ _ w0
    · rintro σ' H' ⟨z, c, r, rfl, rfl, rfl, hz8, hc, hv⟩
      have hz1 : z.length ≤ 1000000 := by omega
      have h0 : atI z.cps.toList 0 = some c := by rw [hc]; exact atI_0 c r
      have hv : nameV (.str z) = (letB c && z.cps.toList.all fun c => letB c || figB c) := hv
      walk_at "qq"
      refine ite_d (fun c1 => ?_) (fun c1 => ?_)
      · have e1 : letB c = true := decide_eq_true c1
        walk_at "qq"
        refine lc_go w0 walk_str (fun i acc _ _ => acc = ((z.cps.toList.take i).map fun c => letB c || figB c).map V.bl) (fun _ _ _ _ _ => rfl) (fun _ _ _ _ _ _ _ => trivial) ?_ ?_
        · rintro Dd i acc Gi H2 x H3 hi hl w2 s2 hD nm rfl ⟨rfl, c', hc', rfl⟩
          have hi' : i ≤ 1000000 := by have e : z.cps.size = z.length := rfl; omega
          have hc2 : z.cps.toList[i]? = some c' := by simpa using hc'
          have fin : ∀ b : Bool, b = (letB c' || figB c') → ((z.cps.toList.take i).map fun c => letB c || figB c).map V.bl ++ [V.bl b] = ((z.cps.toList.take (i + 1)).map fun c => letB c || figB c).map V.bl := fun b e => by
            rw [take_map_snoc _ hc2, List.map_append, e]
            rfl
          walk_at "qq"
          refine ite_d (fun c2 => ?_) (fun c2 => ?_)
          · walk_at "qq"
            exact fin true (by have e2 : letB c' = true := decide_eq_true c2; rw [e2] <;> rfl)
          · walk_at "qq"
            exact fin _ (by have e2 : letB c' = false := decide_eq_false c2; rw [e2] <;> rfl)
        · rintro p acc Gi Gp H2 hl w2 s2 s3 hp rfl
          walk_at "qq"
          refine ret_of k w2 ?_
          rw [hv, e1, List.take_of_length_le (by simp)]
          simp [List.all_map, Function.comp_def]
      · exact ret_of k w0 (by rw [hv]; have e1 : letB c = false := decide_eq_false c1; rw [e1] <;> rfl)
end

/-! ### sayings -/
section
variable {P : Program} {w : World} {K : PySem.W.Frag} {mg : Str → Option Value} {base : Heap} {C : Addr}
abbrev sSayInit : Stmt := inClass (top 21) 1
abbrev nSayInit : List Str := ["self", "tool", "moment", "is_sound"]
theorem scSayInit : FnScope nSayInit ["self", "tool", "moment", "is_sound"] (defScope sSayInit) := ⟨rfl, rfl, rfl, by decide +kernel, rfl, by decide +kernel, by decide +kernel⟩
theorem ok_sayInit {f : Addr} {fd : FuncData} (F : FnP K "__init__" "Saying.__init__" sSayInit [] f fd) (T : Bi mg) (S : SyC K C) (Dn : Df P w K mg base CX0 1 "is_name" [] (spIsName K)) (Dm : Df P w K mg base CX0 2 "is_moment" [.int 0] (spMoment K)) :
    FnOk P w K mg base CX0 3 f fd ["self", "tool", "moment", "is_sound"] (spSayInit C) := by
  refine fnP_ok F scSayInit (fun vs H Q E h => ?_) (fun cdv A outer s H vs Q E hr h => ?_)
  · obtain ⟨G, x, dx, z, i, b, rfl, _⟩ := h
    rfl
  · obtain ⟨G, x, dx, z, i, b, rfl, sG, gx, hx, hright, k⟩ := h
    have hu64 := hr.units
    have cc := S.c
    have n1 := S.n1
    have n2 := S.n2
    have n3 := S.n3
    have n4 := S.n4
    refine ⟨_, (pss_cons (ps_if (pt_not (pt_val (pe_callD Dn hr pass0 (pa_cons (pv 1) pa_nil)))) (pss_one ps_never) pss_nil)
        (pss_cons (ps_if (pt_not (pt_val (pe_callD Dm hr pass0 (pa_cons (pv 2) pa_nil)))) (pss_one ps_never) pss_nil)
        (pss_cons (ps_if (pt_not (pt_val (pe_callB call_isi (by rfl) T.isinstance (by decide +kernel) (pa_cons (pv 3) (pa_cons (pe_bltn (v := .ty "bool") (by rfl) T.bool (by decide +kernel) rfl) pa_nil))))) (pss_one ps_never) pss_nil)
        (pss_cons (ps_fld (pv 0) (pv 1) rfl)
        (pss_cons (ps_fld (pv 0) (pv 2) rfl)
        (pss_cons (ps_fld (pv 0) (pv 3) rfl)
        (pss_one (ps_fld (pv 0) (pe_tup (pa_cons (pv 1) (pa_cons (pv 2) (pa_cons (pv 3) pa_nil)))) rfl)))))))), ?_⟩
    have w0 : Wd ⟨H, G, [x]⟩ G H [x] := wd_start sG (fun a h => by rw [List.mem_singleton.mp h]; exact ⟨gx, _, hx⟩) (by simp)
    have hz : ∀ y, V.str z = .str y → y.length ≤ 1000000 := fun y e => by cases e; have := hright.len; omega
    walk_at "qq"
    rw [hright.name]
    walk_at "qq"
    rw [hright.mom]
    walk_at "qq"
    rename_i H5 w5 h5 b5
    refine k _ H5 _ (fun a o hn h => w5.kp a o (by simpa using hn) h) w5.le w5.gr w5.fr ?_ h5
    walk_at "atg"
abbrev sSayAhead : Stmt := inClass (top 21) 7
abbrev nSayAhead : List Str := ["self", "other"]
theorem scSayAhead : FnScope nSayAhead ["self", "other"] (defScope sSayAhead) := ⟨rfl, rfl, rfl, by decide +kernel, rfl, by decide +kernel, by decide +kernel⟩
theorem ok_sayAhead {f : Addr} {fd : FuncData} (F : FnP K "is_ahead" "Saying.is_ahead" sSayAhead [] f fd) (S : SyC K C) : FnOk P w K mg base CX0 1 f fd ["self", "other"] (spAhead C) := by
  refine fnP_ok F scSayAhead (fun vs H Q E h => ?_) (fun cdv A outer s H vs Q E hr h => ?_)
  · obtain ⟨G, a, c, z, i, b, z', i', b', rfl, _⟩ := h
    rfl
  · obtain ⟨G, a, c, z, i, b, z', i', b', rfl, sG, ⟨hr1, dx, fc, ha, hf⟩, ⟨hr2, dx', fc', hc, hf'⟩, k⟩ := h
    have hu64 := hr.units
    have cc := S.c
    have n4 := S.n4
    refine ⟨_, (pss_one (ps_ret (pe_cmpR (q_ltD hu64) (pe_fld (pv 0) rfl) (pe_fld (pv 1) rfl) (nomark _)))), ?_⟩
    have w0 := wd_pure sG
    have d1 : Dp K H (.ref fc) (faceD z i b) := by unfold faceD; walk_at "dp"
    have d2 : Dp K H (.ref fc') (faceD z' i' b') := by unfold faceD; walk_at "dp"
    walk_at "qq"
    exact r_ltD d1 d2 alike_face ne_face depth_face (ret_of k w0 rfl)
end

section
variable {P : Program} {w : World} {K : PySem.W.Frag} {mg : Str → Option Value} {base : Heap} {C : Addr}
abbrev sSayEq : Stmt := inClass (top 21) 10
abbrev nSayEq : List Str := ["self", "other"]
theorem scSayEq : FnScope nSayEq ["self", "other"] (defScope sSayEq) := ⟨rfl, rfl, rfl, by decide +kernel, rfl, by decide +kernel, by decide +kernel⟩
theorem ok_sayEq {f : Addr} {fd : FuncData} (F : FnP K "__eq__" "Saying.__eq__" sSayEq [] f fd) (T : Bi mg) (S : SyC K C) (hSay : Gc mg "Saying" (.ref C)) : FnOk P w K mg base CX0 1 f fd ["self", "other"] (spSayEq K C) := by
  refine fnP_ok F scSayEq (fun vs H Q E h => ?_) (fun cdv A outer s H vs Q E hr h => ?_)
  · obtain ⟨G, a, z, i, b, y, r, rfl, _⟩ := h
    rfl
  · obtain ⟨G, a, z, i, b, y, r, rfl, sG, ⟨hr1, dx, fc, ha, hf⟩, hy, k⟩ := h
    have hu64 := hr.units
    have cc := S.c
    have n4 := S.n4
    refine ⟨_, (pss_one (ps_ret (pe_and (pe_callB call_isi (by rfl) T.isinstance (by decide +kernel) (pa_cons (pv 1) (pa_cons (pe_gc hSay) pa_nil))) (pe_one (pe_cmpR (q_eq hu64) (pe_fld (pv 0) rfl) (pe_fld (pv 1) rfl) (nomark _)))))), ?_⟩
    have w0 := wd_pure sG
    rcases hy with ⟨t, ht, hk, rfl⟩ | ⟨c, z', i', b', rfl, hs, rfl⟩
    · have ht1 := same_ty sG ht
      walk_at "qq"
      exact ret_of k w0 rfl
    · have ht1 := same_ty sG (S.ty hs)
      have hk := S.me
      obtain ⟨hr2, dx', fc', hc, hf'⟩ := hs
      have d1 : Dp K H (.ref fc) (faceD z i b) := by unfold faceD; walk_at "dp"
      have d2 : Dp K H (.ref fc') (faceD z' i' b') := by unfold faceD; walk_at "dp"
      walk_at "qq"
      refine r_eqD d1 d2 (shaped_face hr1) (shaped_face hr2) (ret_of k w0 rfl)
abbrev sSayStr : Stmt := inClass (top 21) 11
abbrev nSayStr : List Str := ["self", "truth"]
theorem scSayStr : FnScope nSayStr ["self"] (defScope sSayStr) := ⟨rfl, rfl, rfl, by decide +kernel, rfl, by decide +kernel, by decide +kernel⟩
theorem ok_sayStr {f : Addr} {fd : FuncData} (F : FnP K "__str__" "Saying.__str__" sSayStr [] f fd) (S : SyC K C) : FnOk P w K mg base CX0 1 f fd ["self"] (spSayStr C) := by
  refine fnP_ok F scSayStr (fun vs H Q E h => ?_) (fun cdv A outer s H vs Q E hr h => ?_)
  · obtain ⟨G, a, z, i, b, rfl, _⟩ := h
    rfl
  · obtain ⟨G, a, z, i, b, rfl, sG, ⟨hr1, dx, fc, ha, hf⟩, hright, k⟩ := h
    have hu64 := hr.units
    have cc := S.c
    have n1 := S.n1
    have n2 := S.n2
    have n3 := S.n3
    refine ⟨_, (pss_cons (ps_set (i := 1) scSayStr.nd rfl (Or.inl rfl) (pe_ifExp (pt_val (pe_fld (pv 0) rfl)) pe_str pe_str))
        (pss_one (ps_ret (pe_joined (PJ.cons (pe_fmt (pe_fld (pv 0) rfl)) (PJ.cons pe_str (PJ.cons (pe_fmt (pe_fld (pv 0) rfl)) (PJ.cons pe_str (PJ.cons (pe_fmt (pv 1)) PJ.nil))))))))), ?_⟩
    have w0 := wd_pure sG
    have l1 := hright.len
    have l2 := lenZ hright.2.1 hright.2.2
    have l3 := logZ hright.2.1 hright.2.2
    have e0 : Str.empty.length = 0 := rfl
    have e1 : (Str.ofString " ").length = 1 := rfl
    have e2 : (Str.ofString "sound").length = 5 := rfl
    have e3 : (Str.ofString "unsound").length = 7 := rfl
    walk_at "qq"
    cases b
    · refine iteF ?_
      walk_at "qq"
      exact ret_of k w0 rfl
    · refine iteT ?_
      walk_at "qq"
      exact ret_of k w0 rfl
abbrev sSayPoint : Stmt := inClass (top 21) 5
abbrev nSayPoint : List Str := ["self"]
theorem scSayPoint : FnScope nSayPoint ["self"] (defScope sSayPoint) := ⟨rfl, rfl, rfl, by decide +kernel, rfl, by decide +kernel, by decide +kernel⟩
theorem ok_sayPoint {f : Addr} {fd : FuncData} (F : FnP K "point" "Saying.point" sSayPoint [] f fd) (S : SyC K C) : FnOk P w K mg base CX0 1 f fd ["self"] (spPoint C) := by
  refine fnP_ok F scSayPoint (fun vs H Q E h => ?_) (fun cdv A outer s H vs Q E hr h => ?_)
  · obtain ⟨G, a, z, i, b, rfl, _⟩ := h
    rfl
  · obtain ⟨G, a, z, i, b, rfl, sG, ⟨hr1, dx, fc, ha, hf⟩, k⟩ := h
    have hu64 := hr.units
    have cc := S.c
    have n1 := S.n1
    have n2 := S.n2
    refine ⟨_, (pss_one (ps_ret (pe_tup (pa_cons (pe_fld (pv 0) rfl) (pa_cons (pe_fld (pv 0) rfl) pa_nil))))), ?_⟩
    have w0 := wd_pure sG
    walk_at "qq"
    exact ret_of k (by assumption) ⟨_, rfl, by walk_at "atg"⟩
end

/-! ### the law -/

def FaceAt (G : Hp) (v : V) : Prop := ∃ (a : Addr) (z : Str) (i : Int) (b : Bool), v = .ref a ∧ G a = some (.tup [.str z, .int i, .bl b]) ∧ Right z i
theorem FaceAt.same {G G' : Hp} {v : V} (h : FaceAt G v) (s : Same G G') : FaceAt G' v := by
  obtain ⟨a, z, i, b, h1, h2, h3⟩ := h
  exact ⟨a, z, i, b, h1, s _ _ h2, h3⟩
def PairAt (C : Addr) (G : Hp) (u v : V) : Prop := ∃ (fa a : Addr) (z : Str) (i : Int) (b : Bool), u = .ref a ∧ v = .ref fa ∧ SayAt C G a z i b ∧ G fa = some (.tup [.str z, .int i, .bl b])
theorem PairAt.same {C : Addr} {G G' : Hp} {u v : V} (h : PairAt C G u v) (s : Same G G') : PairAt C G' u v := by
  obtain ⟨fa, a, z, i, b, h1, h2, h3, h4⟩ := h
  exact ⟨fa, a, z, i, b, h1, h2, h3.same s, s _ _ h4⟩
def spFace : Sp := fun vs H Q _ => ∃ (G : Hp) (p c : Addr) (n : Nat), vs = [.ref p] ∧ Same G H ∧ G p = none ∧ Cells c G ∧ PenAt p c n H ∧ n ≤ 1048000 ∧ RetP p c (n + 4) G H (fun v G' => FaceAt G' v) Q
theorem u_face {e : En} {G H : Hp} {M : List Addr} {p c : Addr} {n : Nat} {Q : VK} {E : XK} (w : Wd e G H M) (hm : p ∈ M) (hc : Cells c G) (P : PenAt p c n H) (hn : n ≤ 1048000)
    (k : ∀ (v : V) (G' H' : Hp), Wd e G' H' M → Same G G' → But p H H' → PenAt p c (n + 4) H' → FaceAt G' v → Q v H') : spFace [.ref p] H Q E :=
  ⟨G, p, c, n, rfl, w.le, (w.mu p hm).1, hc, P, hn, retP_use w hm k⟩
section
variable {P : Program} {w : World} {K : PySem.W.Frag} {mg : Str → Option Value} {base : Heap} {C : Addr}
abbrev sFace : Stmt := top 26
abbrev nFace : List Str := ["_law_pen_here", "_law_word", "_law_tick"]
theorem scFace : FnScope nFace ["_law_pen_here"] (defScope sFace) := ⟨rfl, rfl, rfl, by decide +kernel, rfl, by decide +kernel, by decide +kernel⟩
theorem ok_face {f : Addr} {fd : FuncData} (F : FnP K "_law_drawn" "_law_drawn" sFace [] f fd) (T : Bi mg) (Dd : Df P w K mg base CX0 2 "_law_draw" [] spDraw) (Dp : Df P w K mg base CX0 3 "_law_pick" [] (spPick K)) :
    FnOk P w K mg base CX0 4 f fd ["_law_pen_here"] spFace := by
  refine fnP_ok F scFace (fun vs H Q E h => ?_) (fun cdv A outer s H vs Q E hr h => ?_)
  · obtain ⟨G, p, c, n, rfl, _⟩ := h
    rfl
  · obtain ⟨G, p, c, n, rfl, sG, gp, hc, hp, hn, k⟩ := h
    have hu64 := hr.units
    have w0 : Wd ⟨H, G, [p]⟩ G H [p] := by
      obtain ⟨a, g, h1, _⟩ := id hp
      exact wd_start sG (fun a h => by rw [List.mem_singleton.mp h]; exact ⟨gp, _, h1⟩) (by simp)
    have e30 : (10 : Int) ^ Int.toNat 30 = 1000000000000000000000000000000 := by decide
    refine ⟨_, (pss_cons (ps_set (i := 1) scFace.nd rfl (Or.inl rfl) (pe_callD Dp hr pass0 (pa_cons (pv 0) (pa_cons (pe_lst (pa_cons pe_str (pa_cons pe_str (pa_cons pe_str (pa_cons pe_str (pa_cons pe_str (pa_cons pe_str pa_nil))))))) pa_nil))))
        (pss_cons (ps_set (i := 2) scFace.nd rfl (Or.inl rfl) (pe_callD Dp hr pass0 (pa_cons (pv 0) (pa_cons (pe_lst (pa_cons pe_int (pa_cons pe_int (pa_cons pe_int (pa_cons pe_int (pa_cons pe_int (pa_cons (pe_op q_pow pe_int pe_int) (pa_cons (pe_op q_sub (pe_op q_pow pe_int pe_int) pe_int) (pa_cons (pe_callD Dd hr pass0 (pa_cons (pv 0) (pa_cons (pe_op q_pow pe_int pe_int) pa_nil))) pa_nil))))))))) pa_nil))))
        (pss_one (ps_ret (pe_tup (pa_cons (pv 1) (pa_cons (pv 2) (pa_cons (pe_cmpR (q_eq hu64) (pe_callD Dd hr pass0 (pa_cons (pv 0) (pa_cons pe_int pa_nil))) pe_int (nomark _)) pa_nil)))))))), ?_⟩
    walk_at "qq"
    rename_i l1 G1 H1 n1 w1 s1 h1 t1
    refine u_pick w1 (by simp) (hc.same s1) (hp.same t1) (by omega) (.inl ⟨l1, rfl, .inl (SqL.of h1)⟩) (by simp) (by decide) fun v1 G2 H2 w2 s2 b2 P2 m1 => ?_
    have hv1 : ∃ z, v1 = .str z ∧ nmOk z = true := by
      simp only [List.mem_cons, List.not_mem_nil, or_false] at m1
      rcases m1 with rfl | rfl | rfl | rfl | rfl | rfl <;> exact ⟨_, rfl, by decide +kernel⟩
    obtain ⟨z, rfl, hz⟩ := hv1
    have hc2 := (hc.same s1).same s2
    walk_at "qq"
    rw [e30]
    refine u_draw w2 (by simp) hc2 P2 (by omega) (by decide) (by decide) fun d G3 H3 w3 s3 b3 P3 d0 d1 => ?_
    walk_at "qq"
    rename_i l4 G4 H4 n4 w4 s4 h4 t4
    refine u_pick w4 (by simp) ((hc2.same s3).same s4) (P3.same t4) (by omega) (.inl ⟨l4, rfl, .inl (SqL.of h4)⟩) (by simp) (Nat.le_of_ble_eq_true rfl) fun v2 G5 H5 w5 s5 b5 P5 m2 => ?_
    have hv2 : ∃ i, v2 = .int i ∧ 0 ≤ i ∧ i ≤ 1000000000000000000000000000000 := by
      simp only [List.mem_cons, List.not_mem_nil, or_false] at m2
      rcases m2 with rfl | rfl | rfl | rfl | rfl | rfl | rfl | rfl <;> exact ⟨_, rfl, by omega, by omega⟩
    obtain ⟨i, rfl, i0, i1⟩ := hv2
    walk_at "qq"
    refine u_draw w5 (by simp) (((hc2.same s3).same s4).same s5) P5 (by omega) (by decide) (by decide) fun d2 G6 H6 w6 s6 b6 P6 _ _ => ?_
    walk_at "qq"
    rename_i l7 G7 H7 n7 w7 s7 h7 t7
    exact retP_of k w7 (P6.same t7) ⟨l7, z, i, _, rfl, h7, hz, i0, i1⟩
abbrev sLaw : Stmt := top 27
abbrev nLaw : List Str := ["_law_script", "_law_pen_here", "_law_faces", "_law_some", "_law_at", "_law_k", "_law_told", "_law_due", "_law_things", "_law_turn", "_law_face", "_law_thing"]
theorem scLaw : FnScope nLaw ["_law_script"] (defScope sLaw) := ⟨rfl, rfl, rfl, by decide +kernel, rfl, by decide +kernel, by decide +kernel⟩
def spLaw (K : PySem.W.Frag) : Sp := fun vs H Q _ => ∃ (a : Addr) (ns : List Int), vs = [.ref a] ∧ SqL K H a (ns.map V.int) ∧ ns.length ≤ 63 ∧ ∀ H', Q (.bl true) H'
theorem ok_law {f : Addr} {fd : FuncData} (F : FnP K "law" "law" sLaw [] f fd) (T : Bi mg) (SC : SyC K C) (hSay : Gc mg "Saying" (.ref C)) (hne : PySem.W.findIn K (.ref C) "__ne__" = some (some (.builtin "object.__ne__")))
    (De : Df P w K mg base CX0 1 "_law_pen" [] (spPen K)) (Dd : Df P w K mg base CX0 2 "_law_draw" [] spDraw) (Df1 : Df P w K mg base CX0 4 "_law_drawn" [] spFace)
    (DS : MkD P w K mg base CX0 3 "Saying" C [] (spSayInit C)) (Dah : MetD P w K mg base CX0 1 C "is_ahead" [] (spAhead C)) (Dahk : MetK P w K mg base CX0 1 C "is_ahead" ["other"] (fun vs zs => vs ++ zs) (spAhead C))
    (Deq : SpD P w K mg base CX0 1 C "__eq__" (spSayEq K C)) (Dst : SpD P w K mg base CX0 1 C "__str__" (spSayStr C)) (Dpt : PrD P w K mg base CX0 1 C "point" (spPoint C)) :
    FnA P w K mg base CX0 6 f fd ["_law_script"] (spLaw K) := by
  refine fnP_okA F scLaw (fun vs H Q E h => ?_) (fun cdv A outer s H vs Q E g0 hr h => ?_)
  · obtain ⟨a, ns, rfl, _⟩ := h
    rfl
  · obtain ⟨a, ns, rfl, ha, hl, k⟩ := h
    have hu64 := hr.units
    refine ⟨_, (pss_cons (ps_set (i := 1) scLaw.nd rfl (Or.inr rfl) (pe_callD De hr pass0 (pa_cons (pv 0) pa_nil)))
        (pss_cons (ps_setLc (i := 2) (own := [("_law_turn", 9)]) (g := gName 9) (tt := tYes) rfl scLaw.nd rfl rfl (sw_true rfl rfl rfl (by decide +kernel)) (pi_range1 rfl T.range (pa_cons (pe_op q_add pe_int (pe_callD Dd hr pass0 (pa_cons (pv 1) (pa_cons pe_int pa_nil)))) pa_nil)) (blkOk_by (own := [("_law_turn", 9)]) (N := nLaw) (sc := defScope sLaw) (by decide +kernel)) (fun _ _ _ _ _ => (pg_name (i := 9) scLaw.nd rfl (Or.inl rfl))) (fun _ _ _ _ _ => pts_nil) (fun _ _ _ _ _ => (pe_callD Df1 hr pass0 (pa_cons (pv 1) pa_nil))))
        (pss_cons (ps_expr (pe_bm PySem.F.plainAttrs_list PySem.F.slot_list_append PySem.F.type_list_append mt_append (pv 2) (pa_cons (pe_ix q_ix (pv 2) (pe_callD Dd hr pass0 (pa_cons (pv 1) (pa_cons (pe_callB q_len (by rfl) T.len (by decide +kernel) (pa_cons (pv 2) pa_nil)) pa_nil))) (fun _ _ => rfl)) pa_nil)))
        (pss_cons (ps_set (i := 3) scLaw.nd rfl (Or.inr rfl) (pe_lc (own := [("_law_face", 10)]) (g := gName 10) (tt := tYes) rfl scLaw.nd (pi_list (pv 2)) (blkOk_by (own := [("_law_face", 10)]) (N := nLaw) (sc := defScope sLaw) (by decide +kernel)) (fun _ _ _ _ _ => (pg_name (i := 10) scLaw.nd rfl (Or.inl rfl))) (fun _ _ _ _ _ => pts_nil) (fun _ _ _ _ _ => (pe_makeD DS hr pass0 (pa_cons (pe_ix (show IxR _ (rIx K) from q_ix) (pv 10) pe_int (fun _ _ => rfl)) (pa_cons (pe_ix (show IxR _ (rIx K) from q_ix) (pv 10) pe_int (fun _ _ => rfl)) (pa_cons (pe_ix (show IxR _ (rIx K) from q_ix) (pv 10) pe_int (fun _ _ => rfl)) pa_nil)))))))
        (pss_cons (ps_for PassesOwn.never rfl (pi_range1 rfl T.range (pa_cons (pe_callB q_len (by rfl) T.len (by decide +kernel) (pa_cons (pv 2) pa_nil)) pa_nil)) (pg_name (i := 4) scLaw.nd rfl (Or.inr rfl)) (pss_cons (ps_for PassesOwn.never rfl (pi_range1 rfl T.range (pa_cons (pe_callB q_len (by rfl) T.len (by decide +kernel) (pa_cons (pv 2) pa_nil)) pa_nil)) (pg_name (i := 5) scLaw.nd rfl (Or.inl rfl)) (pss_cons (ps_set (i := 6) scLaw.nd rfl (Or.inl rfl) (pe_lst (pa_cons (pe_methD (pe_ix q_ix (pv 3) (pv 4) (fun _ _ => rfl)) Dah hr pass0 (pa_cons (pe_ix q_ix (pv 3) (pv 5) (fun _ _ => rfl)) pa_nil)) (pa_cons (pe_methKD (pe_ix q_ix (pv 3) (pv 4) (fun _ _ => rfl)) Dahk hr pass0 (pk_cons (pe_ix q_ix (pv 3) (pv 5) (fun _ _ => rfl)) pk_nil)) (pa_cons (pe_cmpR (q_eqD Deq hr pass0) (pe_ix q_ix (pv 3) (pv 4) (fun _ _ => rfl)) (pe_ix q_ix (pv 3) (pv 5) (fun _ _ => rfl)) (nomark _)) pa_nil)))))
        (pss_cons (ps_set (i := 7) scLaw.nd rfl (Or.inl rfl) (pe_lst (pa_cons (pe_cmpR (q_ltD hu64) (pe_ix q_ix (pv 2) (pv 4) (fun _ _ => rfl)) (pe_ix q_ix (pv 2) (pv 5) (fun _ _ => rfl)) (nomark _)) (pa_cons (pe_cmpR (q_ltD hu64) (pe_ix q_ix (pv 2) (pv 4) (fun _ _ => rfl)) (pe_ix q_ix (pv 2) (pv 5) (fun _ _ => rfl)) (nomark _)) (pa_cons (pe_cmpR (q_eq hu64) (pe_ix q_ix (pv 2) (pv 4) (fun _ _ => rfl)) (pe_ix q_ix (pv 2) (pv 5) (fun _ _ => rfl)) (nomark _)) pa_nil)))))
        (pss_one (ps_if (PW.pt (pw_or (pt_cmpR (q_ne hu64) (pe_callB (call_repr g0 hu64) (by rfl) T.repr (by decide +kernel) (pa_cons (pv 6) pa_nil)) (pe_callB (call_repr g0 hu64) (by rfl) T.repr (by decide +kernel) (pa_cons (pv 7) pa_nil)) (nomark _)) (pw_or1 (pt_cmpR (q_ne hu64) (pe_callB (call_repr g0 hu64) (by rfl) T.repr (by decide +kernel) (pa_cons (pe_cmpR (q_neD hne SC.cm Deq hr pass0) (pe_ix q_ix (pv 3) (pv 4) (fun _ _ => rfl)) (pe_ix q_ix (pv 3) (pv 5) (fun _ _ => rfl)) (nomark _)) pa_nil)) (pe_callB (call_repr g0 hu64) (by rfl) T.repr (by decide +kernel) (pa_cons (pe_not (pe_ix q_ix (pv 7) pe_int (fun _ _ => rfl))) pa_nil)) (nomark _))))) (pss_one (ps_ret pe_bl)) pss_nil)))))
        (pss_cons (ps_set (i := 8) scLaw.nd rfl (Or.inl rfl) (pe_lst (pa_cons (pe_ix q_ix (pv 2) (pv 4) (fun _ _ => rfl)) (pa_cons (pe_callTy (q_strD Dst hr pass0) (by rfl) T.str (by decide +kernel) (pa_cons (pe_ix q_ix (pv 3) (pv 4) (fun _ _ => rfl)) pa_nil)) (pa_cons pe_non (pa_cons pe_int (pa_cons pe_bl (pa_cons (pe_callTy q_list (by rfl) T.list (by decide +kernel) (pa_cons (pe_ix q_ix (pv 2) (pv 4) (fun _ _ => rfl)) pa_nil)) (pa_cons (pe_propD (pe_ix q_ix (pv 3) (pv 4) (fun _ _ => rfl)) Dpt hr pass0) pa_nil)))))))))
        (pss_one (ps_if (pt_cmpR (q_ne hu64) (pe_lc (own := [("_law_thing", 11)]) (g := gName 11) rfl scLaw.nd (pi_list (pv 8)) (blkOk_by (own := [("_law_thing", 11)]) (N := nLaw) (sc := defScope sLaw) (by decide +kernel)) (fun _ _ _ _ _ => (pg_name (i := 11) scLaw.nd rfl (Or.inl rfl))) (fun _ _ _ _ _ => (pts_one (pt_cmpR (show OpR _ (compareOp .Eq) (rEqI K C (spSayEq K C) E0) from q_eqD Deq hr pass0) (pe_ix (show IxR _ (rIx K) from q_ix) (pv 3) (pv 4) (fun _ _ => rfl)) (pv 11) (nomark _)))) (fun _ _ _ _ _ => (pv 11))) (pe_lst pa_nil) (nomark _)) (pss_one (ps_ret pe_bl)) pss_nil)))))
        (pss_one (ps_ret pe_bl))))))), ?_⟩
    have w0 : Wd ⟨H, H, []⟩ H H [] := wd_pure (Same.refl H)
    walk_at "qq"
    refine u_pen w0 ha hl fun p c G1 H1 w1 s1 t1 hc P1 => ?_
    walk_at "qq"
    refine u_draw w1 (by simp) hc P1 (by omega) (by decide) (by decide) fun d G2 H2 w2 s2 b2 P2 d0 d1 => ?_
    have hc2 := hc.same s2
    walk_at "qq"
    refine lc_goM w2 walk_range (fun i acc Gi Hi => acc.length = i ∧ (∀ v ∈ acc, FaceAt Gi v) ∧ PenAt p c (1 + 4 * i) Hi) ?_ (fun _ _ _ _ _ _ _ => trivial) ?_ ?_
    · rintro Dd0 H3 w3 s3 nm
      exact ⟨rfl, fun v hv => by simp at hv, P2.same s3⟩
    · rintro Dd0 i acc G3 H3 x H4 hi hl w3 s3 hD nm ⟨la, hf, P3⟩ ⟨rfl, rfl⟩
      walk_at "qq"
      refine u_face w3 (by simp) (hc2.same s3) P3 (by omega) fun v G5 H5 w5 s5 b5 P5 hv => ?_
      have hne0 : Dd0 ≠ p := nm p (by simp)
      walk_at "qq"
      rename_i H6 w6 b6
      refine ⟨by simp [la], fun u hu => ?_, ?_⟩
      · rcases List.mem_append.mp hu with hu | hu
        · exact (hf u hu).same s5
        · rw [List.mem_singleton.mp hu]; exact hv
      · exact (P5.but b6 (nm p (by simp)).symm).more (by omega)
    · rintro lf acc G3 H3 hl3 w3 s3 hF nm ⟨la, hf, P3⟩
      have hlen : acc.length = (3 + d).toNat := la
      have hc3 := hc2.same s3
      walk_at "qq"
      refine u_draw w3 (by simp) hc3 P3 (by omega) (by omega) (by omega) fun d4 G4 H4 w4 s4 b4 P4 e0 e1 => ?_
      obtain ⟨j, rfl⟩ := Int.eq_ofNat_of_zero_le e0
      have hj : j < acc.length := by omega
      have hat := atI_nat (List.getElem?_eq_getElem hj)
      have hface : FaceAt G4 acc[j] := (hf _ (List.getElem_mem hj)).same s4
      have hne1 : lf ≠ p := nm p (by simp)
      walk_at "qq"
      rename_i H5 w5 hF5 b5
      have h0 : H lf = none := by
        rcases (w5.mu lf (by simp)).2.2 with h | h
        · exact h
        · simp at h
      obtain ⟨w6, s6⟩ := wd_freeze w5 hF5 h0
      generalize hFe : acc ++ [acc[j]] = F at *
      have hFlen : F.length = (3 + d).toNat + 1 := by rw [← hFe]; simp [hlen]
      have hFall : ∀ v ∈ F, FaceAt G4 v := fun v hv => by
        rw [← hFe] at hv
        rcases List.mem_append.mp hv with hv | hv
        · exact (hf v hv).same s4
        · rw [List.mem_singleton.mp hv]; exact hface
      clear hFe hface hat
      have g6 : (upd G4 lf (.lst F)) lf = some (.lst F) := upd_same
      generalize upd G4 lf (.lst F) = G6 at *
      have hFall : ∀ v ∈ F, FaceAt G6 v := fun v hv => (hFall v hv).same s6
      refine lc_go w6 (walk_list (xs := F)) (fun i acc Gi Hi => acc.length = i ∧ ∀ j, j < i → ∃ u v, acc[j]? = some u ∧ F[j]? = some v ∧ PairAt C Gi u v) ?_ (fun i acc Gi Hi wi si _ => wd_sqL wi (same_sqL si (SqL.of g6))) ?_ ?_
      · rintro Dd1 H7 w7 t7 nm7
        exact ⟨rfl, fun j hj => absurd hj (Nat.not_lt_zero _)⟩
      · rintro Dd1 i acc1 G7 H7 x H8 hi hl w7 s7 hD nm7 ⟨la1, hp⟩ ⟨rfl, hx⟩
        obtain ⟨fa, z, n, b, rfl, hfa, hright⟩ := (hFall x (List.mem_of_getElem? hx)).same s7
        have hne7 : Dd1 ≠ p := nm7 p (by simp)
        walk_at "qq"
        refine u_say w7 hright fun ai G8 H9 w8 s8 t8 hsay => ?_
        walk_at "qq"
        refine ⟨by simp [la1], fun j hj => ?_⟩
        rcases Nat.lt_or_ge j i with h | h
        · obtain ⟨u, v, h1, h2, h3⟩ := hp j h
          exact ⟨u, v, by rw [List.getElem?_append_left (by omega)]; exact h1, h2, h3.same s8⟩
        · have e : j = i := by omega
          subst e
          exact ⟨_, _, by rw [← la1]; simp, hx, fa, ai, z, n, b, rfl, rfl, hsay, s8 _ _ hfa⟩
      · rintro ls S Gi G7 H7 hlS w7 s7 si7 hS ⟨lS, hp⟩
        have hFG : G7 lf = some (.lst F) := s7 _ _ g6
        have hp : ∀ j, j < F.length → ∃ u v, S[j]? = some u ∧ F[j]? = some v ∧ PairAt C G7 u v := fun j hj => by
          obtain ⟨u, v, h1, h2, h3⟩ := hp j hj
          exact ⟨u, v, h1, h2, h3.same si7⟩
        have hsm : F.length ≤ 8 := by omega
        clear hFall g6 hlS s6 si7 s7
        have hn : (F.length : Int).toNat = F.length := Int.toNat_natCast _
        walk_at "qq"
        rw [hn]
        refine for_go walk_range (fun _ σ Hx => ∃ (Gi : Hp) (x4 x5 x6 x7 x8 x9 x10 x11 : Option V), σ = [some (.ref a), some (.ref p), some (.ref lf), some (.ref ls), x4, x5, x6, x7, x8, x9, x10, x11] ∧ Wd ⟨H, H, []⟩ Gi Hx [p] ∧ Same G7 Gi)
          ⟨G7, _, _, _, _, _, _, _, _, rfl, w7, Same.refl _⟩ (fun _ _ _ _ _ => trivial) ?_ ?_
        · rintro i x σ Ha Hb hi ⟨G8, x4, x5, x6, x7, x8, x9, x10, x11, rfl, w8, s8⟩ ⟨rfl, hx⟩
          have hx : x = .int (i : Nat) := by rw [hx]; simp
          subst hx
          obtain ⟨u, v, hSi, hFi, hpi⟩ := hp i hi
          obtain ⟨fa, ai, z, n, b, rfl, rfl, hsay, hfa⟩ := hpi.same s8
          have hSa := atI_nat hSi
          have hFa := atI_nat hFi
          have hS8 : G8 ls = some (.lst S) := s8 _ _ hS
          have hF8 : G8 lf = some (.lst F) := s8 _ _ hFG
          walk_at "qq"
          rw [hn]
          refine for_go walk_range (fun _ σ Hx => ∃ (Gi : Hp) (x5 x6 x7 x8 x9 x10 x11 : Option V), σ = [some (.ref a), some (.ref p), some (.ref lf), some (.ref ls), some (.int (i : Nat)), x5, x6, x7, x8, x9, x10, x11] ∧ Wd ⟨H, H, []⟩ Gi Hx [p] ∧ Same G8 Gi)
            ⟨G8, _, _, _, _, _, _, _, rfl, w8, Same.refl _⟩ (fun _ _ _ _ _ => trivial) ?_ ?_
          · rintro kx x σ Ha Hb hk ⟨G9, x5, x6, x7, x8, x9, x10, x11, rfl, w9, s9⟩ ⟨rfl, hx⟩
            have hx : x = .int (kx : Nat) := by rw [hx]; simp
            subst hx
            obtain ⟨u2, v2, hSk, hFk, hpk⟩ := hp kx hk
            obtain ⟨fk, ak, z', n', b', rfl, rfl, hsayk, hfk⟩ := (hpk.same s8).same s9
            have hSb := atI_nat hSk
            have hFb := atI_nat hFk
            have hsay9 := hsay.same s9
            have hfa9 := s9 _ _ hfa
            have hS9 := s9 _ _ hS8
            have hF9 := s9 _ _ hF8
            obtain ⟨r1, dx, fc, hi1, hi2⟩ := id hsay9
            obtain ⟨r2, dx', fc', hj1, hj2⟩ := id hsayk
            walk_at "qq"
            refine u_ahead w9 hsay9 hsayk fun G10 H10 w10 s10 t10 => ?_
            walk_at "qq"
            refine ⟨rfl, u_ahead w10 (hsay9.same s10) (hsayk.same s10) fun G11 H11 w11 s11 t11 => ?_⟩
            walk_at "qq"
            have S11 := s10.trans s11
            refine r_eqI (w11.le _ _ (S11 _ _ hi1)) (same_ty w11.le (SC.ty (hsayk.same S11))) SC.fme (u_sayEq w11 (hsay9.same S11) (EqTo.say (hsayk.same S11)) fun G12 H12 w12 s12 t12 => ?_)
            walk_at "qq"
            rename_i l13 G13 H13 n13 w13 s13 h13 t13
            have S13 : Same G9 G13 := S11.trans (s12.trans s13)
            have k1 : Dp K H13 (.ref fa) (faceD z n b) := wd_dp w13 (.tup (SqT.of (S13 _ _ hfa9)) (.cons (.str _) (.cons (.int _) (.cons (.bl _) .nil))))
            have k2 : Dp K H13 (.ref fk) (faceD z' n' b') := wd_dp w13 (.tup (SqT.of (S13 _ _ hfk)) (.cons (.str _) (.cons (.int _) (.cons (.bl _) .nil))))
            refine r_ltD k1 k2 alike_face ne_face depth_face ?_
            walk_at "qq"
            refine r_ltD k1 k2 alike_face ne_face depth_face ?_
            walk_at "qq"
            refine r_eqD k1 k2 (shaped_face r1) (shaped_face r2) ?_
            walk_at "qq"
            rename_i l14 G14 H14 n14 w14 s14 h14 t14
            refine r_repr (d := bl3 _ _ _) (wd_dp w14 (.lst (SqL.of (s14 _ _ h13)) (.cons (.bl _) (.cons (.bl _) (.cons (.bl _) .nil))))) showable3 depth3 size3 ?_
            walk_at "qq"
            refine r_repr (d := bl3 _ _ _) (wd_dp w14 (.lst (SqL.of h14) (.cons (.bl _) (.cons (.bl _) (.cons (.bl _) .nil))))) showable3 depth3 size3 ?_
            walk_at "qq"
            refine ite_nd (fun h => absurd rfl h) (fun _ => ?_)
            walk_at "qq"
            have S14 := S13.trans s14
            refine r_neI (w14.le _ _ (S14 _ _ hi1)) (same_ty w14.le (SC.ty (hsayk.same S14))) SC.fme (u_sayEq w14 (hsay9.same S14) (EqTo.say (hsayk.same S14)) fun G15 H15 w15 s15 t15 => ?_)
            walk_at "qq"
            refine r_repr (d := .bool _) (.bl _) showable1 depth1 size1 ?_
            walk_at "qq"
            refine r_repr (d := .bool _) (.bl _) showable1 depth1 size1 ?_
            walk_at "qq"
            refine ite_nd (fun h => absurd rfl h) (fun _ => ?_)
            walk_at "qq"
            exact ⟨G15, _, _, _, _, _, _, _, rfl, w15, s9.trans (S14.trans s15)⟩
          · rintro σ Hc ⟨G9, x5, x6, x7, x8, x9, x10, x11, rfl, w9, s9⟩
            have hsay9 := hsay.same s9
            have hfa9 := s9 _ _ hfa
            have hS9 := s9 _ _ hS8
            have hF9 := s9 _ _ hF8
            obtain ⟨r1, dx, fc, hi1, hi2⟩ := id hsay9
            walk_at "qq"
            refine r_strI (w9.le _ _ hi1) (u_sayStr w9 hsay9 r1 fun G10 H10 w10 s10 t10 => ⟨_, rfl, ?_⟩)
            walk_at "qq"
            rename_i lc G11 H11 n11 w11 s11 h11 t11
            refine u_point w11 ((hsay9.same s10).same s11) fun pp G12 H12 w12 s12 t12 hpp => ?_
            walk_at "qq"
            rename_i lt G13 H13 n13 w13 s13 h13 t13
            have S13 : Same G9 G13 := s10.trans (s11.trans (s12.trans s13))
            have hlc : G13 lc = some (.lst [.str z, .int n, .bl b]) := s13 _ _ (s12 _ _ h11)
            have hall : ∀ x ∈ [V.ref fa, .str (sayText z n b), .non, .int 0, .bl true, .ref lc, .ref pp], ∃ t, TyX K G13 x t ∧ PySem.W.notFirst K C t = true ∧ EqTo K C G13 z n b x false := by
              intro x hx
              simp only [List.mem_cons, List.not_mem_nil, or_false] at hx
              rcases hx with rfl | rfl | rfl | rfl | rfl | rfl | rfl
              · exact ⟨_, .base (.tup (S13 _ _ hfa9)), SC.ftup, .tup SC (S13 _ _ hfa9)⟩
              · exact ⟨_, .base (.str _), SC.fstr, .str SC⟩
              · exact ⟨_, .base .non, SC.fnon, .non SC⟩
              · exact ⟨_, .base (.int _), SC.fint, .int SC⟩
              · exact ⟨_, .base (.bl _), SC.fbl, .bl SC⟩
              · exact ⟨_, .base (.lst hlc), SC.flst, .lst SC hlc⟩
              · exact ⟨_, .base (.tup (s13 _ _ hpp)), SC.ftup, .tup SC (s13 _ _ hpp)⟩
            generalize hth : [V.ref fa, V.str (sayText z n b), V.non, V.int 0, V.bl true, V.ref lc, V.ref pp] = TH at *
            have hTH : TH.length = 7 := by rw [← hth]; rfl
            refine lc_go w13 (walk_list (xs := TH)) (fun i acc Gi Hi => acc = []) (fun _ _ _ _ _ => rfl) (fun i acc Gi Hi wi si _ => wd_sqL wi (same_sqL si (SqL.of h13))) ?_ ?_
            · rintro Dd2 i2 acc2 G14 H14 x H15 hi2 hl2 w14 s14 hD2 nm2 rfl ⟨rfl, hx⟩
              obtain ⟨t, ty, nf, eqto⟩ := hall x (List.mem_of_getElem? hx)
              have S14 := S13.trans s14
              walk_at "qq"
              refine r_eqI (w14.le _ _ (S14 _ _ hi1)) (same_ty w14.le (same_ty s14 ty)) nf (u_sayEq w14 (hsay9.same S14) (eqto.same s14) fun G16 H16 w16 s16 t16 => ?_)
              walk_at "qq"
              exact ⟨[], G16, w16, s14.trans s16, t16 _ _ hD2, Nat.zero_le _, rfl⟩
            · rintro l16 acc2 G16 G17 H17 hl2 w17 s17 s18 h17 rfl
              walk_at "qq"
              rename_i l19 G19 H19 n19 w19 s19 h19 t19
              rw [eqv_nil]
              refine ite_nf ?_
              walk_at "qq"
              exact ⟨G19, _, _, _, _, _, _, _, _, rfl, w19, s8.trans (s9.trans (S13.trans (s17.trans s19)))⟩
        · rintro σ Hc ⟨G9, x4, x5, x6, x7, x8, x9, x10, x11, rfl, w9, s9⟩
          walk_at "qq"
          exact k _
end

/-! ### the head -/
def fnL : List He5.DefA := [⟨fun K => He.ga K "is_integer", "is_integer", "is_integer", defArgs sIsInt, defBody sIsInt, defScope sIsInt, [], []⟩,
  ⟨fun K => He.ga K "is_moment", "is_moment", "is_moment", defArgs sMoment, defBody sMoment, defScope sMoment, [.int 0], []⟩,
  ⟨fun K => He.ga K "is_name", "is_name", "is_name", defArgs sIsName, defBody sIsName, defScope sIsName, [], []⟩,
  ⟨fun K => He.ma K (He.ga K "Saying") "__init__", "__init__", "Saying.__init__", defArgs sSayInit, defBody sSayInit, defScope sSayInit, [], []⟩,
  ⟨fun K => He.ma K (He.ga K "Saying") "is_ahead", "is_ahead", "Saying.is_ahead", defArgs sSayAhead, defBody sSayAhead, defScope sSayAhead, [], []⟩,
  ⟨fun K => He.ma K (He.ga K "Saying") "__eq__", "__eq__", "Saying.__eq__", defArgs sSayEq, defBody sSayEq, defScope sSayEq, [], []⟩,
  ⟨fun K => He.ma K (He.ga K "Saying") "__str__", "__str__", "Saying.__str__", defArgs sSayStr, defBody sSayStr, defScope sSayStr, [], []⟩,
  ⟨fun K => getterOf K (He.ma K (He.ga K "Saying") "point"), "point", "Saying.point", defArgs sSayPoint, defBody sSayPoint, defScope sSayPoint, [], []⟩,
  ⟨fun K => He.ga K "_law_pen", "_law_pen", "_law_pen", defArgs sPen, defBody sPen, defScope sPen, [], []⟩,
  ⟨fun K => He.ga K "_law_draw", "_law_draw", "_law_draw", defArgs sDraw, defBody sDraw, defScope sDraw, [], []⟩,
  ⟨fun K => He.ga K "_law_pick", "_law_pick", "_law_pick", defArgs sPick, defBody sPick, defScope sPick, [], []⟩,
  ⟨fun K => He.ga K "_law_drawn", "_law_drawn", "_law_drawn", defArgs sFace, defBody sFace, defScope sFace, [], []⟩,
  ⟨fun K => He.ga K "law", "law", "law", defArgs sLaw, defBody sLaw, defScope sLaw, [], []⟩]
def faL : List He.Fa := [.free "int", .free "len", .free "abs", .free "list", .free "range", .free "repr", .free "str", .free "isinstance", .free "all", .free "any", .free "bool", .free "tuple", .free "sorted", .free "set", .free "dict", .free "enumerate", .free "zip", .free "min", .free "max", .glo "RESERVED", .str "LETTERS" zLetters, .str "FIGURES" zFigures, .int "MOST_SIGNS" 8, .int "MOST_MOMENT" 1000000000000000000000000000000, .glo "Saying", .cls "Saying", .mkr "Saying", .noat "Saying" "tool", .noat "Saying" "moment", .noat "Saying" "is_sound", .noat "Saying" "face", .meth "Saying" "is_ahead", .meth "Saying" "__eq__", .meth "Saying" "__str__", .glo "is_integer", .glo "is_moment", .glo "is_name", .glo "_law_pen", .glo "_law_draw", .glo "_law_pick", .glo "_law_drawn", .glo "law"]
def eqS (K : PySem.W.Frag) (C : Addr) : Bool := decide ((PySem.W.specialIn K (.builtin "object.__class__") "__get__" = some (some (.builtin "getset_descriptor.__get__")) ∧ PySem.W.takesIn K (.builtin "object.__class__") = some true ∧ PySem.W.mroIn K C (.type "object") = some true) ∧
  (PySem.W.kitOne K (.ref C) (.ref C) = some true ∧ ∀ n ∈ ["NoneType", "int", "bool", "str", "list", "tuple", "dict"], PySem.W.kitOne K (.type n) (.ref C) = some false) ∧
  (PySem.W.notFirst K C (.ref C) = true ∧ ∀ n ∈ ["NoneType", "int", "bool", "str", "list", "tuple", "dict"], PySem.W.notFirst K C (.type n) = true))
def exL (K : PySem.W.Frag) : Bool := (He.eqO (PySem.W.findIn K (.ref (He.ga K "Saying")) "__class__") (some (some (.builtin "object.__class__"))) && He.eqO (PySem.W.findIn K (.ref (He.ga K "Saying")) "__ne__") (some (some (.builtin "object.__ne__")))) &&
  (eqS K (He.ga K "Saying") && (propB K (He.ga K "Saying") "point" && He.tupB K "RESERVED" [.str "begun", .str "setby", .str "found", .str "trusted", .str "passed", .str "failed", .str "agreed", .str "differed", .str "served", .str "backed", .str "sound", .str "unsound", .str "sure", .str "never", .str "open", .str "none", .str "record", .str "lot", .str "menu", .str "wanted"]))
abbrev RL : PySem.W.OpenRow := PySem.W.OpenLaw.row PySem.Challenge.rw_soundtill_k02_sayings_in_order
abbrev hkL : PySem.W.Hook := hookQ 6 faL fnL exL
def obL (s : PySem.W.SharedT) : AlQ := obsQ 6 faL fnL exL (HandSHeadRun.getT s)
theorem obL_eq (s : PySem.W.SharedT) : obL s = hkL.obs s.abs := obsQ_eq (HandSHeadRun.getT_eq s)
theorem runL (w : World) : HandSHeadRun.RunEq RL (PySem.W.view RL.prog [27]) hkL obL 4000 ["_wall", "__name__", "TillError", "BadName", "BadMoment", "BadSaying", "BadText", "RESERVED", "LETTERS", "FIGURES", "MOST_SIGNS", "MOST_FIGURES", "MOST_MOMENT", "is_integer", "is_moment", "is_name", "moment_in", "TRUTHS", "MANY_WORDS", "Saying", "_law_pen", "_law_draw", "_law_pick", "_law_drawn"] w := by
  refine PySem.W.byRow2 "special-get-raises" (P := fun w => HandSHeadRun.RunEq RL (PySem.W.view RL.prog [27]) hkL obL 4000 ["_wall", "__name__", "TillError", "BadName", "BadMoment", "BadSaying", "BadText", "RESERVED", "LETTERS", "FIGURES", "MOST_SIGNS", "MOST_FIGURES", "MOST_MOMENT", "is_integer", "is_moment", "is_name", "moment_in", "TRUTHS", "MANY_WORDS", "Saying", "_law_pen", "_law_draw", "_law_pick", "_law_drawn"] w) (fun w => ?_) (fun w => ?_) w
  · intro os
    kernel_rfl
  · intro os
    kernel_rfl

def one {α : Type} {β : Type} (_ : α) (b : β) : β := b
theorem factsL {P : Program} {w : World} {K : PySem.W.Frag} {h : Heap} {mg : Str → Option Value} {f : Addr} (X : K.In h) (G : h.Ns mainGlobals mg) (hfa : mg ("law" : Str) = some (.ref f)) (c : He5.SaysA faL fnL K) (e : exL K = true) :
    ∃ fd : FuncData, (∀ (s : Shared) (v : Value), BindsTo s fd ⟨[v], []⟩ [("_law_script", v)]) ∧ ∀ base : Heap, K.In base → base.Ns mainGlobals mg → FnA P w K mg base CX0 6 f fd ["_law_script"] (spLaw K) := by
  have T : Bi mg := ⟨He.free_ok X G (c.fact 0 (f := .free "int") rfl), He.free_ok X G (c.fact 1 (f := .free "len") rfl), He.free_ok X G (c.fact 2 (f := .free "abs") rfl), He.free_ok X G (c.fact 3 (f := .free "list") rfl), He.free_ok X G (c.fact 4 (f := .free "range") rfl), He.free_ok X G (c.fact 5 (f := .free "repr") rfl), He.free_ok X G (c.fact 6 (f := .free "str") rfl), He.free_ok X G (c.fact 7 (f := .free "isinstance") rfl), He.free_ok X G (c.fact 8 (f := .free "all") rfl), He.free_ok X G (c.fact 9 (f := .free "any") rfl), He.free_ok X G (c.fact 10 (f := .free "bool") rfl), He.free_ok X G (c.fact 11 (f := .free "tuple") rfl), He.free_ok X G (c.fact 12 (f := .free "sorted") rfl), He.free_ok X G (c.fact 13 (f := .free "set") rfl), He.free_ok X G (c.fact 14 (f := .free "dict") rfl), He.free_ok X G (c.fact 15 (f := .free "enumerate") rfl), He.free_ok X G (c.fact 16 (f := .free "zip") rfl), He.free_ok X G (c.fact 17 (f := .free "min") rfl), He.free_ok X G (c.fact 18 (f := .free "max") rfl)⟩
  obtain ⟨e1, e2⟩ := He.ba e
  obtain ⟨e3, e4⟩ := He.ba e1
  obtain ⟨e5, e6⟩ := He.ba e2
  obtain ⟨e7, e8⟩ := He.ba e6
  obtain ⟨⟨a1, a2, a3⟩, ⟨b1, b2⟩, c1, c2⟩ := of_decide_eq_true e5
  have NM : Nm K mg := ⟨⟨_, ⟨_, He.glo_ok X G (c.fact 19 (f := .glo "RESERVED") rfl), rfl⟩, fun H => He.tupB_ok e8 H⟩,
    (He.str_ok X G (c.fact 20 (f := .str "LETTERS" zLetters) rfl)).elim fun t z => ⟨_, z, t, rfl⟩, (He.str_ok X G (c.fact 21 (f := .str "FIGURES" zFigures) rfl)).elim fun t z => ⟨_, z, t, rfl⟩,
    (He.int_ok X G (c.fact 22 (f := .int "MOST_SIGNS" 8) rfl)).elim fun t z => ⟨_, z, t, rfl⟩, (He.int_ok X G (c.fact 23 (f := .int "MOST_MOMENT" 1000000000000000000000000000000) rfl)).elim fun t z => ⟨_, z, t, rfl⟩⟩
  have hmSay := He.glo_ok X G (c.fact 24 (f := .glo "Saying") rfl)
  have hSay : Gc mg "Saying" (.ref (He.ga K "Saying")) := ⟨_, hmSay, rfl⟩
  have cl := He.cls_ok (c.fact 25 (f := .cls "Saying") rfl)
  have SC : SyC K (He.ga K "Saying") := ⟨cl, He.noat_ok (c.fact 27 (f := .noat "Saying" "tool") rfl), He.noat_ok (c.fact 28 (f := .noat "Saying" "moment") rfl), He.noat_ok (c.fact 29 (f := .noat "Saying" "is_sound") rfl), He.noat_ok (c.fact 30 (f := .noat "Saying" "face") rfl),
    He.eqO_ok e3, a1, a2, a3, b1, b2 _ (by simp), b2 _ (by simp), b2 _ (by simp), b2 _ (by simp), b2 _ (by simp), b2 _ (by simp), b2 _ (by simp), c1, c2 _ (by simp), c2 _ (by simp), c2 _ (by simp), c2 _ (by simp), c2 _ (by simp), c2 _ (by simp), c2 _ (by simp)⟩
  have hne := He.eqO_ok e4
  have mk := He.mkr_ok (c.fact 26 (f := .mkr "Saying") rfl)
  have mA := He.meth_ok (c.fact 31 (f := .meth "Saying" "is_ahead") rfl)
  have mE := He.meth_ok (c.fact 32 (f := .meth "Saying" "__eq__") rfl)
  have mS := He.meth_ok (c.fact 33 (f := .meth "Saying" "__str__") rfl)
  have pP := propB_ok e7
  obtain ⟨fd0, F0⟩ : ∃ fd, FnP K "is_integer" "is_integer" sIsInt [] (He.ga K "is_integer") fd := c.def_ 0
  obtain ⟨fd1, F1⟩ : ∃ fd, FnP K "is_moment" "is_moment" sMoment [.int 0] (He.ga K "is_moment") fd := c.def_ 1
  obtain ⟨fd2, F2⟩ : ∃ fd, FnP K "is_name" "is_name" sIsName [] (He.ga K "is_name") fd := c.def_ 2
  obtain ⟨fdI, FI⟩ : ∃ fd, FnP K "__init__" "Saying.__init__" sSayInit [] (He.ma K (He.ga K "Saying") "__init__") fd := c.def_ 3
  obtain ⟨fdA, FA⟩ : ∃ fd, FnP K "is_ahead" "Saying.is_ahead" sSayAhead [] (He.ma K (He.ga K "Saying") "is_ahead") fd := c.def_ 4
  obtain ⟨fdE, FE⟩ : ∃ fd, FnP K "__eq__" "Saying.__eq__" sSayEq [] (He.ma K (He.ga K "Saying") "__eq__") fd := c.def_ 5
  obtain ⟨fdS, FS⟩ : ∃ fd, FnP K "__str__" "Saying.__str__" sSayStr [] (He.ma K (He.ga K "Saying") "__str__") fd := c.def_ 6
  obtain ⟨fdP, FP⟩ : ∃ fd, FnP K "point" "Saying.point" sSayPoint [] (getterOf K (He.ma K (He.ga K "Saying") "point")) fd := c.def_ 7
  obtain ⟨fd3, F3⟩ : ∃ fd, FnP K "_law_pen" "_law_pen" sPen [] (He.ga K "_law_pen") fd := c.def_ 8
  obtain ⟨fd4, F4⟩ : ∃ fd, FnP K "_law_draw" "_law_draw" sDraw [] (He.ga K "_law_draw") fd := c.def_ 9
  obtain ⟨fd5, F5⟩ : ∃ fd, FnP K "_law_pick" "_law_pick" sPick [] (He.ga K "_law_pick") fd := c.def_ 10
  obtain ⟨fd6, F6⟩ : ∃ fd, FnP K "_law_drawn" "_law_drawn" sFace [] (He.ga K "_law_drawn") fd := c.def_ 11
  obtain ⟨fdL, FL⟩ : ∃ fd, FnP K "law" "law" sLaw [] (He.ga K "law") fd := c.def_ 12
  have z := hfa.symm.trans (He.glo_ok X G (c.fact 41 (f := .glo "law") rfl))
  cases z
  have b := FunD.bindsA (ps := ["_law_script"]) FL fun _ _ _ _ _ _ us hl => match us, hl with | [_], _ => rfl
  refine ⟨fdL, fun s v => b s [v] rfl, fun base _ _ => ?_⟩
  have D0 : Df P w K mg base CX0 1 "is_integer" [] (spIsInt K) := df_of F0 (He.glo_ok X G (c.fact 34 (f := .glo "is_integer") rfl)) (ok_isInt F0 T) fun _ _ _ _ _ _ us hl => match us, hl with | [_], _ => rfl
  have D1 : Df P w K mg base CX0 2 "is_moment" [.int 0] (spMoment K) := by
    obtain ⟨ds, vd, bd⟩ := FunD.binds1 (ps := ["thing", "least"]) F1 1 0 (by simp) rfl fun _ _ _ _ _ _ _ us its hl hi => match us, its, hl, hi with | [_], [_], _, _ => ⟨_, rfl, rfl⟩
    exact ⟨_, fd1, _, ds, He.glo_ok X G (c.fact 35 (f := .glo "is_moment") rfl), F1.kp, bd, vd, ok_moment F1 T NM D0⟩
  have D2 : Df P w K mg base CX0 1 "is_name" [] (spIsName K) := df_of F2 (He.glo_ok X G (c.fact 36 (f := .glo "is_name") rfl)) (ok_isName F2 T NM) fun _ _ _ _ _ _ us hl => match us, hl with | [_], _ => rfl
  have D3 : Df P w K mg base CX0 1 "_law_pen" [] (spPen K) := df_of F3 (He.glo_ok X G (c.fact 37 (f := .glo "_law_pen") rfl)) (ok_pen F3 T) fun _ _ _ _ _ _ us hl => match us, hl with | [_], _ => rfl
  have D4 : Df P w K mg base CX0 2 "_law_draw" [] spDraw := df_of F4 (He.glo_ok X G (c.fact 38 (f := .glo "_law_draw") rfl)) (ok_draw F4 T) fun _ _ _ _ _ _ us hl => match us, hl with | [_, _], _ => rfl
  have D5 : Df P w K mg base CX0 3 "_law_pick" [] (spPick K) := df_of F5 (He.glo_ok X G (c.fact 39 (f := .glo "_law_pick") rfl)) (ok_pick F5 T D4) fun _ _ _ _ _ _ us hl => match us, hl with | [_, _], _ => rfl
  have D6 : Df P w K mg base CX0 4 "_law_drawn" [] spFace := df_of F6 (He.glo_ok X G (c.fact 40 (f := .glo "_law_drawn") rfl)) (ok_face F6 T D4 D5) fun _ _ _ _ _ _ us hl => match us, hl with | [_], _ => rfl
  have DS : MkD P w K mg base CX0 3 "Saying" (He.ga K "Saying") [] (spSayInit (He.ga K "Saying")) := ⟨_, fdI, _, [], hmSay, mk, FI.bindsN fun _ _ _ _ _ _ us hl => match us, hl with | [_, _, _, _], _ => rfl, .nil, ok_sayInit FI T SC D2 D1⟩
  have okA := ok_sayAhead (P := P) (w := w) (mg := mg) (base := base) FA SC
  have DA : MetD P w K mg base CX0 1 (He.ga K "Saying") "is_ahead" [] (spAhead (He.ga K "Saying")) := ⟨_, fdA, _, [], cl, mA, FA.bindsN fun _ _ _ _ _ _ us hl => match us, hl with | [_, _], _ => rfl, .nil, okA⟩
  have DK : MetK P w K mg base CX0 1 (He.ga K "Saying") "is_ahead" ["other"] (fun vs zs => vs ++ zs) (spAhead (He.ga K "Saying")) :=
    ⟨_, fdA, ["self", "other"], _, cl, mA, kbn_of FA 1 ["other"] (fun us ws => us ++ ws) (fun r1 r2 => r1.append r2) fun _ _ _ _ _ _ us ws l1 l2 => match us, ws, l1, l2 with | [_], [_], _, _ => rfl, okA⟩
  have DE : SpD P w K mg base CX0 1 (He.ga K "Saying") "__eq__" (spSayEq K (He.ga K "Saying")) := ⟨_, fdE, _, mE.at_, mE.fn, FE.bindsN fun _ _ _ _ _ _ us hl => match us, hl with | [_, _], _ => rfl, ok_sayEq FE T SC hSay⟩
  have DT : SpD P w K mg base CX0 1 (He.ga K "Saying") "__str__" (spSayStr (He.ga K "Saying")) := ⟨_, fdS, _, mS.at_, mS.fn, FS.bindsN fun _ _ _ _ _ _ us hl => match us, hl with | [_], _ => rfl, ok_sayStr FS SC⟩
  have DP : PrD P w K mg base CX0 1 (He.ga K "Saying") "point" (spPoint (He.ga K "Saying")) := ⟨_, _, fdP, _, cl, pP, FP.bindsN fun _ _ _ _ _ _ us hl => match us, hl with | [_], _ => rfl, ok_sayPoint FP SC⟩
  exact ok_law FL T SC hSay hne D3 D4 D6 DS DA DK DE DT DP

end Q
open PySem PySem.W PySem.Calls PyProof.Rows
theorem PySem.Challenge.cw_soundtill_k02_sayings_in_order_holds : PySem.Challenge.rw_soundtill_k02_sayings_in_order.Holds := by
  w_on; o_law
  refine HandSHeadRun.head_any (r := OpenLaw.row PySem.Challenge.rw_soundtill_k02_sayings_in_order) (q := view (OpenLaw.row PySem.Challenge.rw_soundtill_k02_sayings_in_order).prog [27]) (H := Q.hkL) (ob := Q.obL) (M := 4000) (loose := ["_wall", "__name__", "TillError", "BadName", "BadMoment", "BadSaying", "BadText", "RESERVED", "LETTERS", "FIGURES", "MOST_SIGNS", "MOST_FIGURES", "MOST_MOMENT", "is_integer", "is_moment", "is_name", "moment_in", "TRUTHS", "MANY_WORDS", "Saying", "_law_pen", "_law_draw", "_law_pick", "_law_drawn"]) (d := HandSHeadRun.topDef (OpenLaw.row PySem.Challenge.rw_soundtill_k02_sayings_in_order).prog 27) (kwd := []) Q.obL_eq
    (by kernel_rfl) (fun s => by kernel_rfl) Q.runL (by kernel_rfl) (by kernel_rfl) (by kernel_rfl) (by rfl) (by first | assumption | decide +kernel) (by decide +kernel) ⟨rfl, rfl, rfl, rfl, rfl, by decide +kernel⟩ ?hw ?hc
  case hw => w_witness2
  case hc =>
    refine Q.walk_ofA (l := PySem.Challenge.rw_soundtill_k02_sayings_in_order) (n := 63) (k := 6) (x := "_law_script") (CX := L2.CX0) rfl (by decide) (by kernel_rfl) ⟨rfl, by decide, by decide⟩ ?F (fun _ _ _ _ z => z)
    intro w mg fa h Y G hmg0
    obtain ⟨K, KX, c, e⟩ := Y
    have hmg : mg ("law" : PySem.Str) = some (.ref fa) := by
      have e : (HandSHeadRun.topDef (OpenLaw.row PySem.Challenge.rw_soundtill_k02_sayings_in_order).prog 27).name = ("law" : PySem.Str) := by kernel_rfl
      rw [← e]
      exact hmg0
    obtain ⟨fd, hb, hF⟩ := Q.factsL (P := (PySem.Challenge.rw_soundtill_k02_sayings_in_order).prog) (w := w) KX G hmg c e
    exact ⟨K, fd, Q.spLaw K, KX, hb, fun H a ns hl _ hS => ⟨a, ns, rfl, hS, hl, fun _ => rfl⟩, hF⟩
