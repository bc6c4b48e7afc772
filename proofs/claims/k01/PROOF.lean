import PyProof.Rows.All
import Wide.All
import OpenK.AllK
import Wide.FinOn
import HandS.ForMost
import HandS.ForExc
import HandS.Wide
import HandS.Flow
import HandS.IsInst
import HandS.ExcIs
import HandS.Conv
import HandS.SetFor
import HandS.More
import PySem.Challenge.RW_stephall_k01_figures_and_pulses
set_option Elab.async false
set_option maxRecDepth 100000
set_option linter.all false
namespace L2.Zs
open PySem
/-! ## separate pieces of the heap -/
abbrev As := Hp → Prop
def Imm : HO → Bool
  | .tup _ => true
  | _ => false
def Le (H1 H : Hp) : Prop := ∀ a o, H1 a = some o → H a = some o
def Dj (H1 H2 : Hp) : Prop := ∀ a o, H1 a = some o → ∀ o', H2 a = some o' → Imm o = true ∧ Imm o' = true
theorem Dj.symm {H1 H2 : Hp} (d : Dj H1 H2) : Dj H2 H1 := fun a o h o' h' => ⟨(d a o' h' o h).2, (d a o' h' o h).1⟩
theorem Le.refl (H : Hp) : Le H H := fun _ _ h => h
theorem Le.trans {H1 H2 H3 : Hp} (a : Le H1 H2) (b : Le H2 H3) : Le H1 H3 := fun x o h => b x o (a x o h)
theorem Dj.le {H1 H2 H1' H2' : Hp} (d : Dj H1 H2) (a : Le H1' H1) (b : Le H2' H2) : Dj H1' H2' := fun x o h o' h' => d x o (a x o h) o' (b x o' h')
def uni (H1 H2 : Hp) : Hp := fun a => (H1 a).or (H2 a)
theorem uni_or {H1 H2 : Hp} {a : Addr} {o : HO} (h : uni H1 H2 a = some o) : H1 a = some o ∨ H2 a = some o := by
  unfold uni at h
  cases e : H1 a with
  | none => rw [e] at h; exact .inr h
  | some u => rw [e] at h; exact .inl h
theorem uni_le {H1 H2 H : Hp} (a : Le H1 H) (b : Le H2 H) : Le (uni H1 H2) H := fun x o h => (uni_or h).elim (a x o) (b x o)
theorem le_uni1 {H1 H2 : Hp} : Le H1 (uni H1 H2) := fun x o h => by unfold uni; rw [h]; rfl
theorem le_uni2 {H1 H2 H : Hp} (a : Le H1 H) (b : Le H2 H) : Le H2 (uni H1 H2) := fun x o h => by
  unfold uni
  cases e : H1 x with
  | none => exact h
  | some u => have := (a x u e).symm.trans (b x o h); exact this
theorem dj_uni {H1 H2 H3 : Hp} (a : Dj H1 H3) (b : Dj H2 H3) : Dj (uni H1 H2) H3 := fun x o h o' h' => (uni_or h).elim (fun h => a x o h o' h') (fun h => b x o h o' h')
/-- the chunks stand apart (written tuples may be shared) -/
def Sep : List As → As
  | [] => fun _ => True
  | c :: cs => fun H => ∃ H1 H2, Le H1 H ∧ Le H2 H ∧ Dj H1 H2 ∧ c H1 ∧ Sep cs H2
theorem Sep.up {cs : List As} {H H' : Hp} (h : Sep cs H) (l : Le H H') : Sep cs H' := by
  cases cs with
  | nil => trivial
  | cons c cs =>
    obtain ⟨H1, H2, a, b, d, x, y⟩ := h
    exact ⟨H1, H2, a.trans l, b.trans l, d, x, y⟩
theorem Sep.swap {c d : As} {cs : List As} {H : Hp} (h : Sep (c :: d :: cs) H) : Sep (d :: c :: cs) H := by
  obtain ⟨H1, H2, a, b, e, x, H3, H4, a2, b2, e2, x2, y⟩ := h
  refine ⟨H3, uni H1 H4, a2.trans b, uni_le a (b2.trans b), ?_, x2, H1, H4, le_uni1, le_uni2 a (b2.trans b), e.le (Le.refl _) b2, x, y⟩
  exact (dj_uni (e.le (Le.refl _) a2) e2.symm).symm
theorem Sep.cons {c : As} {cs cs' : List As} (f : ∀ H, Sep cs H → Sep cs' H) {H : Hp} (h : Sep (c :: cs) H) : Sep (c :: cs') H := by
  obtain ⟨H1, H2, a, b, e, x, y⟩ := h
  exact ⟨H1, H2, a, b, e, x, f _ y⟩
theorem Sep.tail {c : As} {cs : List As} {H : Hp} (h : Sep (c :: cs) H) : Sep cs H := by
  obtain ⟨H1, H2, a, b, e, x, y⟩ := h
  exact y.up b
theorem Sep.imp {c c' : As} {cs : List As} {H : Hp} (h : Sep (c :: cs) H) (f : ∀ H, c H → c' H) : Sep (c' :: cs) H := by
  obtain ⟨H1, H2, a, b, e, x, y⟩ := h
  exact ⟨H1, H2, a, b, e, f _ x, y⟩
/-- c stands in cs, the others are ds -/
inductive Pick : As → List As → List As → Prop
  | here {c cs} : Pick c (c :: cs) cs
  | there {c d cs ds} : Pick c cs ds → Pick c (d :: cs) (d :: ds)
theorem Sep.pick {c : As} {cs ds : List As} (p : Pick c cs ds) {H : Hp} (h : Sep cs H) : Sep (c :: ds) H := by
  induction p generalizing H with
  | here => exact h
  | there p ih => exact Sep.swap (Sep.cons (fun _ => ih) h)
theorem Sep.unpick {c : As} {cs ds : List As} (p : Pick c cs ds) {H : Hp} (h : Sep (c :: ds) H) : Sep cs H := by
  induction p generalizing H with
  | here => exact h
  | there p ih => exact Sep.cons (fun _ => ih) (Sep.swap h)
/-- the chunks ps stand in cs, the others are F -/
inductive Sub : List As → List As → List As → Prop
  | nil {cs} : Sub cs [] cs
  | cons {c ps cs ds F} : Pick c cs ds → Sub ds ps F → Sub cs (c :: ps) F
theorem Sub.sep {cs ps F : List As} (s : Sub cs ps F) {H : Hp} (h : Sep cs H) : Sep (ps ++ F) H := by
  induction s generalizing H with
  | nil => exact h
  | cons p s ih => exact Sep.cons (fun _ => ih) (Sep.pick p h)
theorem Sub.unsep {cs ps F : List As} (s : Sub cs ps F) {H : Hp} (h : Sep (ps ++ F) H) : Sep cs H := by
  induction s generalizing H with
  | nil => exact h
  | cons p s ih => exact Sep.unpick p (Sep.cons (fun _ => ih) h)
theorem Sep.drop {ps F : List As} {H : Hp} (h : Sep (ps ++ F) H) : Sep F H := by
  induction ps generalizing H with
  | nil => exact h
  | cons c ps ih => exact ih h.tail
theorem Sep.left {ps F : List As} {H : Hp} (h : Sep (ps ++ F) H) : Sep ps H := by
  induction ps generalizing H with
  | nil => trivial
  | cons c ps ih => exact Sep.cons (fun _ => ih) h
theorem Sep.rot {ps F : List As} {H : Hp} (h : Sep (ps ++ F) H) : Sep (F ++ ps) H := by
  induction F generalizing ps H with
  | nil => rw [List.append_nil] at h; exact h
  | cons c F ih =>
    have p : Pick c (ps ++ c :: F) (ps ++ F) := by
      clear ih h
      induction ps with
      | nil => exact .here
      | cons d ps ih => exact .there ih
    exact Sep.cons (fun _ => ih) (Sep.pick p h)
/-- some chunks as one -/
def star (cs : List As) : As := fun H => Sep cs H
theorem Sep.flat {ps F : List As} {H : Hp} (h : Sep (star ps :: F) H) : Sep (ps ++ F) H := by
  obtain ⟨H1, H2, a, b, e, x, y⟩ := h
  induction ps generalizing H1 H with
  | nil => exact y.up b
  | cons c ps ih =>
    obtain ⟨H3, H4, a2, b2, e2, x2, y2⟩ := (show Sep (c :: ps) H1 from x)
    refine ⟨H3, uni H4 H2, a2.trans a, uni_le (b2.trans a) b, ?_, x2, ?_⟩
    · exact (dj_uni e2.symm (e.le a2 (Le.refl _)).symm).symm
    · exact ih H4 le_uni1 (le_uni2 (b2.trans a) b) (e.le b2 (Le.refl _)) y2
theorem Sep.unflat {ps F : List As} {H : Hp} (h : Sep (ps ++ F) H) : Sep (star ps :: F) H := by
  induction ps generalizing H with
  | nil => exact ⟨fun _ => none, H, (fun _ _ q => nomatch q), Le.refl _, (fun _ _ q => nomatch q), trivial, h⟩
  | cons c ps ih =>
    obtain ⟨H1, H2, a, b, e, x, y⟩ := h
    obtain ⟨H3, H4, a2, b2, e2, x2, y2⟩ := ih y
    refine ⟨uni H1 H3, H4, uni_le a (a2.trans b), b2.trans b, ?_, ?_, y2⟩
    · exact dj_uni (e.le (Le.refl _) b2) e2
    · exact ⟨H1, H3, le_uni1, le_uni2 a (a2.trans b), e.le (Le.refl _) a2, x, x2⟩
/-- a chunk with something unnamed in it -/
def ex {α : Type} (f : α → As) : As := fun H => ∃ x, f x H
theorem Sep.ex {α : Type} {f : α → As} {F : List As} {H : Hp} (h : Sep (Zs.ex f :: F) H) : ∃ x, Sep (f x :: F) H := by
  obtain ⟨H1, H2, a, b, e, ⟨x, q⟩, y⟩ := h
  exact ⟨x, H1, H2, a, b, e, q, y⟩
theorem Sep.exI {α : Type} {f : α → As} {F : List As} {H : Hp} (x : α) (h : Sep (f x :: F) H) : Sep (Zs.ex f :: F) H := by
  obtain ⟨H1, H2, a, b, e, q, y⟩ := h
  exact ⟨H1, H2, a, b, e, ⟨x, q⟩, y⟩
/-- a plain fact -/
def pu (p : Prop) : As := fun _ => p
theorem Sep.pu {p : Prop} {F : List As} {H : Hp} (h : Sep (Zs.pu p :: F) H) : p ∧ Sep F H := by
  obtain ⟨H1, H2, a, b, e, q, y⟩ := h
  exact ⟨q, y.up b⟩
theorem Sep.puI {p : Prop} {F : List As} {H : Hp} (q : p) (h : Sep F H) : Sep (Zs.pu p :: F) H :=
  ⟨fun _ => none, H, (fun _ _ q => nomatch q), Le.refl _, (fun _ _ q => nomatch q), q, h⟩
/-- one object -/
def pt (a : Addr) (o : HO) : As := fun H => H a = some o
theorem Sep.hd {a : Addr} {o : HO} {F : List As} {H : Hp} (h : Sep (pt a o :: F) H) : H a = some o := by
  obtain ⟨H1, H2, l, _, _, q, _⟩ := h
  exact l _ _ q
theorem Sep.get {a : Addr} {o : HO} {cs ds : List As} {H : Hp} (h : Sep cs H) (p : Pick (pt a o) cs ds) : H a = some o := (h.pick p).hd
theorem Sep.new {a : Addr} {o : HO} {cs : List As} {H : Hp} (h : Sep cs H) (n : H a = none) : Sep (pt a o :: cs) (upd H a o) := by
  refine ⟨upd (fun _ => none) a o, H, fun x u q => ?_, fun x u q => ?_, fun x u q u' q' => ?_, upd_same, h⟩
  · by_cases e : x = a
    · subst e; rw [upd_same] at q; rw [upd_same]; exact q
    · rw [upd_ne e] at q; cases q
  · rw [upd_ne (ne_of_none q n)]; exact q
  · by_cases e : x = a
    · subst e; rw [n] at q'; cases q'
    · rw [upd_ne e] at q; cases q
theorem Sep.setHd {a : Addr} {o o' : HO} {F : List As} {H : Hp} (h : Sep (pt a o :: F) H) (m : Imm o = false) : Sep (pt a o' :: F) (upd H a o') := by
  obtain ⟨H1, H2, l1, l2, d, q, y⟩ := h
  have n : H2 a = none := by
    cases e : H2 a with
    | none => rfl
    | some u => have z := (d a o q u e).1; rw [m] at z; cases z
  refine ⟨upd H1 a o', H2, fun x u q => ?_, fun x u q => ?_, fun x u q u' q' => ?_, upd_same, y⟩
  · by_cases e : x = a
    · subst e; rw [upd_same] at q; rw [upd_same]; exact q
    · rw [upd_ne e] at q; rw [upd_ne e]; exact l1 _ _ q
  · rw [upd_ne (ne_of_none q n)]; exact l2 _ _ q
  · by_cases e : x = a
    · subst e; rw [n] at q'; cases q'
    · rw [upd_ne e] at q; exact d x u q u' q'
/-- c in cs is c' in cs' -/
inductive Chg : As → As → List As → List As → Prop
  | here {c c' cs} : Chg c c' (c :: cs) (c' :: cs)
  | there {c c' d cs cs'} : Chg c c' cs cs' → Chg c c' (d :: cs) (d :: cs')
theorem Chg.pick {c c' : As} {cs cs' : List As} (g : Chg c c' cs cs') : ∃ ds, Pick c cs ds ∧ Pick c' cs' ds := by
  induction g with
  | here => exact ⟨_, .here, .here⟩
  | there g ih =>
    obtain ⟨ds, h1, h2⟩ := ih
    exact ⟨_, .there h1, .there h2⟩
theorem Sep.set {a : Addr} {o o' : HO} {cs cs' : List As} {H : Hp} (h : Sep cs H) (g : Chg (pt a o) (pt a o') cs cs') (m : Imm o = false) : Sep cs' (upd H a o') := by
  obtain ⟨ds, p1, p2⟩ := g.pick
  exact Sep.unpick p2 ((Sep.pick p1 h).setHd m)
theorem Sep.chg {c c' : As} {cs cs' : List As} {H : Hp} (h : Sep cs H) (g : Chg c c' cs cs') (f : ∀ H, c H → c' H) : Sep cs' H := by
  obtain ⟨ds, p1, p2⟩ := g.pick
  exact Sep.unpick p2 ((Sep.pick p1 h).imp f)
theorem Sep.dup {t : Addr} {xs : List V} {F : List As} {H : Hp} (h : Sep (pt t (.tup xs) :: F) H) : Sep (pt t (.tup xs) :: pt t (.tup xs) :: F) H := by
  obtain ⟨H1, H2, l1, l2, d, q, y⟩ := h
  let G : Hp := upd (fun _ => none) t (.tup xs)
  have hG : G t = some (.tup xs) := upd_same
  have lG : Le G H1 := fun x u e => by
    by_cases z : x = t
    · subst z; rw [hG] at e; cases e; exact q
    · rw [show G x = none from upd_ne z] at e; cases e
  have im : ∀ x u, G x = some u → Imm u = true := fun x u e => by
    by_cases z : x = t
    · subst z; rw [hG] at e; cases e; rfl
    · rw [show G x = none from upd_ne z] at e; cases e
  refine ⟨G, uni G H2, lG.trans l1, uni_le (lG.trans l1) l2, fun x u e u' e' => ?_, hG, G, H2, le_uni1, le_uni2 (lG.trans l1) l2, d.le lG (Le.refl _), hG, y⟩
  refine ⟨im x u e, ?_⟩
  rcases uni_or e' with e' | e'
  · exact im x u' e'
  · exact (d x u (lG x u e) u' e').2
/-- two chunks that are owned stand at two places -/
theorem Sep.ne {a b : Addr} {o u : HO} {F : List As} {H : Hp} (h : Sep (pt a o :: pt b u :: F) H) (m : Imm o = false) : a ≠ b := by
  obtain ⟨H1, H2, l1, l2, d, q, H3, H4, l3, l4, d2, q2, y⟩ := h
  intro e
  subst e
  have z := (d a o q u (l3 _ _ q2)).1
  rw [m] at z
  cases z
/-- the law's list, read alone -/
def sq (K : PySem.W.Frag) (a : Addr) (xs : List V) : As := fun H => SqL K H a xs
theorem Sep.sq {K : PySem.W.Frag} {a : Addr} {xs : List V} {cs ds : List As} {H : Hp} (h : Sep cs H) (p : Pick (Zs.sq K a xs) cs ds) : SqL K H a xs := by
  obtain ⟨H1, H2, l, _, _, q, _⟩ := h.pick p
  rcases q with (q | ⟨o, q⟩) | q
  · exact .inl (.inl (l _ _ q))
  · exact .inl (.inr ⟨o, l _ _ q⟩)
  · exact .inr q
/-- ds stands in cs, the rest is let go -/
inductive Wk : List As → List As → Prop
  | refl {cs} : Wk cs cs
  | pick {c cs ds es} : Pick c cs ds → Wk ds es → Wk cs (c :: es)
  | drop {c cs ds} : Wk cs ds → Wk (c :: cs) ds
theorem Wk.sep {cs ds : List As} (k : Wk cs ds) {H : Hp} (h : Sep cs H) : Sep ds H := by
  induction k generalizing H with
  | refl => exact h
  | pick p k ih => exact Sep.cons (fun _ => ih) (Sep.pick p h)
  | drop k ih => exact ih h.tail
theorem Sep.nil (H : Hp) : Sep [] H := trivial
end L2.Zs
namespace L2.Zs
open PySem PySem.Spec PyProof.Rows
/-! ## calls, whatever they let out is W's -/
section
variable {P : Program} {w : World} {K : PySem.W.Frag} {mg : Str → Option Value} {base : Heap}
/-- the def that the module calls x keeps sp -/
def Cal (P : Program) (w : World) (K : PySem.W.Frag) (mg : Str → Option Value) (base : Heap) (k : Nat) (x : Str) (sp : Sp) : Prop :=
  ∃ f fd ps, FnOk P w K mg base (L2.CX P w) k f fd ps sp ∧ mg x = some (.ref f) ∧ PySem.W.keepIn K (.ref f) = true ∧ Binds K fd ps []
/-- the method m of the class at C keeps sp -/
def Met (P : Program) (w : World) (K : PySem.W.Frag) (mg : Str → Option Value) (base : Heap) (k : Nat) (C : Addr) (m : Str) (sp : Sp) : Prop :=
  ∃ f fd ps, FnOk P w K mg base (L2.CX P w) k f fd ps sp ∧ Meth K C m f ∧ Cls K C ∧ Binds K fd ps []
/-- the class that the module calls x, at C, is made by sp -/
def Mak (P : Program) (w : World) (K : PySem.W.Frag) (mg : Str → Option Value) (base : Heap) (k : Nat) (x : Str) (C : Addr) (sp : Sp) : Prop :=
  ∃ f fd ps, FnOk P w K mg base (L2.CX P w) k f fd ps sp ∧ mg x = some (.ref C) ∧ Mk K C f ∧ Binds K fd ps []
end
def tMt (Cs : List Addr) (m : Str) (sp : Addr → Sp) (E : St → XK) (ta : TE) (t : TA) : TE := fun σ H Q => ta σ H fun x H1 => ∃ a C dx fs, x = .ref a ∧ H1 a = some (.ins C dx fs) ∧ C ∈ Cs ∧ fs.lookup m = none ∧
  t σ H1 fun vs H2 => sp C (x :: vs) H2 Q (E σ)
def tMk (C : Addr) (sp : Sp) (E : St → XK) (t : TA) : TE := fun σ H Q => t σ H fun vs H1 => ∀ x dx, H1 x = none → H1 dx = none → dx ≠ x →
  sp (.ref x :: vs) (upd (upd H1 dx (.own x)) x (.ins C dx [])) (fun v H2 => v = .non ∧ Q (.ref x) H2) (E σ)
section
variable {X : Cx} {W : WX} {k j : Nat} {f C : Addr} {fd : FuncData} {ps : List Str} {sp : Sp} {x m : Str} {p pos apos : Pos} {e o : Expr} {es : List Expr} {ta : TE} {t : TA}
theorem run_makeS {pins : List (Addr × Obj)} {σ : St} {H : Hp} {s : Shared} {Q : VK} {us : List Value} {vs : List V} {E : St → XK} (M : Mk X.K C f) (F : FnOk X.prog X.w X.K X.mg X.base (L2.CX X.prog X.w) k f fd ps sp) (hr : Room (k + 1) X.A) (hb : Binds X.K fd ps [])
    (hx : PassesAt (L2.CX X.prog X.w) X σ (E σ)) (I : Inv X pins σ H s) (r : Vals vs us)
    (h : ∀ x dx, H x = none → H dx = none → dx ≠ x → sp (.ref x :: vs) (upd (upd H dx (.own x)) x (.ins C dx [])) (fun v H2 => v = .non ∧ Q (.ref x) H2) (E σ)) :
    wpAny (model X.prog X.w) X.A (call (.ref C) us) (EP X pins σ Q) X.xe s := by
  have hq := h (s.heap.objs.size + 1) s.heap.objs.size (I.hok.fresh (Nat.le_succ _)) (I.hok.fresh (Nat.le_refl _)) (Nat.ne_of_lt (Nat.lt_succ_self _))
  have I2 := Inv.made (C := C) I
  have r2 : Vals (V.ref (s.heap.objs.size + 1) :: vs) (Value.ref (s.heap.objs.size + 1) :: us) := .cons rfl r
  have hl : (Value.ref (s.heap.objs.size + 1) :: us).length = ps.length := by
    have e := r2.length
    rw [F.len _ _ _ _ hq] at e
    exact e.symm
  have hb' := hb _ (Value.ref (s.heap.objs.size + 1) :: us) I2.kIn (by rw [List.append_nil]; exact hl)
  rw [List.append_nil] at hb'
  refine wpAny_call (make_map (f := f) I.kIn M.makes M.init (beq_iff_eq.mp M.fn) (codeAny_mono (F.run _ X.stack _ _ ⟨Value.ref (s.heap.objs.size + 1) :: us, []⟩ (Value.ref (s.heap.objs.size + 1) :: us) _ _ (E σ) (hr.make C us [])
    (I2.env0.make C us []) hb' r2 hq) fun r s' hq' => ?_))
  cases r with
  | error e => exact hx pins _ _ e s' I2 hq'
  | ok fl =>
    cases fl with
    | ret u =>
      obtain ⟨v, H', I3, rv, ev, q3⟩ := I2.after hq'
      subst ev
      exact ⟨rv, ⟨V.ref (s.heap.objs.size + 1), H', I3, rfl, q3⟩⟩
    | next => exact False.elim hq'
    | brk => exact False.elim hq'
    | cont => exact False.elim hq'
theorem z_call (c : Cal X.prog X.w X.K X.mg X.base k x sp) (tk : Takes X W) (hr : Room j X.A) (hk : k ≤ j) (hg : Gl X x) (ha : PA X (e :: es) t) (hdb : (x == ("__debug__" : Str)) = false := by decide)
    (he : starEach (e :: es) X.env = (false, eval e X.env) :: starEach es X.env := by rfl) (hpl : (backTo pos (starEach es X.env)).any (·.1) = false := by rfl) :
    PE X (.Call (.Name x p) (e :: es) [] pos) (tCallS sp (WE W) t) := by
  obtain ⟨f, fd, ps, F, hm, kp, hb⟩ := c
  exact pe_callS F (hr.mono hk) hg hm kp hb (passAt tk) ha hdb he hpl
theorem z_call0 (c : Cal X.prog X.w X.K X.mg X.base k x sp) (tk : Takes X W) (hr : Room j X.A) (hk : k ≤ j) (hg : Gl X x) (hdb : (x == ("__debug__" : Str)) = false := by decide) :
    PE X (.Call (.Name x p) [] [] pos) (tCallS sp (WE W) tNil) := by
  obtain ⟨f, fd, ps, F, hm, kp, hb⟩ := c
  refine ⟨fun pins s σ H Q I h => ?_⟩
  refine wpAny_Call_Name_kw (ld_glob I hg hm ?_ hdb)
  exact PySem.W.callWith_K0 I.kIn kp (run_fnS (us := []) F (hr.mono hk) hb (passAt tk σ) I .nil h)
theorem z_make (c : Mak X.prog X.w X.K X.mg X.base k x C sp) (tk : Takes X W) (hr : Room j X.A) (hk : k + 1 ≤ j) (hg : Gl X x) (ha : PA X (e :: es) t) (hdb : (x == ("__debug__" : Str)) = false := by decide)
    (he : starEach (e :: es) X.env = (false, eval e X.env) :: starEach es X.env := by rfl) (hpl : (backTo pos (starEach es X.env)).any (·.1) = false := by rfl) :
    PE X (.Call (.Name x p) (e :: es) [] pos) (tMk C sp (WE W) t) := by
  obtain ⟨f, fd, ps, F, hm, M, hb⟩ := c
  refine ⟨fun pins s σ H Q I h => ?_⟩
  refine wpAny_Call_Name_kw (ld_glob I hg hm ?_ hdb)
  refine PySem.W.callWith_K (h₀ := X.base) I.ok.mod.kin M.kp (thn (ha.run pos pins s σ H _ I h) fun us s1 ⟨vs, H1, I1, r, q⟩ => ⟨I1.kIn, ?_⟩) he hpl
  exact run_makeS M F (hr.mono hk) hb (passAt tk σ) I1 r q
theorem z_make0 (c : Mak X.prog X.w X.K X.mg X.base k x C sp) (tk : Takes X W) (hr : Room j X.A) (hk : k + 1 ≤ j) (hg : Gl X x) (hdb : (x == ("__debug__" : Str)) = false := by decide) :
    PE X (.Call (.Name x p) [] [] pos) (tMk C sp (WE W) tNil) := by
  obtain ⟨f, fd, ps, F, hm, M, hb⟩ := c
  refine ⟨fun pins s σ H Q I h => ?_⟩
  refine wpAny_Call_Name_kw (ld_glob I hg hm ?_ hdb)
  exact PySem.W.callWith_K0 I.kIn M.kp (run_makeS (us := []) M F (hr.mono hk) hb (passAt tk σ) I .nil h)
theorem z_meth {pl : Sem Bool} {Cs : List Addr} {sp : Addr → Sp} (he : PE X o ta) (c : ∀ C ∈ Cs, Met X.prog X.w X.K X.mg X.base k C m (sp C)) (tk : Takes X W) (hr : Room j X.A) (hk : k ≤ j) (ha : PA X (e :: es) t)
    (hst : starEach (e :: es) X.env = (false, eval e X.env) :: starEach es X.env := by rfl) (hpl : (backTo pos (starEach es X.env)).any (·.1) = false := by rfl)
    (ht : eval (.Call (.Attribute o m apos) (e :: es) [] pos) X.env = (do
      let ov ← eval o X.env
      standAt apos.atName
      let (f, first) ← holding [ov] (getMethod ov m pl)
      callWith pos f first (backTo pos (starEach (e :: es) X.env)) (backToKw pos (keywordEach [] X.env))) := by rfl) :
    PE X (.Call (.Attribute o m apos) (e :: es) [] pos) (tMt Cs m sp (WE W) ta t) := by
  refine ⟨fun pins s σ H Q I h => ?_⟩
  refine PySem.W.methodCall_KW (pl := pl) (thn (he.run pins s σ H _ I h) fun u s1 ⟨x, H1, I1, rx, a, C, dx, fs, ex, ea, hC, l, q⟩ => ?_) ht
  subst ex
  obtain rfl : u = Value.ref a := rx
  obtain ⟨f, fd, ps, F, hm, cl, hb⟩ := c C hC
  refine getmeth_ok I1 ea cl hm l ?_
  refine PySem.W.callWith_K (first := [.ref a]) (h₀ := X.base) I.ok.mod.kin hm.kp (thn (ha.run pos pins s1 σ H1 _ I1 q) fun us s2 ⟨vs, H2, I2, r, q2⟩ => ⟨I2.kIn, ?_⟩) hst hpl
  exact run_fnS (us := .ref a :: us) (vs := .ref a :: vs) F (hr.mono hk) hb (passAt tk σ) I2 (.cons rfl r) q2
theorem z_meth0 {pl : Sem Bool} {Cs : List Addr} {sp : Addr → Sp} (he : PE X o ta) (c : ∀ C ∈ Cs, Met X.prog X.w X.K X.mg X.base k C m (sp C)) (tk : Takes X W) (hr : Room j X.A) (hk : k ≤ j)
    (ht : eval (.Call (.Attribute o m apos) [] [] pos) X.env = (do
      let ov ← eval o X.env
      standAt apos.atName
      let (f, first) ← holding [ov] (getMethod ov m pl)
      callWith pos f first (backTo pos (starEach [] X.env)) (backToKw pos (keywordEach [] X.env))) := by rfl) :
    PE X (.Call (.Attribute o m apos) [] [] pos) (tMt Cs m sp (WE W) ta tNil) := by
  refine ⟨fun pins s σ H Q I h => ?_⟩
  refine PySem.W.methodCall_KW (pl := pl) (thn (he.run pins s σ H _ I h) fun u s1 ⟨x, H1, I1, rx, a, C, dx, fs, ex, ea, hC, l, q⟩ => ?_) ht
  subst ex
  obtain rfl : u = Value.ref a := rx
  obtain ⟨f, fd, ps, F, hm, cl, hb⟩ := c C hC
  refine getmeth_ok I1 ea cl hm l ?_
  exact PySem.W.callWith_K0 (first := [.ref a]) I1.kIn hm.kp (run_fnS (us := [.ref a]) (vs := [.ref a]) F (hr.mono hk) hb (passAt tk σ) I1 (.cons rfl .nil) q)
end
/-! ## operators of several kinds -/
theorem OpR.or {X : Cx} {f : Value → Value → Sem Value} {r r' : R2} (h : OpR X f r) (h' : OpR X f r') : OpR X f (fun x y H Q => r x y H Q ∨ r' x y H Q) := by
  intro pins s σ H x y v u Q I rx ry q
  rcases q with q | q
  · exact h pins s σ H x y v u Q I rx ry q
  · exact h' pins s σ H x y v u Q I rx ry q
def rAddS : R2 := fun x y H Q => ∃ i j, x = .str i ∧ y = .str j ∧ i.length + j.length ≤ sizeLine ∧ Q (.str (i ++ j)) H
def rAddZ : R2 := fun x y H Q => rI0 (fun i j => .int (i + j)) x y H Q ∨ rAddS x y H Q ∨ rCat x y H Q
def rMulZ : R2 := fun x y H Q => rI CMul (fun i j => .int (i * j)) x y H Q ∨ rRep x y H Q
def rMod : R2 := rI (fun _ j => 0 < j) fun i j => .int (i % j)
def rDiv : R2 := rI CDivW fun i j => .int (i / j)
def rSubI : R2 := rI0 fun i j => .int (i - j)
def rPow : R2 := rI CPow fun i j => .int (i ^ j.toNat)
def rLt : R2 := rI0 fun i j => .bl (decide (i < j))
def rLe : R2 := rI0 fun i j => .bl (decide (i ≤ j))
def rGt : R2 := rI0 fun i j => .bl (decide (j < i))
def rGe : R2 := rI0 fun i j => .bl (decide (j ≤ i))
def rEqZ (K : PySem.W.Frag) : R2 := fun x y H Q => rEq x y H Q ∨ rEqD K x y H Q
def rNeZ (K : PySem.W.Frag) : R2 := fun x y H Q => rNe x y H Q ∨ rNeD K x y H Q
def rIsN : R2 := fun x y H Q => y = .non ∧ Q (.bl (decide (x = .non))) H
def rNotN : R2 := fun x y H Q => y = .non ∧ Q (.bl (!decide (x = .non))) H
def rInS : R2 := fun x y H Q => ∃ (c : Nat) (z : Str), x = .str ⟨#[c]⟩ ∧ y = .str z ∧ Q (.bl (decide (c ∈ z.cps.toList))) H
def rNotInS : R2 := fun x y H Q => ∃ (c : Nat) (z : Str), x = .str ⟨#[c]⟩ ∧ y = .str z ∧ Q (.bl (!decide (c ∈ z.cps.toList))) H
section
variable {X : Cx}
theorem zo_add : OpR X (binaryOp .Add) rAddZ := OpR.or op_add (OpR.or op_add_str op_cat)
theorem zo_mul : OpR X (binaryOp .Mult) rMulZ := OpR.or op_mul op_rep
theorem zo_mod : OpR X (binaryOp .Mod) rMod := op_mod
theorem zo_div : OpR X (binaryOp .FloorDiv) rDiv := op_fdivW
theorem zo_sub : OpR X (binaryOp .Sub) rSubI := op_sub
theorem zo_pow : OpR X (binaryOp .Pow) rPow := op_pow
theorem zo_lt : OpR X (compareOp .Lt) rLt := op_lt
theorem zo_le : OpR X (compareOp .LtE) rLe := op_le
theorem zo_gt : OpR X (compareOp .Gt) rGt := op_gt
theorem zo_ge : OpR X (compareOp .GtE) rGe := op_ge
theorem zo_eq (hu : X.A.units + 64 < cLine) : OpR X (compareOp .Eq) (rEqZ X.K) := OpR.or op_eq (op_eqD hu)
theorem zo_ne (hu : X.A.units + 64 < cLine) : OpR X (compareOp .NotEq) (rNeZ X.K) := OpR.or op_ne (op_neD hu)
theorem zo_isN : OpR X (compareOp .Is) rIsN := op_isN
theorem zo_notN : OpR X (compareOp .IsNot) rNotN := op_notN
theorem zo_inS : OpR X (compareOp .In) rInS := op_in_sign
theorem zo_notInS : OpR X (compareOp .NotIn) rNotInS := op_notIn_sign
theorem zo_inQ : OpR X (compareOp .In) (rIn X.K false) := op_in_seq
theorem zo_notInQ : OpR X (compareOp .NotIn) (rIn X.K true) := op_notIn_seq
end
def tTru (K : PySem.W.Frag) (ta : TE) : TT := fun σ H Q => ta σ H fun x H' => ∃ k, TruV K x H' k ∧ Q k H'
theorem z_tru {X : Cx} {a : Expr} {ta : TE} (ha : PE X a ta) (he : ∀ whole, isTrue a X.env whole = (do let v ← whole; standAt a.pos; holding [v] (truthy v)) := by intro _; rfl) : PT X a (tTru X.K ta) := pt_truth ha he
end L2.Zs
namespace L2.Zs
open PySem PySem.Spec PyProof.Rows
/-! named tails -/
def NewTup (xs : List V) (Q : VK) (H : Hp) : Prop := xs.length ≤ sizeLine ∧ ∀ p, H p = none → Q (.ref p) (upd H p (.tup xs))
def NewLst (xs : List V) (Q : VK) (H : Hp) : Prop := xs.length ≤ sizeLine ∧ ∀ p, H p = none → Q (.ref p) (upd H p (.lst xs))
def FldGet (K : PySem.W.Frag) (f : Str) (x : V) (Q : VK) (H : Hp) : Prop := ∃ a C dx fs v, x = .ref a ∧ H a = some (.ins C dx fs) ∧ Cls K C ∧ NoAttr K C f ∧ fs.lookup f = some v ∧ Q v H
def FldSet (K : PySem.W.Frag) (f : Str) (x y : V) (R : Hp → Prop) (H : Hp) : Prop := ∃ a C dx fs, x = .ref a ∧ H a = some (.ins C dx fs) ∧ Cls K C ∧ NoAttr K C f ∧ fs.length < 1000 ∧ R (upd H a (.ins C dx (putF f y fs)))
def MtGo (Cs : List Addr) (m : Str) (x : V) (R : Addr → Hp → Prop) (H : Hp) : Prop := ∃ a C dx fs, x = .ref a ∧ H a = some (.ins C dx fs) ∧ C ∈ Cs ∧ fs.lookup m = none ∧ R C H
def MkGo (C : Addr) (sp : Sp) (E : XK) (vs : List V) (Q : VK) (H : Hp) : Prop := ∀ x dx, H x = none → H dx = none → dx ≠ x → sp (.ref x :: vs) (upd (upd H dx (.own x)) x (.ins C dx [])) (fun v H2 => v = .non ∧ Q (.ref x) H2) E
def rLen (K : PySem.W.Frag) : List V → Hp → VK → Prop := fun xs H Q => ∃ x n, xs = [x] ∧ LenV K x H n ∧ Q (.int n) H
def rStrI : List V → Hp → VK → Prop := fun xs H Q => ∃ i, xs = [.int i] ∧ i.natAbs.log2 < 1920 ∧ Q (.str (toString i)) H
def rInt1 : List V → Hp → VK → Prop := fun xs H Q => (∃ i, xs = [.int i] ∧ Q (.int i) H) ∨ ∃ k, xs = [.bl k] ∧ Q (.int (if k then 1 else 0)) H
def rIntS : List V → Hp → VK → Prop := fun xs H Q => ∃ a n, xs = [.str a] ∧ PySem.intText? a = some n ∧ a.length ≤ 640 ∧ Q (.int n) H
def rMin2 : List V → Hp → VK → Prop := fun xs H Q => ∃ i j, xs = [.int i, .int j] ∧ Q (.int (if j < i then j else i)) H
def rMax2 : List V → Hp → VK → Prop := fun xs H Q => ∃ i j, xs = [.int i, .int j] ∧ Q (.int (if j > i then j else i)) H
section
variable {X : Cx}
theorem z_len : CallR X (.builtin "len") (rLen X.K) := call_len
theorem z_strI : CallR X (.type "str") rStrI := call_str_int
theorem z_int1 : CallR X (.type "int") rInt1 := call_int1
theorem z_min2 (hc : X.calm = true) : CallR X (.builtin "min") rMin2 := call_min2 hc
theorem z_max2 (hc : X.calm = true) : CallR X (.builtin "max") rMax2 := call_max2 hc
theorem z_intS : CallR X (.type "int") rIntS := call_int_str
end
/-! ## readings, step by step -/
section
variable {K : PySem.W.Frag} {σ : St} {H : Hp} {Q : VK} {v x y : V} {ta tb tc te : TE} {t u : TT} {a b c p q C dx : Addr} {cs ds cs' : List As} {D : Ends} {t1 t2 : TS} {QA : List V → Hp → Prop} {QT : Bool → Hp → Prop} {tr : TA} {xs ys : List V} {i j : Int} {z z' : Str}
theorem s_var {i : Nat} (h : σ[i]? = some (some v)) (k : Q v H) : tVar i σ H Q := ⟨v, h, k⟩
theorem s_c (k : Q v H) : tC v σ H Q := k
theorem s_op {r : R2} (k : ta σ H fun x H1 => tb σ H1 fun y H2 => r x y H2 Q) : tOp r ta tb σ H Q := k
theorem s_un {r : V → Hp → VK → Prop} (k : ta σ H fun x H1 => r x H1 Q) : tUn r ta σ H Q := k
theorem s_addI (k : Q (.int (i + j)) H) : rAddZ (.int i) (.int j) H Q := .inl ⟨i, j, rfl, rfl, k⟩
theorem s_addS (h : z.length + z'.length ≤ sizeLine) (k : Q (.str (z ++ z')) H) : rAddZ (.str z) (.str z') H Q := .inr (.inl ⟨z, z', rfl, rfl, h, k⟩)
theorem s_addL (S : Sep cs H) (p1 : Pick (pt a (.lst xs)) cs ds) (p2 : Pick (pt b (.lst ys)) cs cs') (h : xs.length + ys.length ≤ sizeLine) (k : ∀ p H', Sep (pt p (.lst (xs ++ ys)) :: cs) H' → Q (.ref p) H') : rAddZ (.ref a) (.ref b) H Q :=
  .inr (.inr ⟨a, b, xs, ys, rfl, rfl, S.get p1, S.get p2, h, fun p n => k p _ (S.new n)⟩)
theorem s_mulI (h : CMul i j) (k : Q (.int (i * j)) H) : rMulZ (.int i) (.int j) H Q := .inl ⟨i, j, rfl, rfl, h, k⟩
theorem s_mulL (S : Sep cs H) (p1 : Pick (pt a (.lst xs)) cs ds) (h0 : -(2 ^ 63) ≤ j) (h1 : j < 2 ^ 63) (h : xs.length * j.toNat ≤ sizeLine) (k : ∀ p H', Sep (pt p (.lst (List.replicate j.toNat xs).flatten) :: cs) H' → Q (.ref p) H') : rMulZ (.ref a) (.int j) H Q := by
  refine .inr ⟨a, j, xs, rfl, rfl, S.get p1, h0, h1, h, fun p n => ?_⟩
  first
    | exact k p _ (S.new n)
    | (have := k p _ (S.new n); simpa using this)
theorem s_sub (k : Q (.int (i - j)) H) : rSubI (.int i) (.int j) H Q := ⟨i, j, rfl, rfl, k⟩
theorem s_mod (h : 0 < j) (k : Q (.int (i % j)) H) : rMod (.int i) (.int j) H Q := ⟨i, j, rfl, rfl, h, k⟩
theorem s_div (h : CDivW i j) (k : Q (.int (i / j)) H) : rDiv (.int i) (.int j) H Q := ⟨i, j, rfl, rfl, h, k⟩
theorem s_pow (h : CPow i j) (k : Q (.int (i ^ j.toNat)) H) : rPow (.int i) (.int j) H Q := ⟨i, j, rfl, rfl, h, k⟩
theorem s_lt (k : Q (.bl (decide (i < j))) H) : rLt (.int i) (.int j) H Q := ⟨i, j, rfl, rfl, k⟩
theorem s_le (k : Q (.bl (decide (i ≤ j))) H) : rLe (.int i) (.int j) H Q := ⟨i, j, rfl, rfl, k⟩
theorem s_gt (k : Q (.bl (decide (j < i))) H) : rGt (.int i) (.int j) H Q := ⟨i, j, rfl, rfl, k⟩
theorem s_ge (k : Q (.bl (decide (j ≤ i))) H) : rGe (.int i) (.int j) H Q := ⟨i, j, rfl, rfl, k⟩
theorem s_isN (k : Q (.bl (decide (x = .non))) H) : rIsN x .non H Q := ⟨rfl, k⟩
theorem s_notN (k : Q (.bl (!decide (x = .non))) H) : rNotN x .non H Q := ⟨rfl, k⟩
theorem s_eq (h : scal x y = true) (k : Q (.bl (decide (x = y))) H) : rEqZ K x y H Q := .inl ⟨h, k⟩
theorem s_ne (h : scal x y = true) (k : Q (.bl (!decide (x = y))) H) : rNeZ K x y H Q := .inl ⟨h, k⟩
theorem s_eqI (k : Q (.bl (decide (i = j))) H) : rEqZ K (.int i) (.int j) H Q := by
  refine .inl ⟨rfl, ?_⟩
  have e : decide (V.int i = V.int j) = decide (i = j) := by simp only [V.int.injEq]
  rw [e]
  exact k
theorem s_neI (k : Q (.bl (!decide (i = j))) H) : rNeZ K (.int i) (.int j) H Q := by
  refine .inl ⟨rfl, ?_⟩
  have e : decide (V.int i = V.int j) = decide (i = j) := by simp only [V.int.injEq]
  rw [e]
  exact k
theorem s_eqS (k : Q (.bl (decide (z = z'))) H) : rEqZ K (.str z) (.str z') H Q := by
  refine .inl ⟨rfl, ?_⟩
  have e : decide (V.str z = V.str z') = decide (z = z') := by simp only [V.str.injEq]
  rw [e]
  exact k
theorem s_neS (k : Q (.bl (!decide (z = z'))) H) : rNeZ K (.str z) (.str z') H Q := by
  refine .inl ⟨rfl, ?_⟩
  have e : decide (V.str z = V.str z') = decide (z = z') := by simp only [V.str.injEq]
  rw [e]
  exact k
theorem s_eqD {d e : PyData} (hd : Dp K H x d) (he : Dp K H y e) (h1 : SeqAt.shaped d = true) (h2 : SeqAt.shaped e = true) (k : Q (.bl (PyData.eqv d e)) H) : rEqZ K x y H Q := .inr ⟨d, e, hd, he, h1, h2, k⟩
theorem s_neD {d e : PyData} (hd : Dp K H x d) (he : Dp K H y e) (h1 : SeqAt.shaped d = true) (h2 : SeqAt.shaped e = true) (k : Q (.bl (!PyData.eqv d e)) H) : rNeZ K x y H Q := .inr ⟨d, e, hd, he, h1, h2, k⟩
theorem s_inS {c : Nat} (k : Q (.bl (decide (c ∈ z.cps.toList))) H) : rInS (.str ⟨#[c]⟩) (.str z) H Q := ⟨c, z, rfl, rfl, k⟩
theorem s_notInS {c : Nat} (k : Q (.bl (!decide (c ∈ z.cps.toList))) H) : rNotInS (.str ⟨#[c]⟩) (.str z) H Q := ⟨c, z, rfl, rfl, k⟩
theorem s_inL (S : Sep cs H) (p1 : Pick (pt a (.lst xs)) cs ds) (hx : flatV x = true) (hs : xs.all flatV = true) (k : Q (.bl (inV x xs)) H) : rIn K false x (.ref a) H Q := ⟨a, xs, rfl, .inl (SqL.of (S.get p1)), hx, hs, k⟩
theorem s_notInL (S : Sep cs H) (p1 : Pick (pt a (.lst xs)) cs ds) (hx : flatV x = true) (hs : xs.all flatV = true) (k : Q (.bl (!inV x xs)) H) : rIn K true x (.ref a) H Q := ⟨a, xs, rfl, .inl (SqL.of (S.get p1)), hx, hs, k⟩
theorem s_inT (S : Sep cs H) (p1 : Pick (pt a (.tup xs)) cs ds) (hx : flatV x = true) (hs : xs.all flatV = true) (k : Q (.bl (inV x xs)) H) : rIn K false x (.ref a) H Q := ⟨a, xs, rfl, .inr (SqT.of (S.get p1)), hx, hs, k⟩
theorem s_notInT (S : Sep cs H) (p1 : Pick (pt a (.tup xs)) cs ds) (hx : flatV x = true) (hs : xs.all flatV = true) (k : Q (.bl (!inV x xs)) H) : rIn K true x (.ref a) H Q := ⟨a, xs, rfl, .inr (SqT.of (S.get p1)), hx, hs, k⟩
/-- items by place -/
theorem s_ixL (S : Sep cs H) (p1 : Pick (pt a (.lst xs)) cs ds) (h : atI xs i = some v) (k : Q v H) : rIx K (.ref a) (.int i) H Q := .inl ⟨a, xs, i, v, rfl, rfl, SqL.of (S.get p1), h, k⟩
theorem s_ixQ (S : Sep cs H) (p1 : Pick (sq K a xs) cs ds) (h : atI xs i = some v) (k : Q v H) : rIx K (.ref a) (.int i) H Q := .inl ⟨a, xs, i, v, rfl, rfl, S.sq p1, h, k⟩
theorem s_ixT (S : Sep cs H) (p1 : Pick (pt a (.tup xs)) cs ds) (h : atI xs i = some v) (k : Q v H) : rIx K (.ref a) (.int i) H Q := .inr (.inl ⟨a, xs, i, v, rfl, rfl, SqT.of (S.get p1), h, k⟩)
theorem s_ixS {c : Nat} (h0 : z.length ≤ sizeLine) (h : atI z.cps.toList i = some c) (k : Q (.str ⟨#[c]⟩) H) : rIx K (.str z) (.int i) H Q := .inr (.inr ⟨z, i, c, rfl, rfl, h0, h, k⟩)
/-! tests -/
theorem s_test (k : te σ H fun x H' => ∃ k, x = .bl k ∧ QT k H') : tTest te σ H QT := k
theorem s_tB (k : te σ H fun x H' => ∃ k, x = .bl k ∧ QT k H') : tB te σ H QT := k
theorem s_bl {b : Bool} {R : Bool → Prop} (k : R b) : ∃ c, V.bl b = .bl c ∧ R c := ⟨b, rfl, k⟩
theorem s_tru (k : te σ H fun x H' => ∃ k, TruV K x H' k ∧ QT k H') : tTru K te σ H QT := k
theorem s_truB {b : Bool} {R : Bool → Prop} (k : R b) : ∃ c, TruV K (.bl b) H c ∧ R c := ⟨b, rfl, k⟩
theorem s_truN {R : Bool → Prop} (k : R false) : ∃ c, TruV K .non H c ∧ R c := ⟨false, rfl, k⟩
theorem s_truI {R : Bool → Prop} (k : R (i != 0)) : ∃ c, TruV K (.int i) H c ∧ R c := ⟨_, rfl, k⟩
theorem s_truS {R : Bool → Prop} (h : z.length ≤ sizeLine) (k : R ((z.length : Int) != 0)) : ∃ c, TruV K (.str z) H c ∧ R c := ⟨_, ⟨h, rfl⟩, k⟩
theorem s_truL {R : Bool → Prop} (S : Sep cs H) (p1 : Pick (pt a (.lst xs)) cs ds) (k : R (!xs.isEmpty)) : ∃ c, TruV K (.ref a) H c ∧ R c := ⟨_, .inl ⟨xs, SqL.of (S.get p1), rfl⟩, k⟩
theorem s_truT {R : Bool → Prop} (S : Sep cs H) (p1 : Pick (pt a (.tup xs)) cs ds) (k : R (!xs.isEmpty)) : ∃ c, TruV K (.ref a) H c ∧ R c := ⟨_, .inr (.inl ⟨xs, SqT.of (S.get p1), rfl⟩), k⟩
theorem s_and (k : t σ H fun c H1 => if c = true then u σ H1 QT else QT false H1) : tAnd t u σ H QT := k
theorem s_or (k : t σ H fun c H1 => if c = true then QT true H1 else u σ H1 QT) : tOr t u σ H QT := k
theorem s_not (k : t σ H fun c H1 => QT (!c) H1) : tNot t σ H QT := k
theorem s_andV (k : ta σ H fun x H1 => ∃ c, x = .bl c ∧ if c = true then tb σ H1 Q else Q (.bl false) H1) : tAndV ta tb σ H Q := k
theorem s_orV (k : ta σ H fun x H1 => ∃ c, x = .bl c ∧ if c = true then Q (.bl true) H1 else tb σ H1 Q) : tOrV ta tb σ H Q := k
theorem s_notV (k : ta σ H fun x H1 => ∃ c, x = .bl c ∧ Q (.bl (!c)) H1) : tNotV ta σ H Q := k
theorem s_if (k : t σ H fun c H1 => if c = true then ta σ H1 Q else tb σ H1 Q) : tIf t ta tb σ H Q := k
theorem s_orT (k : ta σ H fun x H1 => ∃ k, TruV K x H1 k ∧ if k = true then Q x H1 else tb σ H1 Q) : tOrT K ta tb σ H Q := k
theorem s_t {A B : Prop} (k : A) : if true = true then A else B := by rw [if_pos rfl]; exact k
theorem s_f {A B : Prop} (k : B) : if false = true then A else B := by rw [if_neg Bool.false_ne_true]; exact k
theorem s_ite {b : Bool} {A B : Prop} (h1 : b = true → A) (h2 : b = false → B) : if b = true then A else B := by
  cases b with
  | true => exact s_t (h1 rfl)
  | false => exact s_f (h2 rfl)
/-! arguments, displays -/
theorem s_nil (k : QA [] H) : tNil σ H QA := k
theorem s_cons (k : ta σ H fun x H1 => tr σ H1 fun xs H2 => QA (x :: xs) H2) : tCons ta tr σ H QA := k
theorem s_tup (k : tr σ H fun xs H1 => NewTup xs Q H1) : tTup tr σ H Q := k
theorem s_lst (k : tr σ H fun xs H1 => NewLst xs Q H1) : tLst tr σ H Q := k
theorem s_newT (h : xs.length ≤ sizeLine) (S : Sep cs H) (k : ∀ p H', Sep (pt p (.tup xs) :: cs) H' → Q (.ref p) H') : NewTup xs Q H := ⟨h, fun p n => k p _ (S.new n)⟩
theorem s_newL (h : xs.length ≤ sizeLine) (S : Sep cs H) (k : ∀ p H', Sep (pt p (.lst xs) :: cs) H' → Q (.ref p) H') : NewLst xs Q H := ⟨h, fun p n => k p _ (S.new n)⟩
/-! statements -/
theorem s_seq (k : t1 { D with nx := t2 D } σ H) : tSeq t1 t2 D σ H := k
theorem s_asg {g : TG} (k : te σ H fun x H1 => g x σ H1 D.nx) : tAsg te g D σ H := k
theorem s_ifS {c : TT} (k : c σ H fun b H1 => if b = true then t1 D σ H1 else t2 D σ H1) : tIfS c t1 t2 D σ H := k
theorem s_ret (k : te σ H D.rt) : tRet te D σ H := k
theorem s_retN (k : D.rt .non H) : tRetN D σ H := k
theorem s_next (k : D.nx σ H) : tNext D σ H := k
theorem s_drop (k : te σ H fun _ H1 => D.nx σ H1) : tDrop te D σ H := k
theorem s_break (k : D.bk σ H) : tBreak D σ H := k
theorem s_cont (k : D.ct σ H) : tCont D σ H := k
theorem s_ipAdd (k : Q (.int (i + j)) H) : ipI (fun i j => i + j) (.int i) (.int j) H Q := ⟨i, j, rfl, rfl, k⟩
/-! targets -/
theorem s_gtup {n : Nat} {g : TGs} {R : St → Hp → Prop} (S : Sep cs H) (p1 : Pick (pt a (.tup xs)) cs ds) (h : xs.length = n) (k : g xs σ H R) : gTup K n g (.ref a) σ H R := ⟨a, xs, rfl, SqT.of (S.get p1), h, k⟩
theorem s_gcons {g : TG} {gs : TGs} {R : St → Hp → Prop} (k : g v σ H fun σ' H' => gs xs σ' H' R) : gCons g gs (v :: xs) σ H R := ⟨v, xs, rfl, k⟩
theorem s_gnil {R : St → Hp → Prop} (k : R σ H) : gNil [] σ H R := ⟨rfl, k⟩
theorem s_gsub {to ti : TE} {r : TSet} {R : St → Hp → Prop} (k : to σ H fun o H1 => ti σ H1 fun i H2 => r o i v H2 fun H3 => R σ H3) : gSub to ti r v σ H R := k
theorem s_setL {n : Nat} {R : Hp → Prop} (S : Sep cs H) (p1 : ∀ cs', Chg (pt a (.lst xs)) (pt a (.lst (xs.set n v))) cs cs' → ∀ H', Sep cs' H' → R H') (g : Chg (pt a (.lst xs)) (pt a (.lst (xs.set n v))) cs cs') (h : ixN xs.length i = some n) : rSetL (.ref a) (.int i) v H R :=
  ⟨a, xs, i, n, rfl, rfl, (let ⟨_, p, _⟩ := g.pick; S.get p), h, p1 _ g _ (S.set g rfl)⟩
/-! fields -/
theorem s_fld {f : Str} (k : ta σ H fun x H1 => FldGet K f x Q H1) : tFld K ta f σ H Q := k
theorem s_fldR {fs : List (Str × V)} {f : Str} (S : Sep cs H) (p1 : Pick (pt a (.ins C dx fs)) cs ds) (hc : Cls K C) (hn : NoAttr K C f) (hl : fs.lookup f = some v) (k : Q v H) : FldGet K f (.ref a) Q H := ⟨a, C, dx, fs, v, rfl, S.get p1, hc, hn, hl, k⟩
theorem s_sfld {tv : TE} {f : Str} (k : tv σ H fun y H1 => ta σ H1 fun x H2 => FldSet K f x y (fun H3 => D.nx σ H3) H2) : sFld K ta tv f D σ H := k
theorem s_sfldR {fs : List (Str × V)} {f : Str} {R : Hp → Prop} (S : Sep cs H) (g : Chg (pt a (.ins C dx fs)) (pt a (.ins C dx (putF f v fs))) cs cs') (hc : Cls K C) (hn : NoAttr K C f) (hl : fs.length < 1000) (k : ∀ H', Sep cs' H' → R H') : FldSet K f (.ref a) v R H :=
  ⟨a, C, dx, fs, rfl, (let ⟨_, p, _⟩ := g.pick; S.get p), hc, hn, hl, k _ (S.set g rfl)⟩
/-! calls -/
theorem s_call {sp : Sp} {E : St → XK} (k : tr σ H fun vs H1 => sp vs H1 Q (E σ)) : tCallS sp E tr σ H Q := k
theorem s_cb {r : List V → Hp → VK → Prop} (k : tr σ H fun vs H1 => r vs H1 Q) : tCB r tr σ H Q := k
theorem s_mt {Cs : List Addr} {m : Str} {sp : Addr → Sp} {E : St → XK} (k : ta σ H fun x H1 => MtGo Cs m x (fun C H1 => tr σ H1 fun vs H2 => sp C (x :: vs) H2 Q (E σ)) H1) : tMt Cs m sp E ta tr σ H Q := k
theorem s_mtR {Cs : List Addr} {m : Str} {fs : List (Str × V)} {R : Addr → Hp → Prop} (S : Sep cs H) (p1 : Pick (pt a (.ins C dx fs)) cs ds) (hC : C ∈ Cs) (hl : fs.lookup m = none) (k : R C H) : MtGo Cs m (.ref a) R H := ⟨a, C, dx, fs, rfl, S.get p1, hC, hl, k⟩
theorem s_mk {sp : Sp} {E : St → XK} (k : tr σ H fun vs H1 => MkGo C sp (E σ) vs Q H1) : tMk C sp E tr σ H Q := k
theorem s_mkR {sp : Sp} {E : XK} {vs : List V} (S : Sep cs H) (k : ∀ x dx H', Sep (pt x (.ins C dx []) :: cs) H' → sp (.ref x :: vs) H' (fun v H2 => v = .non ∧ Q (.ref x) H2) E) : MkGo C sp E vs Q H := fun x dx hx hd ne => by
  refine k x dx _ ((S.new (o := .own x) hd).tail.new ?_)
  rw [upd_ne (Ne.symm ne)]
  exact hx
/-! built-in calls -/
theorem s_lenL (S : Sep cs H) (p1 : Pick (pt a (.lst xs)) cs ds) (k : Q (.int xs.length) H) : rLen K [.ref a] H Q := ⟨_, _, rfl, .inl ⟨xs, SqL.of (S.get p1), rfl⟩, k⟩
theorem s_lenQ (S : Sep cs H) (p1 : Pick (sq K a xs) cs ds) (k : Q (.int xs.length) H) : rLen K [.ref a] H Q := ⟨_, _, rfl, .inl ⟨xs, S.sq p1, rfl⟩, k⟩
theorem s_lenT (S : Sep cs H) (p1 : Pick (pt a (.tup xs)) cs ds) (k : Q (.int xs.length) H) : rLen K [.ref a] H Q := ⟨_, _, rfl, .inr ⟨xs, SqT.of (S.get p1), rfl⟩, k⟩
theorem s_lenS (h : z.length ≤ sizeLine) (k : Q (.int z.length) H) : rLen K [.str z] H Q := ⟨_, _, rfl, ⟨h, rfl⟩, k⟩
theorem s_strI (h : i.natAbs.log2 < 1920) (k : Q (.str (toString i)) H) : rStrI [.int i] H Q := ⟨i, rfl, h, k⟩
theorem s_intI (k : Q (.int i) H) : rInt1 [.int i] H Q := .inl ⟨i, rfl, k⟩
theorem s_intB {b : Bool} (k : Q (.int (if b then 1 else 0)) H) : rInt1 [.bl b] H Q := .inr ⟨b, rfl, k⟩
theorem s_intS (h : PySem.intText? z = some i) (h2 : z.length ≤ 640) (k : Q (.int i) H) : rIntS [.str z] H Q := ⟨z, i, rfl, h, h2, k⟩
/-! methods of built-in types -/
theorem s_bm {T : String} {r : V → List V → Hp → VK → Prop} (k : ta σ H fun x H1 => tyV K T x H1 ∧ tr σ H1 fun xs H2 => r x xs H2 Q) : tBM K T r ta tr σ H Q := k
theorem s_bm0 {T : String} {r : V → List V → Hp → VK → Prop} (k : ta σ H fun x H1 => tyV K T x H1 ∧ r x [] H1 Q) : tBM0 K T r ta σ H Q := k
theorem s_tyL {R : Prop} (S : Sep cs H) (p1 : Pick (pt a (.lst xs)) cs ds) (k : R) : tyV K "list" (.ref a) H ∧ R := ⟨.inl ⟨rfl, _, SqL.of (S.get p1)⟩, k⟩
theorem s_append (S : Sep cs H) (g : Chg (pt a (.lst xs)) (pt a (.lst (xs ++ [v]))) cs cs') (h : xs.length < sizeLine) (k : ∀ H', Sep cs' H' → Q .non H') : rAppend (.ref a) [v] H Q :=
  ⟨a, xs, v, rfl, rfl, (let ⟨_, p, _⟩ := g.pick; S.get p), h, k _ (S.set g rfl)⟩
theorem s_extend (S : Sep cs H) (g : Chg (pt a (.lst xs)) (pt a (.lst (xs ++ ys))) cs cs') (p1 : Pick (pt b (.lst ys)) cs ds) (h : xs.length + ys.length ≤ sizeLine) (k : ∀ H', Sep cs' H' → Q .non H') : rExtend (.ref a) [.ref b] H Q :=
  ⟨a, b, xs, ys, rfl, rfl, (let ⟨_, p, _⟩ := g.pick; S.get p), S.get p1, h, k _ (S.set g rfl)⟩
end
end L2.Zs
namespace L2.Zs
open PySem PySem.Spec PyProof.Rows
inductive SetAt : St → Nat → V → St → Prop
  | here {x σ v} : SetAt (x :: σ) 0 v (some v :: σ)
  | there {x σ i v σ'} : SetAt σ i v σ' → SetAt (x :: σ) (i + 1) v (x :: σ')
theorem SetAt.eq {σ σ' : St} {i : Nat} {v : V} (h : SetAt σ i v σ') : σ.set i (some v) = σ' := by
  induction h with
  | here => rfl
  | there h ih => simp only [List.set_cons_succ, ih]
section
variable {K : PySem.W.Frag} {σ σ' : St} {H : Hp} {Q : VK} {v x y : V} {ta tb tc te : TE} {t u : TT} {a b c p q C dx : Addr} {cs ds cs' : List As} {D : Ends} {t1 t2 tB : TS} {QA : List V → Hp → Prop} {QT : Bool → Hp → Prop} {tr : TA} {xs ys : List V} {i j : Int} {z z' : Str} {g : TG}
theorem s_name {i : Nat} {R : St → Hp → Prop} (h : SetAt σ i v σ') (k : R σ' H) : gName i v σ H R := by
  show R (σ.set i (some v)) H
  rw [h.eq]
  exact k
theorem s_aug {i : Nat} {ti : TIp} (h : σ[i]? = some (some x)) (k : te σ H fun y H1 => ti x y H1 fun z H2 => gName i z σ H2 D.nx) : tAug i te ti D σ H := ⟨x, h, k⟩
theorem s_neg (k : Q (.int (-i)) H) : rU (fun i => .int (-i)) (.int i) H Q := ⟨i, rfl, k⟩
theorem cmul_l (h : -(2 ^ 64) < i ∧ i < 2 ^ 64) : CMul i j := .inl h
theorem cmul_r (h : -(2 ^ 64) < j ∧ j < 2 ^ 64) : CMul i j := .inr h
theorem cdiv_of (h : 0 < j) (h2 : j.natAbs.log2 < 9000) : CDivW i j := ⟨h, h2⟩
theorem cpow_of (h : 0 ≤ j) (h1 : j ≤ 1000000) (h2 : i.natAbs < 2 ^ 64) : CPow i j := ⟨h, h1, h2⟩
/-- a loop by its turns -/
def Lp (J : It) (g : TG) (tb : TS) (D : Ends) (σ : St) (H : Hp) : Prop := ∃ W : Nat → Nat → St → Hp → Prop, (∃ m, W 0 m σ H) ∧ ∀ i m σ H, W i m σ H →
  (J.stop i H ∧ D.nx σ H) ∨ (J.go i H ∧ ∃ N : St → Hp → Prop, (∀ σ' H', N σ' H' → ∃ m', m' < m ∧ W (i + 1) m' σ' H') ∧ ∀ x H', J.yld i H x H' → g x σ H' fun σ2 H2 => tb { D with nx := N, ct := N, bk := D.nx } σ2 H2)
theorem s_forR1 (k : tr σ H fun vs H1 => ∃ j : Int, vs = [.int j] ∧ -(2 ^ 62) ≤ j ∧ j < 2 ^ 62 ∧ Lp (Itr 0 j.toNat) g tB D σ H1) : tFor (iRng1 tr) g tB D σ H := k
theorem s_rng1 (h0 : 0 ≤ j) (h1 : j < 2 ^ 62) (k : Lp (Itr 0 j.toNat) g tB D σ H) : ∃ j' : Int, [V.int j] = [.int j'] ∧ -(2 ^ 62) ≤ j' ∧ j' < 2 ^ 62 ∧ Lp (Itr 0 j'.toNat) g tB D σ H := ⟨j, rfl, by omega, h1, k⟩
theorem s_forL (k : te σ H fun x H1 => ∃ a, x = .ref a ∧ (∃ xs, SqL K H1 a xs) ∧ Lp (Itl K a) g tB D σ H1) : tFor (iList K te) g tB D σ H := k
theorem s_list (S : Sep cs H) (p : Pick (pt a (.lst xs)) cs ds) (k : Lp (Itl K a) g tB D σ H) : ∃ a', V.ref a = .ref a' ∧ (∃ xs, SqL K H a' xs) ∧ Lp (Itl K a') g tB D σ H := ⟨a, rfl, ⟨xs, SqL.of (S.get p)⟩, k⟩
theorem lp_range {n : Nat} (Pv : Nat → St → Hp → Prop) (h0 : Pv 0 σ H) (hs : ∀ i σ H, i < n → Pv i σ H → g (.int (i : Nat)) σ H fun σ2 H2 => tB { D with nx := Pv (i + 1), ct := Pv (i + 1), bk := D.nx } σ2 H2) (hd : ∀ σ H, Pv n σ H → D.nx σ H) :
    Lp (Itr 0 n) g tB D σ H := for_range Pv h0 (fun i σ H hi p => by
      have := hs i σ H hi p
      rw [Int.zero_add]
      exact this) hd
theorem lp_list (Pv : Nat → St → Hp → Prop) (h0 : Pv 0 σ H) (hl : ∀ i σ H, i ≤ xs.length → Pv i σ H → SqL K H a xs)
    (hs : ∀ i x σ H, xs[i]? = some x → Pv i σ H → g x σ H fun σ2 H2 => tB { D with nx := Pv (i + 1), ct := Pv (i + 1), bk := D.nx } σ2 H2) (hd : ∀ σ H, Pv xs.length σ H → D.nx σ H) :
    Lp (Itl K a) g tB D σ H := for_list Pv h0 hl hs hd
theorem s_start {t : TS} {σ0 : St} (h : σ0 = σ) (k : t D σ H) : t D σ0 H := by rw [h]; exact k
/-- a new instance, its fields to come -/
theorem atI_of {α : Type} {xs : List α} {i : Int} {v : α} (h0 : 0 ≤ i) (h : xs[i.toNat]? = some v) : atI xs i = some v := by
  have := atI_nat h
  rwa [Int.toNat_of_nonneg h0] at this
theorem ixN_of {n : Nat} {i : Int} (h0 : 0 ≤ i) (h1 : i < n) : ixN n i = some i.toNat := by
  unfold ixN
  rw [if_pos h0, if_pos h1]
theorem atI_lt {α : Type} {xs : List α} {i : Int} (h0 : 0 ≤ i) (h1 : i < xs.length) : ∃ v, atI xs i = some v ∧ v ∈ xs ∧ xs[i.toNat]? = some v := by
  have h : i.toNat < xs.length := by omega
  exact ⟨xs[i.toNat], atI_of h0 (List.getElem?_eq_getElem h), List.getElem_mem h, List.getElem?_eq_getElem h⟩
end
/-! ## draws -/
/-- what the law's cells are -/
def spCell (K : PySem.W.Frag) : Sp := fun vs H Q _ => ∃ (a : Addr) (ns : List Int) (k : Int) (cs : List As), vs = [.ref a, .int k] ∧ Sep (sq K a (ns.map V.int) :: cs) H ∧ 0 ≤ k ∧ ∀ z, Q (.int z) H
theorem len_cell {K vs H Q E} (h : spCell K vs H Q E) : vs.length = 2 := by obtain ⟨a, ns, k, cs, rfl, _⟩ := h; rfl
/-- a row of draws below base -/
def spDraws (K : PySem.W.Frag) : Sp := fun vs H Q _ => ∃ (a : Addr) (ns : List Int) (k many base : Int) (cs : List As), vs = [.ref a, .int k, .int many, .int base] ∧ Sep (sq K a (ns.map V.int) :: cs) H ∧ 0 ≤ k ∧ k < 1000000 ∧ 0 ≤ many ∧ many < 1000000 ∧ CDivW 0 base ∧
  ∀ (row : List Int) (p : Addr) (H' : Hp), (row.length : Int) = many → (∀ r ∈ row, 0 ≤ r ∧ r < base) → Sep (pt p (.lst (row.map V.int)) :: sq K a (ns.map V.int) :: cs) H' → Q (.ref p) H'
theorem len_draws {K vs H Q E} (h : spDraws K vs H Q E) : vs.length = 4 := by obtain ⟨a, ns, k, many, base, cs, rfl, _⟩ := h; rfl

theorem s_ifd {p A B : Prop} [Decidable p] (h1 : p → A) (h2 : ¬ p → B) : if decide p = true then A else B := by
  by_cases h : p
  · rw [decide_eq_true h]; exact s_t (h1 h)
  · rw [decide_eq_false h]; exact s_f (h2 h)
theorem s_ifn {p A B : Prop} [Decidable p] (h1 : ¬ p → A) (h2 : p → B) : if (!decide p) = true then A else B := by
  by_cases h : p
  · rw [decide_eq_true h]; exact s_f (h2 h)
  · rw [decide_eq_false h]; exact s_t (h1 h)

theorem atI_int {ns : List Int} {i : Int} (h0 : 0 ≤ i) (h1 : i < ns.length) : ∃ z, z ∈ ns ∧ atI (ns.map V.int) i = some (.int z) ∧ ns[i.toNat]? = some z := by
  have h : i.toNat < ns.length := by omega
  refine ⟨ns[i.toNat], List.getElem_mem h, atI_of h0 ?_, List.getElem?_eq_getElem h⟩
  rw [List.getElem?_map, List.getElem?_eq_getElem h]
  rfl
def prL : List Int := [2147483647, 2147483629, 2147483587, 2147483579, 2147483563, 2147483549, 2147483543, 2147483497]
theorem prL_ok : ∀ p ∈ prL, 0 < p ∧ p < 2147483648 := by decide
theorem prL_at (i : Int) : ∃ z, (0 < z ∧ z < 2147483648) ∧ atI (prL.map V.int) (i % 8) = some (.int z) := by
  obtain ⟨z, h, e, _⟩ := atI_int (ns := prL) (i := i % 8) (Int.emod_nonneg _ (by decide)) (Int.emod_lt_of_pos _ (by decide))
  exact ⟨z, prL_ok z h, e⟩
theorem emod_in (x : Int) {p : Int} (h : 0 < p) : 0 ≤ x % p ∧ x % p < p := ⟨Int.emod_nonneg _ (by omega), Int.emod_lt_of_pos _ h⟩

/-- two ways meet: M holds where they meet -/
theorem s_cut {t1 t2 : TS} {D : Ends} {σ : St} {H : Hp} (M : St → Hp → Prop) (h2 : ∀ σ H, M σ H → t2 D σ H) (h1 : ∀ N : St → Hp → Prop, (∀ σ H, M σ H → N σ H) → t1 { D with nx := N } σ H) : tSeq t1 t2 D σ H := h1 _ h2

section
variable {t2 : TS} {D : Ends} {σ : St} {H : Hp} {te ta tv : TE} {g : TG} {wi : TI} {tb : TS} {K : PySem.W.Frag} {f : Str}
theorem s_seqA (k : tAsg te g { D with nx := t2 D } σ H) : tSeq (tAsg te g) t2 D σ H := k
theorem s_seqD (k : tDrop te { D with nx := t2 D } σ H) : tSeq (tDrop te) t2 D σ H := k
theorem s_seqF (k : tFor wi g tb { D with nx := t2 D } σ H) : tSeq (tFor wi g tb) t2 D σ H := k
theorem s_seqS (k : sFld K ta tv f { D with nx := t2 D } σ H) : tSeq (sFld K ta tv f) t2 D σ H := k
theorem s_nxI {f : St → Hp → Prop} {rt : VK} {bk ct : St → Hp → Prop} (k : f σ H) : (Ends.mk f rt bk ct).nx σ H := k
theorem s_ctI {f : St → Hp → Prop} {rt : VK} {bk ct : St → Hp → Prop} (k : ct σ H) : (Ends.mk f rt bk ct).ct σ H := k
theorem s_bkI {f : St → Hp → Prop} {rt : VK} {bk ct : St → Hp → Prop} (k : bk σ H) : (Ends.mk f rt bk ct).bk σ H := k
theorem s_seqR (k : tRet te { D with nx := t2 D } σ H) : tSeq (tRet te) t2 D σ H := k
end
end L2.Zs
namespace L2.Zs
open PySem PySem.Spec PyProof.Rows
/-- a follows from b, by a reading's shape -/
class Stp (a : Prop) (b : outParam Prop) : Prop where
  go : b → a
class AtS (σ : St) (i : Nat) (v : outParam V) : Prop where
  at_ : σ[i]? = some (some v)
instance {σ : St} {v : V} : AtS (some v :: σ) 0 v := ⟨rfl⟩
instance {σ : St} {x : Option V} {i : Nat} {v : V} [h : AtS σ i v] : AtS (x :: σ) (i + 1) v := ⟨h.at_⟩
class PutS (σ : St) (i : Nat) (v : V) (σ' : outParam St) : Prop where
  put : SetAt σ i v σ'
instance {σ : St} {v : V} {x : Option V} : PutS (x :: σ) 0 v (some v :: σ) := ⟨.here⟩
instance {σ σ' : St} {x : Option V} {i : Nat} {v : V} [h : PutS σ i v σ'] : PutS (x :: σ) (i + 1) v (x :: σ') := ⟨.there h.put⟩
section
variable {K : PySem.W.Frag} {σ σ' : St} {H : Hp} {Q : VK} {v x y : V} {ta tb tc te tv : TE} {t u : TT} {a b c p q C dx : Addr} {cs ds cs' : List As} {D : Ends} {t1 t2 tBd : TS} {QA : List V → Hp → Prop} {QT : Bool → Hp → Prop} {tr : TA} {xs ys : List V} {i j : Int} {z z' : Str} {g : TG}
instance : Stp (tSeq (tAsg te g) t2 D σ H) (tAsg te g { D with nx := t2 D } σ H) := ⟨id⟩
instance : Stp (tSeq (tDrop te) t2 D σ H) (tDrop te { D with nx := t2 D } σ H) := ⟨id⟩
instance {wi : TI} : Stp (tSeq (tFor wi g tBd) t2 D σ H) (tFor wi g tBd { D with nx := t2 D } σ H) := ⟨id⟩
instance {f : PySem.Str} : Stp (tSeq (sFld K ta tv f) t2 D σ H) (sFld K ta tv f { D with nx := t2 D } σ H) := ⟨id⟩
instance : Stp (tSeq (tRet te) t2 D σ H) (tRet te { D with nx := t2 D } σ H) := ⟨id⟩
instance {i : Nat} {ti : TIp} : Stp (tSeq (tAug i te ti) t2 D σ H) (tAug i te ti { D with nx := t2 D } σ H) := ⟨id⟩
instance {tk : TE} : Stp (tSeq (sDPut ta tk tv) t2 D σ H) (sDPut ta tk tv { D with nx := t2 D } σ H) := ⟨id⟩
instance {tk : TE} {rd : V → V → Hp → VK → Prop} : Stp (tSeq (sDAug ta tk tv rd) t2 D σ H) (sDAug ta tk tv rd { D with nx := t2 D } σ H) := ⟨id⟩
instance {to ti : TE} {tg : V → V → Hp → VK → Prop} {tip : TIp} {ts : TSet} : Stp (tSeq (tAugS to ti te tg tip ts) t2 D σ H) (tAugS to ti te tg tip ts { D with nx := t2 D } σ H) := ⟨id⟩
instance {f : St → Hp → Prop} {rt : VK} {bk ct : St → Hp → Prop} : Stp ((Ends.mk f rt bk ct).nx σ H) (f σ H) := ⟨id⟩
instance {f : St → Hp → Prop} {rt : VK} {bk ct : St → Hp → Prop} : Stp ((Ends.mk f rt bk ct).ct σ H) (ct σ H) := ⟨id⟩
instance {f : St → Hp → Prop} {rt : VK} {bk ct : St → Hp → Prop} : Stp ((Ends.mk f rt bk ct).bk σ H) (bk σ H) := ⟨id⟩
instance {f : St → Hp → Prop} {rt : VK} {bk ct : St → Hp → Prop} : Stp ((Ends.mk f rt bk ct).rt v H) (rt v H) := ⟨id⟩
instance : Stp (tAsg te g D σ H) (te σ H fun x H1 => g x σ H1 D.nx) := ⟨id⟩
instance {i : Nat} {R : St → Hp → Prop} [h : PutS σ i v σ'] : Stp (gName i v σ H R) (R σ' H) := ⟨s_name h.put⟩
instance {i : Nat} [h : AtS σ i v] : Stp (tVar i σ H Q) (Q v H) := ⟨s_var h.at_⟩
instance : Stp (tC v σ H Q) (Q v H) := ⟨id⟩
instance {r : R2} : Stp (tOp r ta tb σ H Q) (ta σ H fun x H1 => tb σ H1 fun y H2 => r x y H2 Q) := ⟨id⟩
instance {r : V → Hp → VK → Prop} : Stp (tUn r ta σ H Q) (ta σ H fun x H1 => r x H1 Q) := ⟨id⟩
instance : Stp (rAddZ (.int i) (.int j) H Q) (Q (.int (i + j)) H) := ⟨s_addI⟩
instance : Stp (rSubI (.int i) (.int j) H Q) (Q (.int (i - j)) H) := ⟨s_sub⟩
instance : Stp (rLt (.int i) (.int j) H Q) (Q (.bl (decide (i < j))) H) := ⟨s_lt⟩
instance : Stp (rLe (.int i) (.int j) H Q) (Q (.bl (decide (i ≤ j))) H) := ⟨s_le⟩
instance : Stp (rGt (.int i) (.int j) H Q) (Q (.bl (decide (j < i))) H) := ⟨s_gt⟩
instance : Stp (rGe (.int i) (.int j) H Q) (Q (.bl (decide (j ≤ i))) H) := ⟨s_ge⟩
instance : Stp (rIsN x .non H Q) (Q (.bl (decide (x = .non))) H) := ⟨s_isN⟩
instance : Stp (rNotN x .non H Q) (Q (.bl (!decide (x = .non))) H) := ⟨s_notN⟩
instance : Stp (rEqZ K (.int i) (.int j) H Q) (Q (.bl (decide (i = j))) H) := ⟨s_eqI⟩
instance : Stp (rNeZ K (.int i) (.int j) H Q) (Q (.bl (!decide (i = j))) H) := ⟨s_neI⟩
instance : Stp (rEqZ K (.str z) (.str z') H Q) (Q (.bl (decide (z = z'))) H) := ⟨s_eqS⟩
instance : Stp (rNeZ K (.str z) (.str z') H Q) (Q (.bl (!decide (z = z'))) H) := ⟨s_neS⟩
instance {c : Nat} : Stp (rInS (.str ⟨#[c]⟩) (.str z) H Q) (Q (.bl (decide (c ∈ z.cps.toList))) H) := ⟨s_inS⟩
instance {c : Nat} : Stp (rNotInS (.str ⟨#[c]⟩) (.str z) H Q) (Q (.bl (!decide (c ∈ z.cps.toList))) H) := ⟨s_notInS⟩
instance : Stp (rU (fun i => .int (-i)) (.int i) H Q) (Q (.int (-i)) H) := ⟨s_neg⟩
instance {c : TT} : Stp (tIfS c t1 t2 D σ H) (c σ H fun b H1 => if b = true then t1 D σ H1 else t2 D σ H1) := ⟨id⟩
instance : Stp (tTest te σ H QT) (te σ H fun x H' => ∃ k, x = .bl k ∧ QT k H') := ⟨id⟩
instance : Stp (tB te σ H QT) (te σ H fun x H' => ∃ k, x = .bl k ∧ QT k H') := ⟨id⟩
instance : Stp (tTru K te σ H QT) (te σ H fun x H' => ∃ k, TruV K x H' k ∧ QT k H') := ⟨id⟩
instance {b : Bool} {R : Bool → Prop} : Stp (∃ c, V.bl b = .bl c ∧ R c) (R b) := ⟨s_bl⟩
instance {b : Bool} {R : Bool → Prop} : Stp (∃ c, TruV K (.bl b) H c ∧ R c) (R b) := ⟨s_truB⟩
instance {R : Bool → Prop} : Stp (∃ c, TruV K .non H c ∧ R c) (R false) := ⟨s_truN⟩
instance {R : Bool → Prop} : Stp (∃ c, TruV K (.int i) H c ∧ R c) (R (i != 0)) := ⟨s_truI⟩
instance : Stp (tAnd t u σ H QT) (t σ H fun c H1 => if c = true then u σ H1 QT else QT false H1) := ⟨id⟩
instance : Stp (tOr t u σ H QT) (t σ H fun c H1 => if c = true then QT true H1 else u σ H1 QT) := ⟨id⟩
instance : Stp (tNot t σ H QT) (t σ H fun c H1 => QT (!c) H1) := ⟨id⟩
instance : Stp (tAndV ta tb σ H Q) (ta σ H fun x H1 => ∃ c, x = .bl c ∧ if c = true then tb σ H1 Q else Q (.bl false) H1) := ⟨id⟩
instance : Stp (tOrV ta tb σ H Q) (ta σ H fun x H1 => ∃ c, x = .bl c ∧ if c = true then Q (.bl true) H1 else tb σ H1 Q) := ⟨id⟩
instance : Stp (tNotV ta σ H Q) (ta σ H fun x H1 => ∃ c, x = .bl c ∧ Q (.bl (!c)) H1) := ⟨id⟩
instance : Stp (tNotT K ta σ H Q) (ta σ H fun x H1 => ∃ k, TruV K x H1 k ∧ Q (.bl (!k)) H1) := ⟨id⟩
instance : Stp (tIf t ta tb σ H Q) (t σ H fun c H1 => if c = true then ta σ H1 Q else tb σ H1 Q) := ⟨id⟩
instance : Stp (tOrT K ta tb σ H Q) (ta σ H fun x H1 => ∃ k, TruV K x H1 k ∧ if k = true then Q x H1 else tb σ H1 Q) := ⟨id⟩
instance : Stp (tAndT K ta tb σ H Q) (ta σ H fun x H1 => ∃ k, TruV K x H1 k ∧ if k = true then tb σ H1 Q else Q x H1) := ⟨id⟩
instance {A B : Prop} : Stp (if true = true then A else B) A := ⟨s_t⟩
instance {A B : Prop} : Stp (if false = true then A else B) B := ⟨s_f⟩
instance : Stp (tNil σ H QA) (QA [] H) := ⟨id⟩
instance : Stp (tCons ta tr σ H QA) (ta σ H fun x H1 => tr σ H1 fun xs H2 => QA (x :: xs) H2) := ⟨id⟩
instance : Stp (tTup tr σ H Q) (tr σ H fun xs H1 => NewTup xs Q H1) := ⟨id⟩
instance : Stp (tLst tr σ H Q) (tr σ H fun xs H1 => NewLst xs Q H1) := ⟨id⟩
instance : Stp (tRet te D σ H) (te σ H D.rt) := ⟨id⟩
instance : Stp (tRetN D σ H) (D.rt .non H) := ⟨id⟩
instance : Stp (tNext D σ H) (D.nx σ H) := ⟨id⟩
instance : Stp (tDrop te D σ H) (te σ H fun _ H1 => D.nx σ H1) := ⟨id⟩
instance : Stp (tCont D σ H) (D.ct σ H) := ⟨id⟩
instance : Stp (tBreak D σ H) (D.bk σ H) := ⟨id⟩
instance {r : List V → Hp → VK → Prop} : Stp (tCB r tr σ H Q) (tr σ H fun vs H1 => r vs H1 Q) := ⟨id⟩
instance {sp : Sp} {E : St → XK} : Stp (tCallS sp E tr σ H Q) (tr σ H fun vs H1 => sp vs H1 Q (E σ)) := ⟨id⟩
instance {Cs : List Addr} {m : PySem.Str} {sp : Addr → Sp} {E : St → XK} : Stp (tMt Cs m sp E ta tr σ H Q) (ta σ H fun x H1 => MtGo Cs m x (fun C H1 => tr σ H1 fun vs H2 => sp C (x :: vs) H2 Q (E σ)) H1) := ⟨id⟩
instance {sp : Sp} {E : St → XK} : Stp (tMk C sp E tr σ H Q) (tr σ H fun vs H1 => MkGo C sp (E σ) vs Q H1) := ⟨id⟩
instance {T : String} {r : V → List V → Hp → VK → Prop} : Stp (tBM K T r ta tr σ H Q) (ta σ H fun x H1 => tyV K T x H1 ∧ tr σ H1 fun xs H2 => r x xs H2 Q) := ⟨id⟩
instance {T : String} {r : V → List V → Hp → VK → Prop} : Stp (tBM0 K T r ta σ H Q) (ta σ H fun x H1 => tyV K T x H1 ∧ r x [] H1 Q) := ⟨id⟩
instance {to ti : TE} {r : TSet} {R : St → Hp → Prop} : Stp (gSub to ti r v σ H R) (to σ H fun o H1 => ti σ H1 fun i H2 => r o i v H2 fun H3 => R σ H3) := ⟨id⟩
instance {gs : TGs} {R : St → Hp → Prop} : Stp (gCons g gs (v :: xs) σ H R) (g v σ H fun σ' H' => gs xs σ' H' R) := ⟨s_gcons⟩
instance {R : St → Hp → Prop} : Stp (gNil [] σ H R) (R σ H) := ⟨s_gnil⟩
instance {i : Nat} {ti : TIp} [h : AtS σ i x] : Stp (tAug i te ti D σ H) (te σ H fun y H1 => ti x y H1 fun z H2 => gName i z σ H2 D.nx) := ⟨s_aug h.at_⟩
instance : Stp (ipI (fun i j => i + j) (.int i) (.int j) H Q) (Q (.int (i + j)) H) := ⟨s_ipAdd⟩
instance {f : PySem.Str} : Stp (tFld K ta f σ H Q) (ta σ H fun x H1 => FldGet K f x Q H1) := ⟨id⟩
instance {f : PySem.Str} : Stp (sFld K ta tv f D σ H) (tv σ H fun y H1 => ta σ H1 fun x H2 => FldSet K f x y (fun H3 => D.nx σ H3) H2) := ⟨id⟩
instance : Stp (tFor (iRng1 tr) g tBd D σ H) (tr σ H fun vs H1 => ∃ j : Int, vs = [.int j] ∧ -(2 ^ 62) ≤ j ∧ j < 2 ^ 62 ∧ Lp (Itr 0 j.toNat) g tBd D σ H1) := ⟨id⟩
instance : Stp (tFor (iList K te) g tBd D σ H) (te σ H fun x H1 => ∃ a, x = .ref a ∧ (∃ xs, SqL K H1 a xs) ∧ Lp (Itl K a) g tBd D σ H1) := ⟨id⟩
instance : Stp (rInt1 [.int i] H Q) (Q (.int i) H) := ⟨s_intI⟩
instance {b : Bool} : Stp (rInt1 [.bl b] H Q) (Q (.int (if b then 1 else 0)) H) := ⟨s_intB⟩
instance {to ti : TE} {tg : V → V → Hp → VK → Prop} {tip : TIp} {ts : TSet} : Stp (tAugS to ti te tg tip ts D σ H) (to σ H fun o H1 => ti σ H1 fun i H2 => tg o i H2 fun x H3 => te σ H3 fun y H4 => tip x y H4 fun z H5 => ts o i z H5 fun H6 => D.nx σ H6) := ⟨id⟩
end
end L2.Zs
namespace L2.Zs
open PySem PySem.Spec PyProof.Rows
/-! ## the rules that name the written part -/
section
variable {X : Cx} {K : PySem.W.Frag}
theorem k_eq (hK : X.K = K) (hu : X.A.units + 64 < cLine) : OpR X (compareOp .Eq) (rEqZ K) := hK ▸ zo_eq hu
theorem k_ne (hK : X.K = K) (hu : X.A.units + 64 < cLine) : OpR X (compareOp .NotEq) (rNeZ K) := hK ▸ zo_ne hu
theorem k_inQ (hK : X.K = K) : OpR X (compareOp .In) (rIn K false) := hK ▸ zo_inQ
theorem k_notInQ (hK : X.K = K) : OpR X (compareOp .NotIn) (rIn K true) := hK ▸ zo_notInQ
theorem k_ix (hK : X.K = K) : IxR X (rIx K) := hK ▸ ix_seq
theorem k_len (hK : X.K = K) : CallR X (.builtin "len") (rLen K) := hK ▸ z_len
theorem k_isi (hK : X.K = K) : CallR X (.builtin "isinstance") (rIsi K) := hK ▸ call_isi
theorem k_isiT (hK : X.K = K) : CallR X (.builtin "isinstance") (rIsiT K) := hK ▸ call_isiT
theorem k_slL (hK : X.K = K) : SlR X (rSlL K) := hK ▸ sl_list
theorem k_slT (hK : X.K = K) : SlR X (rSlT K) := hK ▸ sl_tup
def rListOf (K : PySem.W.Frag) : List V → Hp → VK → Prop := fun xs H Q => ∃ p ys, xs = [.ref p] ∧ (SqL K H p ys ∨ SqT K H p ys) ∧ ∀ l, H l = none → Q (.ref l) (upd H l (.lst ys))
theorem k_listOf (hK : X.K = K) : CallR X (.type "list") (rListOf K) := hK ▸ call_list_of
theorem k_tru {a : Expr} {ta : TE} (hK : X.K = K) (ha : PE X a ta) (he : ∀ whole, isTrue a X.env whole = (do let v ← whole; standAt a.pos; holding [v] (truthy v)) := by intro _; rfl) : PT X a (tTru K ta) := hK ▸ pt_truth ha he
theorem k_fld {e : Expr} {ta : TE} {f : PySem.Str} {pos : Pos} (hK : X.K = K) (he : PE X e ta) (hb : attributeBase e f X.env (eval e X.env) = eval e X.env) : PE X (.Attribute e f pos) (tFld K ta f) := hK ▸ pe_fld he hb
theorem k_sfld {o value : Expr} {ta tv : TE} {f : PySem.Str} {pos pos' : Pos} (hK : X.K = K) (ha : PE X o ta) (hv : PE X value tv) (hs : swapsWith value (some (.Attribute o f pos')) pos.line X.env = pure false) : PS X (.Assign [.Attribute o f pos'] value pos) (sFld K ta tv f) := hK ▸ ps_fld ha hv hs
theorem k_fldaug {o value : Expr} {ta tv : TE} {f : PySem.Str} {pos tpos : Pos} {op : Operator} {rd : V → V → Hp → VK → Prop} (hK : X.K = K) (ha : PE X o ta) (hv : PE X value tv) (hop : InOp X op rd) : PS X (.AugAssign (.Attribute o f tpos) op value pos) (sFldAug K ta tv rd f) := hK ▸ ps_fldaug ha hv hop
theorem k_list {tg l : Expr} {tl : TE} (hK : X.K = K) (hl : PE X l tl) : PI X tg l (iList K tl) := hK ▸ pi_list hl
theorem k_tup {tg l : Expr} {tl : TE} (hK : X.K = K) (hl : PE X l tl) : PI X tg l (iTup K tl) := hK ▸ pi_tup hl
theorem k_enum {e : Expr} {ta : TA} {p pos tpos : Pos} {elts : List Expr} {kk : Nat} (hK : X.K = K) (hg : Gl X "enumerate") (hm : X.mg "enumerate" = none) (ha : PA X [e] ta) (hs : starEach [e] X.env = [(false, eval e X.env)] := by rfl) :
    PI X (.Tuple elts kk tpos) (.Call (.Name "enumerate" p) [e] [] pos) (iEnum K ta) := hK ▸ pi_enum hg hm ha hs
theorem k_zip {e e2 : Expr} {ta : TA} {p pos tpos : Pos} {elts : List Expr} {kk : Nat} (hK : X.K = K) (hg : Gl X "zip") (hm : X.mg "zip" = none) (ha : PA X [e, e2] ta)
    (hs : starEach [e, e2] X.env = (false, eval e X.env) :: starEach [e2] X.env := by rfl) (hpl : (backTo pos (starEach [e2] X.env)).any (·.1) = false := by rfl) :
    PI X (.Tuple elts kk tpos) (.Call (.Name "zip" p) [e, e2] [] pos) (iZip K ta) := hK ▸ pi_zip hg hm ha hs hpl
theorem k_gtup {es : List Expr} {kk : Nat} {t : TGs} {n : Nat} {pos : Pos} (hK : X.K = K) (hc : X.calm = true) (h : PGs X es t)
    (hn : (assignEach es X.env).length = n := by rfl) (hst : (assignEach es X.env).findIdx? (·.1) = none := by rfl) : PG X (.Tuple es kk pos) (gTup K n t) := hK ▸ pg_tup hc h hn hst
theorem k_tupleOf {a : Expr} {ta : TE} {p pos : Pos} (hK : X.K = K) (hg : Gl X "tuple") (hm : X.mg "tuple" = none) (ha : PE X a ta) (na : starEach [a] X.env = (false, eval a X.env) :: starEach [] X.env := by rfl) :
    PE X (.Call (.Name "tuple" p) [a] [] pos) (tThen ta (kTup K)) := hK ▸ pe_tupleOf hg hm ha na
theorem k_orT {a b : Expr} {rest : List Expr} {ta tb : TE} {pos : Pos} (hK : X.K = K) (ha : PE X a ta) (hb : PE X (.BoolOp .Or (b :: rest) pos) tb) : PE X (.BoolOp .Or (a :: b :: rest) pos) (tOrT K ta tb) := hK ▸ pe_orT ha hb
theorem k_andT {a b : Expr} {rest : List Expr} {ta tb : TE} {pos : Pos} (hK : X.K = K) (ha : PE X a ta) (hb : PE X (.BoolOp .And (b :: rest) pos) tb) : PE X (.BoolOp .And (a :: b :: rest) pos) (tAndT K ta tb) := hK ▸ pe_andT ha hb
theorem k_notT {a : Expr} {ta : TE} {pos : Pos} (hK : X.K = K) (ha : PE X a ta) : PE X (.UnaryOp .Not a pos) (tNotT K ta) := hK ▸ pe_notT ha
section
variable {T id : String} {name : PySem.Str} {r : V → List V → Hp → VK → Prop} {o e : Expr} {es : List Expr} {to : TE} {t : TA} {apos cpos : Pos}
theorem k_bm0 (hK : X.K = K) (pa : PlainAttrs T) (slot : Slot T name id) (hty : typeOf (.builtin id) = pure (.type "method_descriptor")) (hm : MtR X id r) (ho : PE X o to)
    (hbase : attributeBase o name X.env (eval o X.env) = eval o X.env := by rfl) (hline : (apos.endLine == cpos.line) = true := by rfl) : PE X (.Call (.Attribute o name apos) [] [] cpos) (tBM0 K T r to) := hK ▸ pe_bm0 pa slot hty hm ho hbase hline
theorem k_bm (hK : X.K = K) (pa : PlainAttrs T) (slot : Slot T name id) (hty : typeOf (.builtin id) = pure (.type "method_descriptor")) (hm : MtR X id r) (ho : PE X o to) (ha : PA X (e :: es) t)
    (hbase : attributeBase o name X.env (eval o X.env) = eval o X.env := by rfl)
    (hfew : ((backTo cpos (starEach (e :: es) X.env)).all (fun x => !x.1) && (backToKw cpos (keywordEach [] X.env)).all (fun x => x.1.isSome)
      && decide ((e :: es).length + ([] : List Keyword).length + (if ([] : List Keyword).isEmpty then 0 else 1) < 30)) = true := by rfl)
    (hline : (apos.endLine == cpos.line) = true := by rfl) (hs : starEach (e :: es) X.env = (false, eval e X.env) :: starEach es X.env := by rfl) (hplain : (backTo cpos (starEach es X.env)).any (·.1) = false := by rfl) :
    PE X (.Call (.Attribute o name apos) (e :: es) [] cpos) (tBM K T r to t) := hK ▸ pe_bm pa slot hty hm ho ha hbase hfew hline hs hplain
end
theorem z_append : MtR X "list.append" rAppend := mt_append
theorem z_extend : MtR X "list.extend" rExtend := mt_extend
theorem z_pop : MtR X "list.pop" rPop := mt_pop
theorem z_popAt : MtR X "list.pop" rPopAt := mt_popAt
theorem z_remove : MtR X "list.remove" rRemI := mt_remove
theorem k_index (hK : X.K = K) : MtR X "list.index" (rIndex K) := hK ▸ mt_index
/-! ### xs[i] += e -/
theorem k_get (hK : X.K = K) : PGet X (rIxL K) := by
  subst hK
  intro pins s σ H o i ov iv Q I ro ri h
  obtain ⟨p, xs, k, z, rfl, rfl, hq, he, q⟩ := h
  cases ro
  obtain ⟨t, rfl⟩ := ri
  obtain ⟨its, r, pl, hz⟩ := I.list hq
  obtain ⟨j, h1, h2, h3, h4, h5⟩ := atI_get he
  obtain ⟨w, ew, rw'⟩ := r.get h2
  have hl := r.length
  have hn := line63
  have fin : EP X pins σ Q w s := ⟨z, H, I, rw', q⟩
  by_cases h0 : 0 ≤ k
  · have hj : k.toNat = j := by
      rw [seqIndex_of h0 h5] at h1
      exact Option.some.inj h1
    exact wpAny_getItem_list pl.isList h0 (by omega) (by rw [hj]; simpa using ew) fin
  · have hj : (k + (its.toArray.size : Int)).toNat = j := by
      rw [seqIndex_neg (by omega) h4] at h1
      rw [List.size_toArray, ← hl]
      exact Option.some.inj h1
    exact wpAny_getItem_list_neg pl.isList (by omega) (by rw [List.size_toArray] <;> omega) (by omega) (by rw [hj]; simpa using ew) fin
end
end L2.Zs
namespace L2.Zs
open PySem PySem.Spec PyProof.Rows
/-! ## own errors -/
/-- the own error class at C, called x -/
structure XC (K : PySem.W.Frag) (mg : PySem.Str → Option Value) (x : PySem.Str) (C : Addr) : Prop where
  exc : PySem.W.excIn K C [.type "ValueError", .type "Exception", .type "BaseException", .type "object"] "ValueError.__new__" = true
  g : mg x = some (.ref C)
  kp : PySem.W.keepIn K (.ref C) = true
  b : PySem.W.subIn K (.ref C) (.type "BaseException") = some true
  ty : PySem.W.typeIn K (.ref C) = some (.type "type")
  ic : PySem.W.isClsIn K C = true
/-- what isinstance asks of its instances, besides -/
structure XI (K : PySem.W.Frag) (D : Addr) : Prop where
  c : ExcC K D
  ve : PySem.W.subIn K (.ref D) (.type "ValueError") = some true
def tRaise (C : Addr) (W : WX) : TS := fun _ σ H => W (.ref C) none σ H
section
variable {X : Cx} {W : WX} {x m : PySem.Str} {C : Addr} {p p2 pos pos2 : Pos} {j : Nat}
theorem z_raise (hc : X.calm = true) (tk : Takes X W) (T : XC X.K X.mg x C) (hg : Gl X x) (hdb : (x == ("__debug__" : PySem.Str)) = false := by decide) :
    PS X (.Raise (some (.Call (.Name x p) [.Constant (.str m) j p2] [] pos)) none pos2) (tRaise C W) :=
  ps_raise hc tk (pmk_own PySem.F.excBase_ValueError T.exc T.g T.kp (raises_own T.b T.ty) hg hdb)
end
instance {C : Addr} {W : WX} {D : Ends} {σ : St} {H : Hp} : Stp (tRaise C W D σ H) (W (.ref C) none σ H) := ⟨id⟩
instance {C : Addr} {W : WX} {D : Ends} {σ : St} {H : Hp} {t2 : TS} : Stp (tSeq (tRaise C W) t2 D σ H) (W (.ref C) none σ H) := ⟨id⟩
/-- an error of the class at D is an instance of the class at C, or not -/
theorem kit_ref {K : PySem.W.Frag} {D C : Addr} {b : Bool} (h : (Value.ref D == Value.ref C) = true → b = true) (i : PySem.W.isClsIn K C = true) (t : PySem.W.typeIn K (.ref C) = some (.type "type")) (s : PySem.W.subIn K (.ref D) (.ref C) = some b) :
    PySem.W.kitOne K (.ref D) (.ref C) = some b := by
  unfold PySem.W.kitOne
  split
  · rename_i e; rw [h e]
  · have i' : (PySem.W.clsIn K C).isSome = true := i
    show (if ((PySem.W.clsIn K C).isSome && PySem.W.typeIn K (.ref C) == some (.type "type")) = true then PySem.W.subIn K (.ref D) (.ref C) else none) = some b
    rw [i', t, if_pos (by rfl)]
    exact s
theorem kit_ve {K : PySem.W.Frag} {D : Addr} (T : XI K D) : PySem.W.kitOne K (.ref D) (.type "ValueError") = some true := by
  unfold PySem.W.kitOne
  rw [if_neg (by intro q; cases q)]
  show (if PySem.W.kitMeta "ValueError" = true then PySem.W.subIn K (.ref D) (.type "ValueError") else none) = some true
  rw [if_pos (show PySem.W.kitMeta "ValueError" = true by decide +kernel)]
  exact T.ve
theorem kitAny_no {K : PySem.W.Frag} {t : Value} : ∀ {cs : List Value}, (∀ c ∈ cs, PySem.W.kitOne K t c = some false) → PySem.W.kitAny K t cs = some false
  | [], _ => rfl
  | c :: cs, h => by
    unfold PySem.W.kitAny
    rw [h c List.mem_cons_self]
    exact kitAny_no fun d hd => h d (List.mem_cons_of_mem _ hd)
/-- isinstance of the error that the suite holds -/
def rIsEZ (K : PySem.W.Frag) (a : Addr) (cls : Value) (dd : Option Addr) : List V → Hp → VK → Prop := fun xs H Q => ∃ D, cls = .ref D ∧ dd = none ∧ ExcC K D ∧ rIsE K D a xs H Q
def rIsETZ (K : PySem.W.Frag) (a : Addr) (cls : Value) (dd : Option Addr) : List V → Hp → VK → Prop := fun xs H Q => ∃ D tp cs us b, cls = .ref D ∧ dd = none ∧ ExcC K D ∧ xs = [.ref a, .ref tp] ∧ H tp = some (.tup cs) ∧ Paired ClsV cs us ∧ PySem.W.kitAny K (.ref D) us = some b ∧ Q (.bl b) H
section
variable {X : Cx} {a : Addr} {cls : Value} {dd : Option Addr} {oe : Obj} {pn : List (Addr × Obj)}
theorem z_isE (hz : Zc cls dd oe) (hf : ∃ vs, oe.data = .fields vs) : CallR (X.suite a ((a, oe) :: pn)) (.builtin "isinstance") (rIsEZ X.K a cls dd) := by
  intro pins s σ H xs us Q I r h
  obtain ⟨D, rfl, rfl, c, h⟩ := h
  exact call_isE c hz hf pins s σ H xs us Q I r h
theorem z_isET (hz : Zc cls dd oe) (hf : ∃ vs, oe.data = .fields vs) : CallR (X.suite a ((a, oe) :: pn)) (.builtin "isinstance") (rIsETZ X.K a cls dd) := by
  intro pins s σ H xs us Q I r h
  obtain ⟨D, tp, cs, ws, b, rfl, rfl, C, rfl, hT, k, e, q⟩ := h
  obtain ⟨u1, u2, rfl, r1, r2⟩ := vals2 r
  cases (show u1 = Value.ref a from r1)
  cases (show u2 = Value.ref tp from r2)
  obtain ⟨_, its, rv, o, h1, h2, n, h3⟩ := (show ObjOk _ _ H s.heap tp (.tup cs) from I.hok tp _ hT)
  have e3 := ClsV.all k rv
  subst e3
  obtain ⟨oc, od, dt, sl⟩ := o
  simp only at h2 h3
  subst h2 h3
  obtain ⟨hget, _⟩ := I.pin (a, oe) (List.mem_append.mpr (.inl List.mem_cons_self))
  obtain ⟨vs, hv⟩ := hf
  have J : PySem.W.InstAt s.heap a oe D none := by
    obtain ⟨oc, od, oda, osl⟩ := oe
    obtain ⟨h1, h2⟩ := hz
    dsimp only at h1 h2 hv
    subst h1 h2 hv
    exact ⟨hget, rfl, rfl, trivial⟩
  exact PySem.W.kia_tup (PySem.W.handS_kitx_exc C.hg C.hk C.hs C.hd C.ha C.hn C.ht C.hm) I.kIn J h1 e (fun z => nomatch z) fun tk => ⟨.bl b, H, I.kept (t' := tk) fun _ _ z => z, rfl, q⟩
end
section
variable {K : PySem.W.Frag} {H : Hp} {Q : VK} {a D C tp : Addr} {cs : List As} {ds : List As}
theorem s_isE {b : Bool} (T : XI K D) (k1 : PySem.W.kitOne K (.ref D) (.ref C) = some b) (k : Q (.bl b) H) : rIsEZ K a (.ref D) none [.ref a, .ref C] H Q :=
  ⟨D, rfl, rfl, T.c, .ref C, .ref C, b, rfl, (fun u r => r), k1, k⟩
theorem s_isVE (T : XI K D) (k : Q (.bl true) H) : rIsEZ K a (.ref D) none [.ref a, .ty "ValueError"] H Q :=
  ⟨D, rfl, rfl, T.c, .ty "ValueError", .type "ValueError", true, rfl, (fun u r => r), kit_ve T, k⟩
theorem pairedCls : ∀ l : List Addr, Paired ClsV (l.map V.ref) (l.map Value.ref)
  | [] => .nil
  | c :: l => .cons (.own c) (pairedCls l)
theorem s_isET {l : List Addr} {xs : List V} (T : XI K D) (S : Sep cs H) (p : Pick (pt tp (.tup xs)) cs ds) (e : xs = l.map V.ref) (h : ∀ c ∈ l, PySem.W.kitOne K (.ref D) (.ref c) = some false) (k : Q (.bl false) H) : rIsETZ K a (.ref D) none [.ref a, .ref tp] H Q :=
  ⟨D, tp, _, _, false, rfl, rfl, T.c, rfl, S.get p, e ▸ pairedCls l, kitAny_no fun c hc => by obtain ⟨x, hx, rfl⟩ := List.mem_map.mp hc; exact h x hx, k⟩
end
/-- try: .. except x as n: .. -/
def tTry (K : PySem.W.Frag) (c : Value) (i : Nat) (tb : WX → TS) (ts : Addr → Value → Option Addr → TS) (Wout : WX) : TS := fun D σ H => tb (wAs K c i ts Wout D) D σ H
section
variable {X : Cx} {x n : PySem.Str} {c : Value} {i : Nat} {body suite : List Stmt} {b₀ : Stmt} {np pos pos' : Pos} {tb : WX → TS} {ts : Addr → Value → Option Addr → TS} {Wout : WX}
theorem z_try_as (hs : X.stack = X.env :: X.outer) (hf : X.env.frame = some X.env.locals) (hN : X.N.Nodup) (hi : X.N[i]? = some n) (hln : X.env.kindOf n = some .local) (hc : Names X x c) (tk : Takes X Wout)
    (hb : ∀ (W : WX) (pn : List (Addr × Obj)) (xe : Value → Shared → Prop), Takes (X.tr pn xe) W → PassesOwn (model X.prog X.w) X.A X.env xe → PSs (X.tr pn xe) body (tb W))
    (hsu : ∀ (a : Addr) (oe : Obj) (cls : Value) (d : Option Addr) (pn : List (Addr × Obj)), Zc cls d oe → (∃ vs, oe.data = .fields vs) → PSs (X.suite a ((a, oe) :: pn)) (b₀ :: suite) (ts a cls d)) :
    PS X (.Try body [.ExceptHandler (some (.Name x np)) (some n) (b₀ :: suite) pos'] [] [] pos) (tTry X.K c i tb ts Wout) := ps_try_as hs hf hN hi hln hc tk hb hsu
end
theorem s_try {K : PySem.W.Frag} {c : Value} {i : Nat} {tb : WX → TS} {ts : Addr → Value → Option Addr → TS} {Wout : WX} {D : Ends} {σ : St} {H : Hp} (M : Value → St → Hp → Prop) (hs : ∀ cls σ H, M cls σ H → wAs K c i ts Wout D cls none σ H)
    (hb : ∀ W : WX, (∀ cls σ H, M cls σ H → W cls none σ H) → tb W D σ H) : tTry K c i tb ts Wout D σ H := hb _ hs
/-- the clause takes it -/
theorem s_caught {K : PySem.W.Frag} {c cls : Value} {d : Option Addr} {i : Nat} {ts : Addr → Value → Option Addr → TS} {Wout : WX} {D : Ends} {σ : St} {H : Hp} (h : PySem.W.exmOne K cls c = some true)
    (k : ∀ a, ts a cls d { nx := fun σ' H' => D.nx (σ'.set i none) H', rt := D.rt, bk := fun σ' H' => D.bk (σ'.set i none) H', ct := fun σ' H' => D.ct (σ'.set i none) H' } (σ.set i (some (.ref a))) H) : wAs K c i ts Wout D cls d σ H :=
  ⟨true, h, fun _ a _ => k a, fun q => nomatch q⟩
theorem exm_of' {K : PySem.W.Frag} {D C : Addr} (h1 : PySem.W.subIn K (.ref C) (.type "BaseException") = some true) (h2 : PySem.W.isClsIn K C = true) (h3 : PySem.W.typeIn K (.ref C) = some (.type "type")) (h4 : PySem.W.subIn K (.ref D) (.ref C) = some true) :
    PySem.W.exmOne K (.ref D) (.ref C) = some true := by
  have e1 : (PySem.W.subIn K (.ref C) (.type "BaseException") == some true) = true := by rw [h1] <;> rfl
  have e2 : ((PySem.W.clsIn K C).isSome && PySem.W.typeIn K (.ref C) == some (.type "type")) = true := by
    have h2' : (PySem.W.clsIn K C).isSome = true := h2
    rw [h2', h3] <;> rfl
  show (if (PySem.W.subIn K (.ref C) (.type "BaseException") == some true) = true then (if ((PySem.W.clsIn K C).isSome && PySem.W.typeIn K (.ref C) == some (.type "type")) = true then PySem.W.subIn K (.ref D) (.ref C) else none) else none) = some true
  rw [if_pos e1, if_pos e2]
  exact h4
/-! ## fields by name -/
theorem lk_hd {f : PySem.Str} {v : V} {fs : List (PySem.Str × V)} : List.lookup f ((f, v) :: fs) = some v := by simp [List.lookup]
theorem lk_tl {f g : PySem.Str} {v : V} {fs : List (PySem.Str × V)} {r : Option V} (h : (f == g) = false) (k : List.lookup f fs = r) : List.lookup f ((g, v) :: fs) = r := by simp [List.lookup, h, k]
theorem lk_nil {f : PySem.Str} : List.lookup f ([] : List (PySem.Str × V)) = none := rfl
theorem pf_nil {f : PySem.Str} {v : V} : putF f v [] = [(f, v)] := rfl
theorem pf_tl {f g : PySem.Str} {v w : V} {fs r : List (PySem.Str × V)} (h : (f == g) = false) (k : putF f v fs = r) : putF f v ((g, w) :: fs) = (g, w) :: r := by
  show (if g = f then _ else _) = _
  rw [if_neg (by intro e; subst e; simp at h), k]
theorem pf_hd {f : PySem.Str} {v w : V} {fs : List (PySem.Str × V)} : putF f v ((f, w) :: fs) = (f, v) :: fs := by
  show (if f = f then _ else _) = _
  rw [if_pos rfl]
/-! ## figures -/
/-- a text of n figures -/
def figs (n : Nat) (z : PySem.Str) : Prop := z.length = n ∧ ∀ c ∈ z.cps.toList, 48 ≤ c ∧ c ≤ 57
def spNumber : Sp := fun vs H Q _ => ∃ (d n : Int), vs = [.int d, .int n] ∧ 0 ≤ n ∧ n < 100000 ∧ ∀ z, figs n.toNat z → Q (.str z) H
theorem len_number {vs H Q E} (h : spNumber vs H Q E) : vs.length = 2 := by obtain ⟨d, n, rfl, _⟩ := h; rfl
theorem app_codes (a b : PySem.Str) : (a ++ b).cps.toList = a.cps.toList ++ b.cps.toList := by
  show (a.cps ++ b.cps).toList = _
  simp
theorem app_len (a b : PySem.Str) : (a ++ b).length = a.length + b.length := by
  show (a.cps ++ b.cps).size = _
  simp [PySem.Str.length]
theorem digits_codes : (PySem.Str.ofString "0123456789").cps.toList = [48, 49, 50, 51, 52, 53, 54, 55, 56, 57] := by decide +kernel
theorem digit_at (i : Int) : ∃ c, atI (PySem.Str.ofString "0123456789").cps.toList (i % 10) = some c ∧ 48 ≤ c ∧ c ≤ 57 := by
  have h := emod_in i (p := 10) (by decide)
  obtain ⟨c, h1, h2, _⟩ := atI_lt (xs := (PySem.Str.ofString "0123456789").cps.toList) h.1 (by rw [digits_codes]; exact h.2)
  refine ⟨c, h1, ?_⟩
  rw [digits_codes] at h2
  simp only [List.mem_cons, List.not_mem_nil, or_false] at h2
  omega
/-- whether it is a whole number -/
def spWhole : Sp := fun vs H Q _ => (∃ i, vs = [.int i] ∧ Q (.bl true) H) ∨ (vs = [.non] ∧ Q (.bl false) H)
theorem len_whole {vs H Q E} (h : spWhole vs H Q E) : vs.length = 1 := by rcases h with ⟨i, rfl, _⟩ | ⟨rfl, _⟩ <;> rfl
end L2.Zs
namespace L2.Zs
open PySem PySem.Spec PyProof.Rows
section
variable {K : PySem.W.Frag} {H : Hp} {Q : VK} {v : V} {a : Addr} {cs cs' ds : List As} {xs : List V} {i : Int} {R : Hp → Prop}
theorem s_ixG (S : Sep cs H) (p1 : Pick (pt a (.lst xs)) cs ds) (h : atI xs i = some v) (k : Q v H) : rIxL K (.ref a) (.int i) H Q := ⟨a, xs, i, v, rfl, rfl, SqL.of (S.get p1), h, k⟩
theorem s_stL (S : Sep cs H) {n : Nat} (g : Chg (pt a (.lst xs)) (pt a (.lst (xs.set n v))) cs cs') (h : ixN xs.length i = some n) (k : ∀ H', Sep cs' H' → R H') : rSetL (.ref a) (.int i) v H R :=
  ⟨a, xs, i, n, rfl, rfl, (let ⟨_, p, _⟩ := g.pick; S.get p), h, k _ (S.set g rfl)⟩
end
/-! ## built-in classes as values, isinstance -/
theorem z_ty {X : Cx} {x : PySem.Str} {T : String} {pos : Pos} (hg : Gl X x) (hm : X.mg x = none) (hv : bootBuiltins x = some (.type T)) (hd : (x == ("__debug__" : PySem.Str)) = false := by decide) (hn : x ≠ "__name__" := by decide) : PE X (.Name x pos) (tC (.ty T)) :=
  pe_bltn hg hm hv rfl (hn := hn) (hd := hd)
theorem z_cls {X : Cx} {x : PySem.Str} {C : Addr} {pos : Pos} (hg : Gl X x) (hm : X.mg x = some (.ref C)) (hd : (x == ("__debug__" : PySem.Str)) = false := by decide) : PE X (.Name x pos) (tC (.ref C)) :=
  pe_glob hg hm rfl (hd := hd)
theorem isi_b {K : PySem.W.Frag} {H : Hp} {Q : VK} {x : V} {A T : String} {b : Bool} (h : TyX K H x (.type A)) (k : kitB A T = some b) (q : Q (.bl b) H) : rIsi K [x, .ty T] H Q := ⟨x, .ty T, .type A, .type T, b, rfl, .ty T, h, kit_ty k, q⟩
section
variable {K : PySem.W.Frag} {H : Hp} {Q : VK} {i : Int} {b : Bool} {z : PySem.Str} {a : Addr} {xs : List V} {cs ds : List As}
instance : Stp (rIsi K [.int i, .ty "int"] H Q) (Q (.bl true) H) := ⟨isi_b (.base (.int i)) (by decide +kernel)⟩
instance : Stp (rIsi K [.int i, .ty "bool"] H Q) (Q (.bl false) H) := ⟨isi_b (.base (.int i)) (by decide +kernel)⟩
instance : Stp (rIsi K [.int i, .ty "str"] H Q) (Q (.bl false) H) := ⟨isi_b (.base (.int i)) (by decide +kernel)⟩
instance : Stp (rIsi K [.bl b, .ty "int"] H Q) (Q (.bl true) H) := ⟨isi_b (.base (.bl b)) (by decide +kernel)⟩
instance : Stp (rIsi K [.bl b, .ty "bool"] H Q) (Q (.bl true) H) := ⟨isi_b (.base (.bl b)) (by decide +kernel)⟩
instance : Stp (rIsi K [.non, .ty "int"] H Q) (Q (.bl false) H) := ⟨isi_b (.base .non) (by decide +kernel)⟩
instance : Stp (rIsi K [.non, .ty "str"] H Q) (Q (.bl false) H) := ⟨isi_b (.base .non) (by decide +kernel)⟩
instance : Stp (rIsi K [.non, .ty "list"] H Q) (Q (.bl false) H) := ⟨isi_b (.base .non) (by decide +kernel)⟩
instance : Stp (rIsi K [.non, .ty "tuple"] H Q) (Q (.bl false) H) := ⟨isi_b (.base .non) (by decide +kernel)⟩
instance : Stp (rIsi K [.str z, .ty "str"] H Q) (Q (.bl true) H) := ⟨isi_b (.base (.str z)) (by decide +kernel)⟩
instance : Stp (rIsi K [.str z, .ty "int"] H Q) (Q (.bl false) H) := ⟨isi_b (.base (.str z)) (by decide +kernel)⟩
theorem s_isL (S : Sep cs H) (p : Pick (pt a (.lst xs)) cs ds) (k : Q (.bl true) H) : rIsi K [.ref a, .ty "list"] H Q := isi_b (.base (.lst (S.get p))) (by decide +kernel) k
theorem s_isT (S : Sep cs H) (p : Pick (pt a (.tup xs)) cs ds) (k : Q (.bl true) H) : rIsi K [.ref a, .ty "tuple"] H Q := isi_b (.base (.tup (S.get p))) (by decide +kernel) k
theorem s_isTL (S : Sep cs H) (p : Pick (pt a (.tup xs)) cs ds) (k : Q (.bl false) H) : rIsi K [.ref a, .ty "list"] H Q := isi_b (.base (.tup (S.get p))) (by decide +kernel) k
theorem s_isTS (S : Sep cs H) (p : Pick (pt a (.tup xs)) cs ds) (k : Q (.bl false) H) : rIsi K [.ref a, .ty "str"] H Q := isi_b (.base (.tup (S.get p))) (by decide +kernel) k
theorem s_isLS (S : Sep cs H) (p : Pick (pt a (.lst xs)) cs ds) (k : Q (.bl false) H) : rIsi K [.ref a, .ty "str"] H Q := isi_b (.base (.lst (S.get p))) (by decide +kernel) k
end
/-! list(xs), tuple(xs), max -/
section
variable {K : PySem.W.Frag} {H : Hp} {Q : VK} {i j : Int} {a : Addr} {xs : List V} {cs ds : List As} {D : Ends} {σ : St} {ta : TE} {R : List V → Prop}
theorem s_listL (S : Sep cs H) (p : Pick (pt a (.lst xs)) cs ds) (k : ∀ q H', Sep (pt q (.lst xs) :: cs) H' → Q (.ref q) H') : rListOf K [.ref a] H Q := ⟨a, xs, rfl, .inl (SqL.of (S.get p)), fun l hl => k l _ (S.new hl)⟩
theorem s_listT (S : Sep cs H) (p : Pick (pt a (.tup xs)) cs ds) (k : ∀ q H', Sep (pt q (.lst xs) :: cs) H' → Q (.ref q) H') : rListOf K [.ref a] H Q := ⟨a, xs, rfl, .inr (SqT.of (S.get p)), fun l hl => k l _ (S.new hl)⟩
theorem s_tupL (S : Sep cs H) (p : Pick (pt a (.lst xs)) cs ds) (k : ∀ q H', Sep (pt q (.tup xs) :: cs) H' → Q (.ref q) H') : kTup K (.ref a) H Q := .inl ⟨a, xs, rfl, SqL.of (S.get p), fun l hl => k l _ (S.new hl)⟩
instance : Stp (tThen ta (kTup K) σ H Q) (ta σ H fun x H1 => kTup K x H1 Q) := ⟨id⟩
instance : Stp (rMax2 [.int i, .int j] H Q) (Q (.int (if j > i then j else i)) H) := ⟨fun k => ⟨i, j, rfl, k⟩⟩
instance : Stp (rMin2 [.int i, .int j] H Q) (Q (.int (if j < i then j else i)) H) := ⟨fun k => ⟨i, j, rfl, k⟩⟩
end
/-! ## racks -/
structure Rk where
  held : List V
  brk : List Bool
  tak : List Int
structure Rk.ok (r : Rk) : Prop where
  b : r.brk.length = r.held.length
  t : r.tak.length = r.held.length
  n : r.held.length ≤ 60
def Rk.rdy (r : Rk) (i : Nat) : Bool := decide (r.held[i]? = some .non) && !(r.brk.getD i true)
def Rk.give (r : Rk) (i : Nat) (v : V) : Rk := { r with held := r.held.set i v, tak := r.tak.set i (r.tak.getD i 0 + 1) }
def Rk.free (r : Rk) (i : Nat) : Rk := { r with held := r.held.set i .non }
def Rk.brkAt (r : Rk) (i : Nat) (b : Bool) : Rk := { r with brk := r.brk.set i b }
theorem Rk.ok.give {r : Rk} (h : r.ok) (i : Nat) (v : V) : (r.give i v).ok := ⟨by simp [Rk.give, h.b], by simp [Rk.give, h.t], by simp [Rk.give, h.n]⟩
theorem Rk.ok.free {r : Rk} (h : r.ok) (i : Nat) : (r.free i).ok := ⟨by simp [Rk.free, h.b], by simp [Rk.free, h.t], by simp [Rk.free, h.n]⟩
theorem Rk.ok.brkAt {r : Rk} (h : r.ok) (i : Nat) (b : Bool) : (r.brkAt i b).ok := ⟨by simp [Rk.brkAt, h.b], by simp [Rk.brkAt, h.t], by simp [Rk.brkAt, h.n]⟩
/-- where a rack stands -/
structure RL where
  C : Addr
  dx : Addr
  p : Addr
  l1 : Addr
  l2 : Addr
  l3 : Addr
  more : List (PySem.Str × V)
def rkF (l1 l2 l3 : Addr) (more : List (PySem.Str × V)) : List (PySem.Str × V) := ("held_by", .ref l1) :: ("broken", .ref l2) :: ("taken", .ref l3) :: more
@[reducible] def rkC (L : RL) (r : Rk) (F : List As) : List As := pt L.p (.ins L.C L.dx (rkF L.l1 L.l2 L.l3 L.more)) :: pt L.l1 (.lst r.held) :: pt L.l2 (.lst (r.brk.map .bl)) :: pt L.l3 (.lst (r.tak.map .int)) :: F
def rackMeths : List PySem.Str := ["need", "is_ready", "given", "free", "stick", "mend", "shares", "take", "paper", "holders", "stuck", "mark", "steps"]
structure RL.good (L : RL) (Cs : List Addr) : Prop where
  c : L.C ∈ Cs
  nm : ∀ m ∈ rackMeths, L.more.lookup m = none
theorem rkF_held {l1 l2 l3 : Addr} {m : List (PySem.Str × V)} : (rkF l1 l2 l3 m).lookup ("held_by" : PySem.Str) = some (V.ref l1) := lk_hd
theorem rkF_brk {l1 l2 l3 : Addr} {m : List (PySem.Str × V)} : (rkF l1 l2 l3 m).lookup ("broken" : PySem.Str) = some (V.ref l2) := lk_tl (by decide +kernel) lk_hd
theorem rkF_tak {l1 l2 l3 : Addr} {m : List (PySem.Str × V)} : (rkF l1 l2 l3 m).lookup ("taken" : PySem.Str) = some (V.ref l3) := lk_tl (by decide +kernel) (lk_tl (by decide +kernel) lk_hd)
theorem rkF_m : ∀ m ∈ rackMeths, ((m == ("held_by" : PySem.Str)) = false ∧ (m == ("broken" : PySem.Str)) = false ∧ (m == ("taken" : PySem.Str)) = false) := by decide +kernel
theorem rkF_no {l1 l2 l3 : Addr} {more : List (PySem.Str × V)} {m : PySem.Str} (hm : m ∈ rackMeths) (h : ∀ m ∈ rackMeths, more.lookup m = none) : (rkF l1 l2 l3 more).lookup m = none :=
  lk_tl (rkF_m m hm).1 (lk_tl (rkF_m m hm).2.1 (lk_tl (rkF_m m hm).2.2 (h m hm)))
/-- what the racks' classes say -/
structure RT (K : PySem.W.Frag) (Cs : List Addr) : Prop where
  cls : ∀ C ∈ Cs, Cls K C
  n1 : ∀ C ∈ Cs, NoAttr K C "held_by"
  n2 : ∀ C ∈ Cs, NoAttr K C "broken"
  n3 : ∀ C ∈ Cs, NoAttr K C "taken"
section
variable {K : PySem.W.Frag} {Cs : List Addr} {σ : St} {H : Hp} {Q : VK} {L : RL} {r : Rk} {cs ds : List As}
theorem s_held (T : RT K Cs) (g : L.good Cs) (S : Sep cs H) (p : Pick (pt L.p (.ins L.C L.dx (rkF L.l1 L.l2 L.l3 L.more))) cs ds) (k : Q (.ref L.l1) H) : FldGet K "held_by" (.ref L.p) Q H := s_fldR S p (T.cls _ g.c) (T.n1 _ g.c) rkF_held k
theorem s_brk (T : RT K Cs) (g : L.good Cs) (S : Sep cs H) (p : Pick (pt L.p (.ins L.C L.dx (rkF L.l1 L.l2 L.l3 L.more))) cs ds) (k : Q (.ref L.l2) H) : FldGet K "broken" (.ref L.p) Q H := s_fldR S p (T.cls _ g.c) (T.n2 _ g.c) rkF_brk k
theorem s_tak (T : RT K Cs) (g : L.good Cs) (S : Sep cs H) (p : Pick (pt L.p (.ins L.C L.dx (rkF L.l1 L.l2 L.l3 L.more))) cs ds) (k : Q (.ref L.l3) H) : FldGet K "taken" (.ref L.p) Q H := s_fldR S p (T.cls _ g.c) (T.n3 _ g.c) rkF_tak k
theorem s_rm {m : PySem.Str} {R : Addr → Hp → Prop} (g : L.good Cs) (S : Sep cs H) (hm : m ∈ rackMeths) (p : Pick (pt L.p (.ins L.C L.dx (rkF L.l1 L.l2 L.l3 L.more))) cs ds) (k : R L.C H) : MtGo Cs m (.ref L.p) R H := s_mtR S p g.c (rkF_no hm g.nm) k
end
/-! ### what each def of a rack is worth -/
section
variable (Cs : List Addr) (XS : Addr)
def spNeed (C : Addr) : Sp := fun vs H Q E => ∃ (L : RL) (r : Rk) (k : Int) (F : List As), vs = [.ref L.p, .int k] ∧ L.good Cs ∧ Sep (rkC L r F) H ∧ (0 ≤ k ∧ k < r.held.length → Q .non H) ∧ (¬ (0 ≤ k ∧ k < r.held.length) → E (.ref XS) none H)
def spReady (C : Addr) : Sp := fun vs H Q E => ∃ (L : RL) (r : Rk) (k : Int) (F : List As), vs = [.ref L.p, .int k] ∧ L.good Cs ∧ r.ok ∧ Sep (rkC L r F) H ∧ 0 ≤ k ∧ k < r.held.length ∧ Q (.bl (r.rdy k.toNat)) H
def spGiven (C : Addr) : Sp := fun vs H Q E => ∃ (L : RL) (r : Rk) (k : Int) (v : V) (F : List As), vs = [.ref L.p, .int k, v] ∧ L.good Cs ∧ r.ok ∧ Sep (rkC L r F) H ∧ 0 ≤ k ∧ k < r.held.length ∧ ∀ H', Sep (rkC L (r.give k.toNat v) F) H' → Q .non H'
def spFree (C : Addr) : Sp := fun vs H Q E => ∃ (L : RL) (r : Rk) (k : Int) (F : List As), vs = [.ref L.p, .int k] ∧ L.good Cs ∧ Sep (rkC L r F) H ∧
  (0 ≤ k → k < r.held.length → r.held[k.toNat]? ≠ some .non → ∀ H', Sep (rkC L (r.free k.toNat) F) H' → Q .non H') ∧ (¬ (0 ≤ k ∧ k < r.held.length ∧ r.held[k.toNat]? ≠ some .non) → E (.ref XS) none H)
def spStick (b : Bool) (C : Addr) : Sp := fun vs H Q E => ∃ (L : RL) (r : Rk) (k : Int) (F : List As), vs = [.ref L.p, .int k] ∧ L.good Cs ∧ r.ok ∧ Sep (rkC L r F) H ∧
  (0 ≤ k → k < r.held.length → ∀ H', Sep (rkC L (r.brkAt k.toNat b) F) H' → Q .non H') ∧ (¬ (0 ≤ k ∧ k < r.held.length) → E (.ref XS) none H)
def spShares (C : Addr) : Sp := fun vs H Q E => ∃ (L : RL) (r : Rk) (F : List As), vs = [.ref L.p] ∧ L.good Cs ∧ Sep (rkC L r F) H ∧ ∀ q H', Sep (pt q (.lst (r.tak.map .int)) :: (rkC L r F)) H' → Q (.ref q) H'
/-- a new rack of many things -/
def Rk.new (n : Nat) : Rk := ⟨List.replicate n .non, List.replicate n false, List.replicate n 0⟩
theorem Rk.new_ok {n : Nat} (h : n ≤ 60) : (Rk.new n).ok := ⟨by simp [Rk.new], by simp [Rk.new], by simp [Rk.new, h]⟩
def spRack (C : Addr) : Sp := fun vs H Q E => ∃ (p dx : Addr) (n : Int) (F : List As), vs = [.ref p, .int n] ∧ C ∈ Cs ∧ 0 ≤ n ∧ n ≤ 60 ∧ Sep (pt p (.ins C dx []) :: F) H ∧
  ∀ l1 l2 l3 H', Sep (rkC ⟨C, dx, p, l1, l2, l3, []⟩ (Rk.new n.toNat) F) H' → Q .non H'
/-- the first that is neither held nor stuck -/
def Rk.first (r : Rk) : Option Nat := (List.range r.held.length).find? r.rdy
def spTake (C : Addr) : Sp := fun vs H Q E => ∃ (L : RL) (r : Rk) (v : V) (F : List As), vs = [.ref L.p, v] ∧ L.good Cs ∧ r.ok ∧ Sep (rkC L r F) H ∧
  (r.first = none → ∀ H', Sep (rkC L r F) H' → Q .non H') ∧ (∀ k, r.first = some k → k < r.held.length → ∀ H', Sep (rkC L (r.give k v) F) H' → Q (.int k) H')
def Rk.said (r : Rk) (i : Nat) : V := match r.held.getD i .non with
  | .non => if r.brk.getD i false then .str "stuck" else .str "free"
  | v => v
def Rk.paper (r : Rk) : List V := (List.range r.held.length).map r.said
def spPaper (C : Addr) : Sp := fun vs H Q E => ∃ (L : RL) (r : Rk) (F : List As), vs = [.ref L.p] ∧ L.good Cs ∧ r.ok ∧ Sep (rkC L r F) H ∧ ∀ q H', Sep (pt q (.tup r.paper) :: (rkC L r F)) H' → Q (.ref q) H'
end
section
variable {Cs : List Addr} {XS C : Addr} {vs : List V} {H : Hp} {Q : VK} {E : XK}
theorem len_need (h : spNeed Cs XS C vs H Q E) : vs.length = 2 := by obtain ⟨L, r, k, F, rfl, _⟩ := h; rfl
theorem len_ready (h : spReady Cs C vs H Q E) : vs.length = 2 := by obtain ⟨L, r, k, F, rfl, _⟩ := h; rfl
theorem len_given (h : spGiven Cs C vs H Q E) : vs.length = 3 := by obtain ⟨L, r, k, v, F, rfl, _⟩ := h; rfl
theorem len_free (h : spFree Cs XS C vs H Q E) : vs.length = 2 := by obtain ⟨L, r, k, F, rfl, _⟩ := h; rfl
theorem len_stick {b : Bool} (h : spStick Cs XS b C vs H Q E) : vs.length = 2 := by obtain ⟨L, r, k, F, rfl, _⟩ := h; rfl
theorem len_shares (h : spShares Cs C vs H Q E) : vs.length = 1 := by obtain ⟨L, r, F, rfl, _⟩ := h; rfl
theorem len_rack (h : spRack Cs C vs H Q E) : vs.length = 2 := by obtain ⟨p, dx, n, F, rfl, _⟩ := h; rfl
theorem len_take (h : spTake Cs C vs H Q E) : vs.length = 2 := by obtain ⟨L, r, v, F, rfl, _⟩ := h; rfl
theorem len_paper (h : spPaper Cs C vs H Q E) : vs.length = 1 := by obtain ⟨L, r, F, rfl, _⟩ := h; rfl
end
end L2.Zs
namespace L2.Zs
open PySem PySem.Spec PyProof.Rows
open PySem PySem.Spec PyProof.Rows
instance {A B : Prop} : Stp (if (!true) = true then A else B) B := ⟨s_f⟩
instance {A B : Prop} : Stp (if (!false) = true then A else B) A := ⟨s_t⟩
/-! ## flat data compared -/
def dV : V → PyData
  | .bl b => .bool b
  | .int i => .int i
  | .str z => .str z
  | _ => .none
def okV : V → Bool
  | .non => true
  | .bl _ => true
  | .int _ => true
  | .str z => PyData.canLay0 (.str z)
  | _ => false
theorem okV_flat {v : V} (h : okV v = true) : flatV v = true := by cases v <;> first | rfl | cases h
theorem dp_flat {K : PySem.W.Frag} {H : Hp} {v : V} (h : okV v = true) : Dp K H v (dV v) := by
  cases v <;> first | cases h | skip
  · exact .non
  · exact .bl _
  · exact .int _
  · exact .str _
theorem dpAll_flat {K : PySem.W.Frag} {H : Hp} : ∀ {xs : List V}, (∀ v ∈ xs, okV v = true) → DpAll K H xs (xs.map dV)
  | [], _ => .nil
  | x :: xs, h => .cons (dp_flat (h x List.mem_cons_self)) (dpAll_flat fun v hv => h v (List.mem_cons_of_mem _ hv))
theorem can_dV {v : V} (h : okV v = true) : (dV v).canLay0 = true := by
  cases v <;> first | rfl | exact h
theorem dep_dV (v : V) : (dV v).depth = 0 := by cases v <;> rfl
theorem canAll_flat : ∀ {xs : List V}, (∀ v ∈ xs, okV v = true) → PyData.canLayAll0 (xs.map dV) = true
  | [], _ => rfl
  | x :: xs, h => by
    show (PyData.canLay0 (dV x) && PyData.canLayAll0 (xs.map dV)) = true
    rw [can_dV (h x List.mem_cons_self), canAll_flat fun v hv => h v (List.mem_cons_of_mem _ hv)]
    rfl
theorem depAll_flat : ∀ (xs : List V), PyData.depthAll (xs.map dV) = 0
  | [] => rfl
  | x :: xs => by
    show max (PyData.depth (dV x)) (PyData.depthAll (xs.map dV)) = 0
    rw [dep_dV, depAll_flat xs]
    rfl
theorem shaped_lst {xs : List V} (h : ∀ v ∈ xs, okV v = true) : SeqAt.shaped (.list (xs.map dV)) = true := by
  show (PyData.canLayAll0 (xs.map dV) && decide (PyData.depthAll (xs.map dV) + 1 ≤ 64)) = true
  rw [canAll_flat h, depAll_flat]
  rfl
theorem shaped_tup {xs : List V} (h : ∀ v ∈ xs, okV v = true) : SeqAt.shaped (.tuple (xs.map dV)) = true := by
  show (PyData.canLayAll0 (xs.map dV) && decide (PyData.depthAll (xs.map dV) + 1 ≤ 64)) = true
  rw [canAll_flat h, depAll_flat]
  rfl
theorem eqv_same {d : PyData} (h : SeqAt.shaped d = true) : PyData.eqv d d = true := SeqAt.eqv_refl d (SeqAt.canLay_of_shaped h)
section
variable {K : PySem.W.Frag} {H : Hp} {Q : VK} {a b : Addr} {xs ys : List V} {cs ds es : List As}
theorem s_eqLL (S : Sep cs H) (p : Pick (pt a (.lst xs)) cs ds) (q : Pick (pt b (.lst xs)) cs es) (h : ∀ v ∈ xs, okV v = true) (k : Q (.bl true) H) : rEqZ K (.ref a) (.ref b) H Q := by
  refine s_eqD (.lst (SqL.of (S.get p)) (dpAll_flat h)) (.lst (SqL.of (S.get q)) (dpAll_flat h)) (shaped_lst h) (shaped_lst h) ?_
  rw [eqv_same (shaped_lst h)]
  exact k
theorem s_neLL (S : Sep cs H) (p : Pick (pt a (.lst xs)) cs ds) (q : Pick (pt b (.lst xs)) cs es) (h : ∀ v ∈ xs, okV v = true) (k : Q (.bl false) H) : rNeZ K (.ref a) (.ref b) H Q := by
  refine s_neD (.lst (SqL.of (S.get p)) (dpAll_flat h)) (.lst (SqL.of (S.get q)) (dpAll_flat h)) (shaped_lst h) (shaped_lst h) ?_
  rw [eqv_same (shaped_lst h)]
  exact k
theorem s_neTT (S : Sep cs H) (p : Pick (pt a (.tup xs)) cs ds) (q : Pick (pt b (.tup xs)) cs es) (h : ∀ v ∈ xs, okV v = true) (k : Q (.bl false) H) : rNeZ K (.ref a) (.ref b) H Q := by
  refine s_neD (.tup (SqT.of (S.get p)) (dpAll_flat h)) (.tup (SqT.of (S.get q)) (dpAll_flat h)) (shaped_tup h) (shaped_tup h) ?_
  rw [eqv_same (shaped_tup h)]
  exact k
theorem s_eqTT (S : Sep cs H) (p : Pick (pt a (.tup xs)) cs ds) (q : Pick (pt b (.tup xs)) cs es) (h : ∀ v ∈ xs, okV v = true) (k : Q (.bl true) H) : rEqZ K (.ref a) (.ref b) H Q := by
  refine s_eqD (.tup (SqT.of (S.get p)) (dpAll_flat h)) (.tup (SqT.of (S.get q)) (dpAll_flat h)) (shaped_tup h) (shaped_tup h) ?_
  rw [eqv_same (shaped_tup h)]
  exact k
theorem s_eqNil (S : Sep cs H) (p : Pick (pt a (.lst xs)) cs ds) (q : Pick (pt b (.lst [])) cs es) (h : ∀ v ∈ xs, okV v = true) (k : Q (.bl (decide (xs = []))) H) : rEqZ K (.ref a) (.ref b) H Q := by
  refine s_eqD (.lst (SqL.of (S.get p)) (dpAll_flat h)) (.lst (SqL.of (S.get q)) .nil) (shaped_lst h) (shaped_lst (xs := []) (fun _ h => nomatch h)) ?_
  have e : PyData.eqv (.list (xs.map dV)) (.list []) = decide (xs = []) := by cases xs <;> rfl
  rw [e]
  exact k
theorem s_neNil (S : Sep cs H) (p : Pick (pt a (.lst xs)) cs ds) (q : Pick (pt b (.lst [])) cs es) (h : ∀ v ∈ xs, okV v = true) (k : Q (.bl (!decide (xs = []))) H) : rNeZ K (.ref a) (.ref b) H Q := by
  refine s_neD (.lst (SqL.of (S.get p)) (dpAll_flat h)) (.lst (SqL.of (S.get q)) .nil) (shaped_lst h) (shaped_lst (xs := []) (fun _ h => nomatch h)) ?_
  have e : PyData.eqv (.list (xs.map dV)) (.list []) = decide (xs = []) := by cases xs <;> rfl
  rw [e]
  exact k
end
theorem okI (ns : List Int) : ∀ v ∈ ns.map V.int, okV v = true := fun v hv => by obtain ⟨i, _, rfl⟩ := List.mem_map.mp hv; rfl
theorem okB (ns : List Bool) : ∀ v ∈ ns.map V.bl, okV v = true := fun v hv => by obtain ⟨i, _, rfl⟩ := List.mem_map.mp hv; rfl
theorem flatI (ns : List Int) : (ns.map V.int).all flatV = true := List.all_eq_true.mpr fun v hv => okV_flat (okI ns v hv)
theorem inV_int (k : Int) : ∀ ns : List Int, inV (.int k) (ns.map V.int) = decide (k ∈ ns)
  | [] => by simp [inV]
  | n :: ns => by
    have ih := inV_int k ns
    unfold inV at ih ⊢
    rw [List.map_cons, List.any_cons, ih]
    show ((n == k) || _) = _
    by_cases e : n = k
    · subst e; simp
    · have : ¬ k = n := fun z => e z.symm
      simp [e, this]
theorem figs_ok {n : Nat} {z : PySem.Str} (h : figs n z) : PyData.canLay0 (.str z) = true := by
  show z.cps.all (· < 0x110000) = true
  rw [← Array.all_toList, List.all_eq_true]
  intro c hc
  have := h.2 c hc
  exact decide_eq_true (by omega)
/-- list.remove -/
theorem s_remove {K : PySem.W.Frag} {H : Hp} {Q : VK} {a : Addr} {ns : List Int} {k : Int} {cs cs' : List As} (S : Sep cs H) (h : k ∈ ns) (g : Chg (pt a (.lst (ns.map V.int))) (pt a (.lst ((ns.erase k).map V.int))) cs cs') (c : ∀ H', Sep cs' H' → Q .non H') : rRemI (.ref a) [.int k] H Q := by
  have hi : ns.idxOf k < ns.length := List.idxOf_lt_length_of_mem h
  have e : ns.eraseIdx (ns.idxOf k) = ns.erase k := (List.erase_eq_eraseIdx_of_idxOf rfl).symm
  refine ⟨a, ns, k, ns.idxOf k, rfl, rfl, (let ⟨_, p, _⟩ := g.pick; S.get p), ?_, fun m hm => ?_, ?_⟩
  · rw [List.getElem?_eq_getElem hi, List.getElem_idxOf hi]
  · intro q
    obtain ⟨h1, h2⟩ := List.getElem?_eq_some_iff.mp q
    have := List.not_of_lt_findIdx (p := (· == k)) (xs := ns) (i := m) hm
    simp [h2] at this
  · rw [e]
    exact c _ (S.set g rfl)
end L2.Zs
namespace L2.Zs
open PySem PySem.Spec PyProof.Rows
/-! ## list comprehensions -/
def LcGo (J : It) (g : TG) (tt : TT) (te : TE) (vs : List Nat) (σ : St) (Q : VK) (H1 : Hp) : Prop := ∀ D, H1 D = none → ∃ W : Nat → Nat → Hp → Prop, (∃ m, W 0 m (upd H1 D (.lst []))) ∧ ∀ i m H, W i m H →
  (J.stop i H ∧ Q (.ref D) H) ∨ (J.go i H ∧ ∃ Nx : Hp → Prop, (∀ H', Nx H' → ∃ m', m' < m ∧ W (i + 1) m' H') ∧ ∀ x H', J.yld i H x H' → g x (wipe σ vs) H' fun σ2 H2 => wipe σ2 vs = wipe σ vs ∧ tt σ2 H2 fun b H3 =>
    if b = true then te σ2 H3 fun y H4 => ∃ acc, H4 D = some (.lst acc) ∧ acc.length < sizeLine ∧ Nx (upd H4 D (.lst (acc ++ [y]))) else Nx H3)
def LcPut (D : Addr) (y : V) (N : Hp → Prop) (H4 : Hp) : Prop := ∃ acc, H4 D = some (.lst acc) ∧ acc.length < sizeLine ∧ N (upd H4 D (.lst (acc ++ [y])))
section
variable {K : PySem.W.Frag} {H : Hp} {Q : VK} {a b D : Addr} {xs ys : List V} {cs ds es : List As} {wi : TI} {g : TG} {tt : TT} {te : TE} {tr : TA} {vs : List Nat} {σ : St} {R : It → Hp → Prop} {y : V} {N : Hp → Prop}
instance : Stp (tLc wi g tt te vs σ H Q) (wi σ H fun J H1 => LcGo J g tt te vs σ Q H1) := ⟨id⟩
instance : Stp (iRng1 tr σ H R) (tr σ H fun vs H1 => ∃ j : Int, vs = [.int j] ∧ -(2 ^ 62) ≤ j ∧ j < 2 ^ 62 ∧ R (Itr 0 j.toNat) H1) := ⟨id⟩
instance : Stp (iList K te σ H R) (te σ H fun x H1 => ∃ a, x = .ref a ∧ (∃ xs, SqL K H1 a xs) ∧ R (Itl K a) H1) := ⟨id⟩
theorem s_lcput (S : Sep cs H) (g : Chg (pt D (.lst xs)) (pt D (.lst (xs ++ [y]))) cs ds) (h : xs.length < sizeLine) (k : ∀ H', Sep ds H' → N H') : LcPut D y N H :=
  ⟨xs, (let ⟨_, p, _⟩ := g.pick; S.get p), h, k _ (S.set g rfl)⟩
theorem s_lcR {lo : Int} {n : Nat} (S : Sep cs H) (Pv : Addr → Nat → Hp → Prop) (h0 : ∀ D H', Sep (pt D (.lst []) :: cs) H' → Pv D 0 H')
    (hs : ∀ D i H', i < n → Pv D i H' → g (.int (lo + i)) (wipe σ vs) H' fun σ2 H2 => wipe σ2 vs = wipe σ vs ∧ tt σ2 H2 fun b H3 => if b = true then te σ2 H3 fun y H4 => LcPut D y (Pv D (i + 1)) H4 else Pv D (i + 1) H3)
    (hd : ∀ D H', Pv D n H' → Q (.ref D) H') : LcGo (Itr lo n) g tt te vs σ Q H :=
  fun D hD => lc_range (Pv D) (h0 D _ (S.new hD)) (fun i H' hi p => hs D i H' hi p) (fun H' p => hd D H' p)
theorem s_lcL (S : Sep cs H) (Pv : Addr → Nat → Hp → Prop) (h0 : ∀ D H', Sep (pt D (.lst []) :: cs) H' → Pv D 0 H') (hl : ∀ D i H', i ≤ xs.length → Pv D i H' → SqL K H' a xs)
    (hs : ∀ D i x H', xs[i]? = some x → Pv D i H' → g x (wipe σ vs) H' fun σ2 H2 => wipe σ2 vs = wipe σ vs ∧ tt σ2 H2 fun b H3 => if b = true then te σ2 H3 fun y H4 => LcPut D y (Pv D (i + 1)) H4 else Pv D (i + 1) H3)
    (hd : ∀ D H', Pv D xs.length H' → Q (.ref D) H') : LcGo (Itl K a) g tt te vs σ Q H :=
  fun D hD => lc_list (Pv D) (h0 D _ (S.new hD)) (hl D) (fun i x H' e p => hs D i x H' e p) (fun H' p => hd D H' p)
end
/-! ## a pair with a list in it -/
section
variable {K : PySem.W.Frag} {H : Hp} {Q : VK} {a b t1 t2 : Addr} {xs ys : List V} {x : V} {cs ds es ds2 es2 : List As}
theorem shaped_tl {xs : List V} {x : V} (hx : okV x = true) (h : ∀ v ∈ xs, okV v = true) : SeqAt.shaped (.tuple [dV x, .list (xs.map dV)]) = true := by
  show (((dV x).canLay0 && ((PyData.canLayAll0 (xs.map dV)) && true)) && decide (max (PyData.depth (dV x)) (max (PyData.depthAll (xs.map dV) + 1) 0) + 1 ≤ 64)) = true
  rw [can_dV hx, canAll_flat h, dep_dV, depAll_flat]
  rfl
theorem s_neTL (S : Sep cs H) (p1 : Pick (pt t1 (.tup [x, .ref a])) cs ds) (p2 : Pick (pt a (.lst xs)) cs es) (q1 : Pick (pt t2 (.tup [x, .ref b])) cs ds2) (q2 : Pick (pt b (.lst xs)) cs es2) (hx : okV x = true) (h : ∀ v ∈ xs, okV v = true) (k : Q (.bl false) H) : rNeZ K (.ref t1) (.ref t2) H Q := by
  refine s_neD (.tup (SqT.of (S.get p1)) (.cons (dp_flat hx) (.cons (.lst (SqL.of (S.get p2)) (dpAll_flat h)) .nil))) (.tup (SqT.of (S.get q1)) (.cons (dp_flat hx) (.cons (.lst (SqL.of (S.get q2)) (dpAll_flat h)) .nil))) (shaped_tl hx h) (shaped_tl hx h) ?_
  rw [eqv_same (shaped_tl hx h)]
  exact k
end
section
variable {H : Hp} {Q : VK} {i j : Int} {te : TE} {σ : St}
instance : Stp (rMax2 [.int i, .int j] H Q) (Q (.int (if j > i then j else i)) H) := ⟨fun k => ⟨i, j, rfl, k⟩⟩
instance : Stp (rMin2 [.int i, .int j] H Q) (Q (.int (if j < i then j else i)) H) := ⟨fun k => ⟨i, j, rfl, k⟩⟩
/-- one value by many ways -/
theorem s_val (v : V) (h : ∀ Q : VK, Q v H → te σ H Q) (k : Q v H) : te σ H Q := h Q k
end
/-- what a law is to do -/
def spLawK (K : PySem.W.Frag) : Sp := fun vs H Q _ => ∃ (a : Addr) (ns : List Int), vs = [.ref a] ∧ SqL K H a (ns.map V.int) ∧ ns.length ≤ 63 ∧ ∀ H', Q (.bl true) H'
theorem len_law {K vs H Q E} (h : spLawK K vs H Q E) : vs.length = 1 := by obtain ⟨a, ns, rfl, _⟩ := h; rfl
theorem sep_law {K : PySem.W.Frag} {H : Hp} {a : Addr} {xs : List V} (h : SqL K H a xs) : Sep [sq K a xs] H := ⟨H, fun _ => none, Le.refl _, (fun _ _ q => nomatch q), (fun _ _ _ _ q => nomatch q), h, trivial⟩
end L2.Zs
namespace L2.Zs
open PySem PySem.Spec PyProof.Rows
/-! ## C.m(self, ..): a def of a base, through its class -/
/-- the def m of the class at C, called through the class, keeps sp -/
def Bas (P : Program) (w : World) (K : PySem.W.Frag) (mg : PySem.Str → Option Value) (base : Heap) (k : Nat) (C : Addr) (m : PySem.Str) (sp : Sp) : Prop :=
  ∃ f fd ps, FnOk P w K mg base (L2.CX P w) k f fd ps sp ∧ PySem.W.readsIn K C (.type "type") = true ∧ PySem.W.specialIn K (.ref C) "__getattribute__" = some (some (.builtin "type.__getattribute__")) ∧
    PySem.W.findCls K (.ref C) (.type "type") m = some (.val (.ref f)) ∧ PySem.W.keepIn K (.ref f) = true ∧ Binds K fd ps []
def tBas (C : Addr) (sp : Sp) (E : St → XK) (ta : TE) (t : TA) : TE := fun σ H Q => ta σ H fun x H1 => x = .ref C ∧ t σ H1 fun vs H2 => sp vs H2 Q (E σ)
section
variable {X : Cx} {W : WX} {k j : Nat} {C : Addr} {sp : Sp} {m : PySem.Str} {pos apos : Pos} {e o : Expr} {es : List Expr} {ta : TE} {t : TA} {pl : Sem Bool}
theorem z_base (c : Bas X.prog X.w X.K X.mg X.base k C m sp) (tk : Takes X W) (hr : Room j X.A) (hk : k ≤ j) (ho : PE X o ta) (ha : PA X (e :: es) t)
    (hst : starEach (e :: es) X.env = (false, eval e X.env) :: starEach es X.env := by rfl) (hpl : (backTo pos (starEach es X.env)).any (·.1) = false := by rfl)
    (ht : eval (.Call (.Attribute o m apos) (e :: es) [] pos) X.env = (do
      let ov ← eval o X.env
      standAt apos.atName
      let (f, first) ← holding [ov] (getMethod ov m pl)
      callWith pos f first (backTo pos (starEach (e :: es) X.env)) (backToKw pos (keywordEach [] X.env))) := by rfl) :
    PE X (.Call (.Attribute o m apos) (e :: es) [] pos) (tBas C sp (WE W) ta t) := by
  obtain ⟨f, fd, ps, F, h1, h2, h3, kp, hb⟩ := c
  refine ⟨fun pins s σ H Q I h => ?_⟩
  refine PySem.W.methodCall_KW (pl := pl) (thn (ho.run pins s σ H _ I h) fun u s1 ⟨x, H1, I1, rx, ex, q⟩ => ?_) ht
  subst ex
  obtain rfl : u = Value.ref C := rx
  refine PySem.W.method_cls I1.kIn h2 (PySem.W.cls_value I1.kIn h1 h3 rfl ?_)
  refine PySem.W.callWith_K (h₀ := X.base) I1.ok.mod.kin kp (thn (ha.run pos pins _ σ H1 _ (I1.tok _) q) fun us s2 ⟨vs, H2, I2, r, q2⟩ => ⟨I2.kIn, ?_⟩) hst hpl
  exact run_fnS F (hr.mono hk) hb (passAt tk σ) I2 r q2
end
section
variable {K : PySem.W.Frag} {σ : St} {H : Hp} {Q : VK} {v x y : V} {ta tb tv td ty : TE} {a b C : Addr} {cs ds cs' : List As} {D : Ends} {tr : TA} {sp : Sp} {E : St → XK} {R : Prop}
instance : Stp (tBas C sp E ta tr σ H Q) (ta σ H fun x H1 => x = .ref C ∧ tr σ H1 fun vs H2 => sp vs H2 Q (E σ)) := ⟨id⟩
instance : Stp (V.ref C = .ref C ∧ R) R := ⟨fun k => ⟨rfl, k⟩⟩
/-! ## dicts whose keys are texts -/
def DG (x y : V) (Q : VK) (H : Hp) : Prop := ∃ a v, x = .ref a ∧ DGet H a y (some v) ∧ Q v H
def DP (x y v : V) (N : Hp → Prop) (H : Hp) : Prop := ∃ a H4, x = .ref a ∧ DPut H a y v H4 ∧ N H4
instance : Stp (tDGet td ty σ H Q) (td σ H fun x H1 => ty σ H1 fun y H2 => DG x y Q H2) := ⟨id⟩
instance : Stp (sDPut td ty tv D σ H) (tv σ H fun v H1 => td σ H1 fun x H2 => ty σ H2 fun y H3 => DP x y v (fun H4 => D.nx σ H4) H3) := ⟨id⟩
def DA (tv : TE) (rd : V → V → Hp → VK → Prop) (D : Ends) (σ : St) (x y : V) (H : Hp) : Prop := ∃ a v, x = .ref a ∧ DGet H a y (some v) ∧ tv σ H fun y2 H3 => rd v y2 H3 fun z H4 => ∃ H5, DPut H4 a y z H5 ∧ D.nx σ H5
instance {rd : V → V → Hp → VK → Prop} : Stp (sDAug td ty tv rd D σ H) (td σ H fun x H1 => ty σ H1 fun y H2 => DA tv rd D σ x y H2) := ⟨id⟩
theorem s_dget {kvs : List (Key × V)} {z : PySem.Str} (S : Sep cs H) (p : Pick (pt a (.dK kvs)) cs ds) (h : valV kvs (.inr z) = some v) (k : Q v H) : DG (.ref a) (.str z) Q H :=
  ⟨a, v, rfl, h ▸ DGet.k (k := .inr z) (S.get p), k⟩
theorem s_dput {kvs kvs' : List (Key × V)} {z : PySem.Str} {N : Hp → Prop} (S : Sep cs H) (g : Chg (pt a (.dK kvs)) (pt a (.dK kvs')) cs cs') (e : putK kvs (.inr z) v = kvs') (h : kvs.length < sizeLine) (k : ∀ H', Sep cs' H' → N H') : DP (.ref a) (.str z) v N H :=
  ⟨a, _, rfl, e ▸ DPut.k (k := .inr z) (let ⟨_, p, _⟩ := g.pick; S.get p) h, k _ (S.set g rfl)⟩
theorem vv_hd {z : PySem.Str} {v : V} {r : List (Key × V)} : valV ((.inr z, v) :: r) (.inr z : Key) = some v := valV_pos rfl
theorem vv_tl {z z' : PySem.Str} {v : V} {r : List (Key × V)} {o : Option V} (h : z' ≠ z) (k : valV r (.inr z : Key) = o) : valV ((.inr z', v) :: r) (.inr z : Key) = o := by
  rw [valV_neg (fun e => h (Sum.inr.inj e)), k]
end
end L2.Zs
namespace L2.Zs
open PySem PySem.Spec PyProof.Rows
/-! ## seekers -/
structure Sk where
  r : Rk
  pl : Int
  sp : List Int
  gn : List Int
  nx : Nat
def Sk.n (s : Sk) : Nat := s.r.held.length
structure Sk.ok (s : Sk) : Prop where
  r : s.r.ok
  q : s.sp.length = s.r.held.length
  g : s.gn.length = s.r.held.length
  x : s.nx < s.r.held.length
  p : 0 < s.pl
structure SL where
  C : Addr
  dx : Addr
  p : Addr
  l1 : Addr
  l2 : Addr
  l3 : Addr
  l4 : Addr
  l5 : Addr
@[reducible] def skL (B : SL) (s : Sk) : RL := ⟨B.C, B.dx, B.p, B.l1, B.l2, B.l3, [("places", .int s.pl), ("spots", .ref B.l4), ("gone", .ref B.l5), ("next_one", .int s.nx)]⟩
@[reducible] def skC (B : SL) (s : Sk) (F : List As) : List As := rkC (skL B s) s.r (pt B.l4 (.lst (s.sp.map .int)) :: pt B.l5 (.lst (s.gn.map .int)) :: F)
theorem skM : ∀ m ∈ rackMeths, (m == ("places" : PySem.Str)) = false ∧ (m == ("spots" : PySem.Str)) = false ∧ (m == ("gone" : PySem.Str)) = false ∧ (m == ("next_one" : PySem.Str)) = false := by decide +kernel
theorem sk_nm {v1 v2 v3 v4 : V} : ∀ m ∈ rackMeths, List.lookup m [(("places" : PySem.Str), v1), ("spots", v2), ("gone", v3), ("next_one", v4)] = none := fun m hm =>
  lk_tl (skM m hm).1 (lk_tl (skM m hm).2.1 (lk_tl (skM m hm).2.2.1 (lk_tl (skM m hm).2.2.2 lk_nil)))
theorem skL_good {B : SL} {s : Sk} {Cs : List Addr} (h : B.C ∈ Cs) : (skL B s).good Cs := ⟨h, sk_nm⟩
theorem rkF_else {l1 l2 l3 : Addr} {more : List (PySem.Str × V)} {f : PySem.Str} {o : Option V} (h1 : (f == ("held_by" : PySem.Str)) = false) (h2 : (f == ("broken" : PySem.Str)) = false) (h3 : (f == ("taken" : PySem.Str)) = false) (h : more.lookup f = o) : (rkF l1 l2 l3 more).lookup f = o :=
  lk_tl h1 (lk_tl h2 (lk_tl h3 h))
theorem rkF_put {l1 l2 l3 : Addr} {more more' : List (PySem.Str × V)} {f : PySem.Str} {v : V} (h1 : (f == ("held_by" : PySem.Str)) = false) (h2 : (f == ("broken" : PySem.Str)) = false) (h3 : (f == ("taken" : PySem.Str)) = false) (h : putF f v more = more') : putF f v (rkF l1 l2 l3 more) = rkF l1 l2 l3 more' :=
  pf_tl h1 (pf_tl h2 (pf_tl h3 h))
structure ST (K : PySem.W.Frag) (Cs : List Addr) : Prop where
  cls : ∀ C ∈ Cs, Cls K C
  n1 : ∀ C ∈ Cs, NoAttr K C "places"
  n2 : ∀ C ∈ Cs, NoAttr K C "spots"
  n3 : ∀ C ∈ Cs, NoAttr K C "gone"
  n4 : ∀ C ∈ Cs, NoAttr K C "next_one"
section
variable {K : PySem.W.Frag} {Cs : List Addr} {H : Hp} {Q : VK} {C dx p l1 l2 l3 : Addr} {cs ds cs' : List As} {v1 v2 v3 v4 v : V} {R : Hp → Prop}
theorem s_pl (T : ST K Cs) (g : C ∈ Cs) (S : Sep cs H) (q : Pick (pt p (.ins C dx (rkF l1 l2 l3 [("places", v1), ("spots", v2), ("gone", v3), ("next_one", v4)]))) cs ds) (k : Q v1 H) : FldGet K "places" (.ref p) Q H :=
  s_fldR S q (T.cls _ g) (T.n1 _ g) (rkF_else (by decide +kernel) (by decide +kernel) (by decide +kernel) lk_hd) k
theorem s_sp (T : ST K Cs) (g : C ∈ Cs) (S : Sep cs H) (q : Pick (pt p (.ins C dx (rkF l1 l2 l3 [("places", v1), ("spots", v2), ("gone", v3), ("next_one", v4)]))) cs ds) (k : Q v2 H) : FldGet K "spots" (.ref p) Q H :=
  s_fldR S q (T.cls _ g) (T.n2 _ g) (rkF_else (by decide +kernel) (by decide +kernel) (by decide +kernel) (lk_tl (by decide +kernel) lk_hd)) k
theorem s_gn (T : ST K Cs) (g : C ∈ Cs) (S : Sep cs H) (q : Pick (pt p (.ins C dx (rkF l1 l2 l3 [("places", v1), ("spots", v2), ("gone", v3), ("next_one", v4)]))) cs ds) (k : Q v3 H) : FldGet K "gone" (.ref p) Q H :=
  s_fldR S q (T.cls _ g) (T.n3 _ g) (rkF_else (by decide +kernel) (by decide +kernel) (by decide +kernel) (lk_tl (by decide +kernel) (lk_tl (by decide +kernel) lk_hd))) k
theorem s_nx (T : ST K Cs) (g : C ∈ Cs) (S : Sep cs H) (q : Pick (pt p (.ins C dx (rkF l1 l2 l3 [("places", v1), ("spots", v2), ("gone", v3), ("next_one", v4)]))) cs ds) (k : Q v4 H) : FldGet K "next_one" (.ref p) Q H :=
  s_fldR S q (T.cls _ g) (T.n4 _ g) (rkF_else (by decide +kernel) (by decide +kernel) (by decide +kernel) (lk_tl (by decide +kernel) (lk_tl (by decide +kernel) (lk_tl (by decide +kernel) lk_hd)))) k
theorem s_nxS (T : ST K Cs) (g : C ∈ Cs) (S : Sep cs H) (q : Chg (pt p (.ins C dx (rkF l1 l2 l3 [("places", v1), ("spots", v2), ("gone", v3), ("next_one", v4)]))) (pt p (.ins C dx (rkF l1 l2 l3 [("places", v1), ("spots", v2), ("gone", v3), ("next_one", v)]))) cs cs')
    (k : ∀ H', Sep cs' H' → R H') : FldSet K "next_one" (.ref p) v R H := by
  have e : putF "next_one" v (rkF l1 l2 l3 [("places", v1), ("spots", v2), ("gone", v3), ("next_one", v4)]) = rkF l1 l2 l3 [("places", v1), ("spots", v2), ("gone", v3), ("next_one", v)] :=
    rkF_put (by decide +kernel) (by decide +kernel) (by decide +kernel) (pf_tl (by decide +kernel) (pf_tl (by decide +kernel) (pf_tl (by decide +kernel) pf_hd)))
  refine s_sfldR S (e ▸ q) (T.cls _ g) (T.n4 _ g) (by show 7 < 1000; decide) k
end
/-! ### what the defs of seekers are worth -/
def Sk.new (n : Nat) (pl : Int) : Sk := ⟨Rk.new n, pl, List.replicate n 0, List.replicate n 0, 0⟩
theorem Sk.new_ok {n : Nat} {pl : Int} (h0 : 0 < n) (h : n ≤ 60) (hp : 0 < pl) : (Sk.new n pl).ok := ⟨Rk.new_ok h, by simp [Sk.new, Rk.new], by simp [Sk.new, Rk.new], by simpa [Sk.new, Rk.new] using h0, hp⟩
def Sk.ord (s : Sk) : List Nat := (List.range s.r.held.length).map fun far => (s.nx + far) % s.r.held.length
def Sk.first (s : Sk) : Option Nat := s.ord.find? s.r.rdy
def Sk.way (s : Sk) (k : Nat) (place : Int) : Int := (place - s.sp.getD k 0) % s.pl
def Sk.took (s : Sk) (k : Nat) (place : Int) : Sk := { r := s.r.give k (.int place), pl := s.pl, sp := s.sp.set k place, gn := s.gn.set k (s.gn.getD k 0 + s.way k place), nx := (k + 1) % s.r.held.length }
def Rk.jam (r : Rk) : List Int := ((List.range r.held.length).filter fun k => r.brk.getD k false).map fun k => ((k : Nat) : Int)
section
variable (Cs : List Addr)
def spSkInit (C : Addr) : Sp := fun vs H Q E => ∃ (p dx : Addr) (n pl : Int) (F : List As), vs = [.ref p, .int n, .int pl] ∧ C ∈ Cs ∧ 1 ≤ n ∧ n ≤ 60 ∧ Sep (pt p (.ins C dx []) :: F) H ∧
  ∀ l1 l2 l3 l4 l5 H', Sep (skC ⟨C, dx, p, l1, l2, l3, l4, l5⟩ (Sk.new n.toNat pl) F) H' → Q .non H'
def spSkTake (C : Addr) : Sp := fun vs H Q E => ∃ (B : SL) (s : Sk) (place : Int) (F : List As), vs = [.ref B.p, .int place] ∧ B.C ∈ Cs ∧ s.ok ∧ Sep (skC B s F) H ∧
  (s.first = none → ∀ H', Sep (skC B s F) H' → Q .non H') ∧ (∀ k, s.first = some k → k < s.r.held.length → ∀ t H', Sep (pt t (.tup [.int k, .int (s.way k place)]) :: skC B (s.took k place) F) H' → Q (.ref t) H')
def spHolders (C : Addr) : Sp := fun vs H Q E => ∃ (L : RL) (r : Rk) (F : List As), vs = [.ref L.p] ∧ L.good Cs ∧ Sep (rkC L r F) H ∧ ∀ q H', Sep (pt q (.lst r.held) :: (rkC L r F)) H' → Q (.ref q) H'
def spJam (C : Addr) : Sp := fun vs H Q E => ∃ (L : RL) (r : Rk) (F : List As), vs = [.ref L.p] ∧ L.good Cs ∧ r.ok ∧ Sep (rkC L r F) H ∧ ∀ q H', Sep (pt q (.lst (r.jam.map .int)) :: (rkC L r F)) H' → Q (.ref q) H'
def spMark (C : Addr) : Sp := fun vs H Q E => ∃ (B : SL) (s : Sk) (F : List As), vs = [.ref B.p] ∧ B.C ∈ Cs ∧ Sep (skC B s F) H ∧ Q (.int s.nx) H
def spSteps (C : Addr) : Sp := fun vs H Q E => ∃ (B : SL) (s : Sk) (F : List As), vs = [.ref B.p] ∧ B.C ∈ Cs ∧ Sep (skC B s F) H ∧ ∀ q H', Sep (pt q (.lst (s.gn.map .int)) :: (skC B s F)) H' → Q (.ref q) H'
end
section
variable {Cs : List Addr} {C : Addr} {vs : List V} {H : Hp} {Q : VK} {E : XK}
theorem len_skinit (h : spSkInit Cs C vs H Q E) : vs.length = 3 := by obtain ⟨p, dx, n, pl, F, rfl, _⟩ := h; rfl
theorem len_sktake (h : spSkTake Cs C vs H Q E) : vs.length = 2 := by obtain ⟨L, r, v, F, rfl, _⟩ := h; rfl
theorem len_holders (h : spHolders Cs C vs H Q E) : vs.length = 1 := by obtain ⟨L, r, F, rfl, _⟩ := h; rfl
theorem len_jam (h : spJam Cs C vs H Q E) : vs.length = 1 := by obtain ⟨L, r, F, rfl, _⟩ := h; rfl
theorem len_mark (h : spMark Cs C vs H Q E) : vs.length = 1 := by obtain ⟨L, r, F, rfl, _⟩ := h; rfl
theorem len_steps (h : spSteps Cs C vs H Q E) : vs.length = 1 := by obtain ⟨L, r, F, rfl, _⟩ := h; rfl
end
end L2.Zs
namespace L2.Zs
open PySem PySem.Spec PyProof.Rows
/-! ## dicts written out -/
def DDone (p : Addr) (Q : VK) : List (V × V) → Hp → Prop := fun ps H2 => H2 p = some (.dK []) ∧ ∃ kvs : List (Key × V), ps = kvs.map (fun kv => (kV kv.1, kv.2)) ∧ kvs.length ≤ 15 ∧ Q (.ref p) (upd H2 p (.dK (mergeK [] kvs)))
def DNew (trs : List (TE × TE)) (σ : St) (Q : VK) (H : Hp) : Prop := ∀ p, H p = none → tPairs trs σ (upd H p (.dK [])) (DDone p Q)
theorem putK_new {kvs : List (Key × V)} {ks : List Key} {k : Key} {v : V} (e : kvs.map (·.1) = ks) (hn : (k :: ks).Nodup) : putK kvs k v = kvs ++ [(k, v)] := by
  have h : k ∉ ks := (List.nodup_cons.mp hn).1
  unfold putK
  rw [if_neg]
  intro z
  obtain ⟨kv, h1, h2⟩ := List.any_eq_true.mp z
  exact h (e ▸ of_decide_eq_true h2 ▸ List.mem_map_of_mem h1)
theorem merge_acc : ∀ {more acc : List (Key × V)}, ((acc ++ more).map (·.1)).Nodup → mergeK acc more = acc ++ more
  | [], acc, _ => by simp [mergeK]
  | (k, v) :: r, acc, h => by
    show mergeK (putK acc k v) r = _
    rw [putK_new rfl (by
      rw [List.map_append, List.nodup_append] at h
      exact List.nodup_cons.mpr ⟨fun z => h.2.2 k z k (by simp) rfl, h.1⟩), merge_acc (by simpa using h)]
    simp
theorem merge_new {kvs : List (Key × V)} {ks : List Key} (e : kvs.map (·.1) = ks) (h : ks.Nodup) : mergeK [] kvs = kvs := by
  rw [merge_acc (by rw [List.nil_append, e]; exact h)]
  rfl
section
variable {K : PySem.W.Frag} {σ : St} {H : Hp} {Q : VK} {tk tv : TE} {r trs : List (TE × TE)} {QP : List (V × V) → Hp → Prop} {cs cs' ds : List As} {p : Addr} {ps : List (V × V)}
instance : Stp (tDisp trs σ H Q) (DNew trs σ Q H) := ⟨id⟩
instance : Stp (tPairs [] σ H QP) (QP [] H) := ⟨id⟩
instance : Stp (tPairs ((tk, tv) :: r) σ H QP) (tk σ H fun x H1 => tv σ H1 fun y H2 => tPairs r σ H2 fun ps H3 => QP ((x, y) :: ps) H3) := ⟨id⟩
theorem s_dnew (S : Sep cs H) (k : ∀ p H', Sep (pt p (.dK []) :: cs) H' → tPairs trs σ H' (DDone p Q)) : DNew trs σ Q H := fun p hp => k p _ (S.new hp)
theorem s_ddone {kvs : List (Key × V)} {ks : List Key} (S : Sep cs H) (g : Chg (pt p (.dK [])) (pt p (.dK kvs)) cs cs') (e : ps = kvs.map (fun kv => (kV kv.1, kv.2))) (hl : kvs.length ≤ 15) (ek : kvs.map (·.1) = ks) (hn : ks.Nodup) (k : ∀ H', Sep cs' H' → Q (.ref p) H') : DDone p Q ps H := by
  refine ⟨(let ⟨_, q, _⟩ := g.pick; S.get q), kvs, e, hl, ?_⟩
  rw [merge_new ek hn]
  exact k _ (S.set g rfl)
instance {QT : Bool → Hp → Prop} : Stp (tYes σ H QT) (QT true H) := ⟨id⟩
instance {A B : Prop} : Stp (if decide (V.non = V.non) = true then A else B) A := ⟨fun h => by rw [decide_eq_true rfl]; exact s_t h⟩
instance {a : Addr} {A B : Prop} : Stp (if decide (V.ref a = V.non) = true then A else B) B := ⟨fun h => by rw [decide_eq_false (fun z => nomatch z)]; exact s_f h⟩
instance {i : Int} {A B : Prop} : Stp (if decide (V.int i = V.non) = true then A else B) B := ⟨fun h => by rw [decide_eq_false (fun z => nomatch z)]; exact s_f h⟩
instance {a : Addr} {A B : Prop} : Stp (if (!decide (V.ref a = V.non)) = true then A else B) A := ⟨fun h => by rw [decide_eq_false (fun z => nomatch z)]; exact s_t h⟩
instance {A B : Prop} : Stp (if (!decide (V.non = V.non)) = true then A else B) B := ⟨fun h => by rw [decide_eq_true rfl]; exact s_f h⟩
/-! ## sorted -/
theorem s_sorted {a : Addr} {ns : List Int} (S : Sep cs H) (q : Pick (pt a (.lst (ns.map V.int))) cs ds) (h : ns.length < 64) (k : ∀ (ns' : List Int) (l : Addr) (H' : Hp), ns'.Perm ns → ns'.Pairwise (· ≤ ·) → Sep (pt l (.lst (ns'.map V.int)) :: cs) H' → Q (.ref l) H') : rSorted K [.ref a] H Q :=
  ⟨a, ns, rfl, SqL.of (S.get q), h, fun ns' l p1 p2 hl => k ns' l _ p1 p2 (S.new hl)⟩
end
theorem sorted_eq : ∀ {xs ys : List Int}, xs.Perm ys → xs.Pairwise (· ≤ ·) → ys.Pairwise (· ≤ ·) → xs = ys
  | [], ys, p, _, _ => (List.nil_perm.mp p).symm
  | x :: xs, [], p, _, _ => absurd p.length_eq (by simp)
  | x :: xs, y :: ys, p, h1, h2 => by
    have a1 := List.pairwise_cons.mp h1
    have a2 := List.pairwise_cons.mp h2
    have e : x = y := by
      have m1 : x ∈ y :: ys := p.subset List.mem_cons_self
      have m2 : y ∈ x :: xs := p.symm.subset List.mem_cons_self
      rcases List.mem_cons.mp m1 with e | m1
      · exact e
      · rcases List.mem_cons.mp m2 with e | m2
        · exact e.symm
        · have := a1.1 y m2
          have := a2.1 x m1
          omega
    subst e
    rw [sorted_eq ((List.perm_cons x).mp p) a1.2 a2.2]
/-! ## lists of flat lists compared -/
section
variable {K : PySem.W.Frag} {H : Hp} {Q : VK} {t1 t2 a1 a2 a3 a4 b1 b2 b3 b4 : Addr} {x1 x2 x3 x4 : List V} {cs ds es c1 c2 c3 c4 d1 d2 d3 d4 : List As}
theorem shaped_4 (h1 : ∀ v ∈ x1, okV v = true) (h2 : ∀ v ∈ x2, okV v = true) (h3 : ∀ v ∈ x3, okV v = true) (h4 : ∀ v ∈ x4, okV v = true) : SeqAt.shaped (.list [.list (x1.map dV), .list (x2.map dV), .list (x3.map dV), .list (x4.map dV)]) = true := by
  show ((PyData.canLayAll0 (x1.map dV) && (PyData.canLayAll0 (x2.map dV) && (PyData.canLayAll0 (x3.map dV) && (PyData.canLayAll0 (x4.map dV) && true)))) && decide (max (PyData.depthAll (x1.map dV) + 1) (max (PyData.depthAll (x2.map dV) + 1) (max (PyData.depthAll (x3.map dV) + 1) (max (PyData.depthAll (x4.map dV) + 1) 0))) + 1 ≤ 64)) = true
  rw [canAll_flat h1, canAll_flat h2, canAll_flat h3, canAll_flat h4, depAll_flat, depAll_flat, depAll_flat, depAll_flat]
  rfl
theorem s_ne4 (S : Sep cs H) (p : Pick (pt t1 (.lst [.ref a1, .ref a2, .ref a3, .ref a4])) cs ds) (q : Pick (pt t2 (.lst [.ref b1, .ref b2, .ref b3, .ref b4])) cs es)
    (p1 : Pick (pt a1 (.lst x1)) cs c1) (p2 : Pick (pt a2 (.lst x2)) cs c2) (p3 : Pick (pt a3 (.lst x3)) cs c3) (p4 : Pick (pt a4 (.lst x4)) cs c4) (q1 : Pick (pt b1 (.lst x1)) cs d1) (q2 : Pick (pt b2 (.lst x2)) cs d2) (q3 : Pick (pt b3 (.lst x3)) cs d3) (q4 : Pick (pt b4 (.lst x4)) cs d4)
    (h1 : ∀ v ∈ x1, okV v = true) (h2 : ∀ v ∈ x2, okV v = true) (h3 : ∀ v ∈ x3, okV v = true) (h4 : ∀ v ∈ x4, okV v = true) (k : Q (.bl false) H) : rNeZ K (.ref t1) (.ref t2) H Q := by
  have L : ∀ {a : Addr} {x : List V} {cs' : List As}, Pick (pt a (.lst x)) cs cs' → (∀ v ∈ x, okV v = true) → Dp K H (.ref a) (.list (x.map dV)) := fun q h => .lst (SqL.of (S.get q)) (dpAll_flat h)
  refine s_neD (.lst (SqL.of (S.get p)) (.cons (L p1 h1) (.cons (L p2 h2) (.cons (L p3 h3) (.cons (L p4 h4) .nil))))) (.lst (SqL.of (S.get q)) (.cons (L q1 h1) (.cons (L q2 h2) (.cons (L q3 h3) (.cons (L q4 h4) .nil))))) (shaped_4 h1 h2 h3 h4) (shaped_4 h1 h2 h3 h4) ?_
  rw [eqv_same (shaped_4 h1 h2 h3 h4)]
  exact k
end
theorem k_sorted {X : Cx} {K : PySem.W.Frag} (hK : X.K = K) : CallR X (.builtin "sorted") (rSorted K) := hK ▸ cr_sorted
end L2.Zs
namespace L2.Zs
open PySem PySem.Spec PyProof.Rows
/-! ## a text over and over -/
def rRepS : R2 := fun x y H Q => ∃ (z : PySem.Str) (k : Int), x = .str z ∧ y = .int k ∧ 1 ≤ k ∧ k < 1000 ∧ z.length ≤ 10000 ∧ ∀ z' : PySem.Str, z'.length ≤ z.length * k.toNat → Q (.str z') H
theorem fold_len (x : Array Nat) : ∀ (n : Nat) (b : Array Nat), ((List.replicate n x).foldl (· ++ ·) b).size = b.size + x.size * n
  | 0, b => by simp
  | n + 1, b => by
    rw [List.replicate_succ, List.foldl_cons, fold_len x n (b ++ x), Array.size_append, Nat.mul_succ]
    omega
theorem zo_repS {X : Cx} : OpR X (binaryOp .Mult) rRepS := by
  intro pins s σ H x y v u Q I rx ry h
  obtain ⟨z, k, rfl, rfl, k1, k2, hz, q⟩ := h
  obtain ⟨t, rfl⟩ := rx
  obtain ⟨t', rfl⟩ := ry
  have hl : z.length * k.toNat ≤ sizeLine := by
    refine Nat.le_trans (Nat.mul_le_mul hz (show k.toNat ≤ 1000 by omega)) (by decide)
  refine PySem.P.mul_str (by rw [decide_eq_false (by omega), decide_eq_false (by omega)]; rfl) (fun _ _ => ?_) (fun _ _ => ?_) ?_
  · have h1 : (z.length : Int) ≤ 10000 := Int.ofNat_le.mpr hz
    have h2 : (10000 : Int) ≤ (2 ^ 63 - 1) / k := by
      rw [Int.le_ediv_iff_mul_le (by omega)]
      omega
    omega
  · show decide (z.length * k.toNat > sizeLine) = false
    exact decide_eq_false (by omega)
  · rw [if_neg (by omega)]
    split
    · exact ⟨.str z, H, I, ⟨_, rfl⟩, q z (by
        have : 1 ≤ k.toNat := by omega
        exact Nat.le_mul_of_pos_right _ this)⟩
    · refine ⟨PySem.fits_reps (by show decide (z.length * k.toNat > sizeLine) = false; exact decide_eq_false (by omega)), ?_⟩
      · refine ⟨.str _, H, I.tok _, ⟨_, rfl⟩, q _ ?_⟩
        show Array.size _ ≤ _
        rw [fold_len]
        simp [PySem.Str.length]
/-! ## texts walked and cut -/
section
variable {K : PySem.W.Frag} {H : Hp} {Q : VK} {σ : St} {g : TG} {tB : TS} {D : Ends} {te : TE} {R : It → Hp → Prop} {z : PySem.Str} {cs ds cs' : List As}
def ForS (g : TG) (tB : TS) (D : Ends) (σ : St) (x : V) (H : Hp) : Prop := ∃ z, x = .str z ∧ Lp (Its z) g tB D σ H
instance : Stp (tFor (iStr te) g tB D σ H) (te σ H fun x H1 => ForS g tB D σ x H1) := ⟨id⟩
theorem s_forS (k : Lp (Its z) g tB D σ H) : ForS g tB D σ (.str z) H := ⟨z, rfl, k⟩
theorem lp_str (Pv : Nat → St → Hp → Prop) (h0 : Pv 0 σ H) (hs : ∀ i c σ H, z.cps.toList[i]? = some c → Pv i σ H → g (.str ⟨#[c]⟩) σ H fun σ2 H2 => tB { D with nx := Pv (i + 1), ct := Pv (i + 1), bk := D.nx } σ2 H2) (hd : ∀ σ H, Pv z.cps.toList.length σ H → D.nx σ H) :
    Lp (Its z) g tB D σ H := by
  refine ⟨fun i m σ H => m = z.cps.size - i ∧ i ≤ z.cps.size ∧ Pv i σ H, ⟨z.cps.size, by simp, Nat.zero_le _, h0⟩, ?_⟩
  rintro i m σ H ⟨rfl, hi, p⟩
  by_cases hlt : i < z.cps.size
  · refine .inr ⟨hlt, Pv (i + 1), fun σ' H' p' => ⟨z.cps.size - (i + 1), by omega, rfl, hlt, p'⟩, fun x H' y => ?_⟩
    obtain ⟨e, c, hc, rfl⟩ := y
    subst e
    exact hs i c σ _ (by rw [Array.getElem?_toList]; exact hc) p
  · have e : i = z.cps.size := by omega
    subst e
    exact .inl ⟨Nat.le_refl _, hd σ H (by rw [Array.length_toList]; exact p)⟩
theorem s_slS {lo hi : Option Int} (h : z.length ≤ 10000000) (k : ∀ z' : PySem.Str, z'.length ≤ z.length → Q (.str z') H) : rSlS (.str z) lo hi H Q :=
  ⟨z, rfl, Nat.le_trans h (by decide), k _ (cutS_length z lo hi)⟩
end
section
variable {H : Hp} {Q : VK} {σ : St} {te : TE} {lo hi : TO} {r : V → Option Int → Option Int → Hp → VK → Prop} {QO : Option Int → Hp → Prop} {i : Int} {R : Int → Prop}
instance : Stp (L2.tSl r te lo hi σ H Q) (te σ H fun x H1 => lo σ H1 fun l H2 => hi σ H2 fun u H3 => r x l u H3 Q) := ⟨id⟩
instance : Stp (tNoPart σ H QO) (QO none H) := ⟨id⟩
instance : Stp (tPart te σ H QO) (te σ H fun x H1 => ∃ i, x = .int i ∧ QO (some i) H1) := ⟨id⟩
instance : Stp (∃ j, V.int i = .int j ∧ R j) (R i) := ⟨fun k => ⟨i, rfl, k⟩⟩
end
/-! ## many tuples -/
def tl (as : List Addr) (ds : List (List V)) : As := fun H => as.length = ds.length ∧ ∀ (i : Nat) (a : Addr) (d : List V), as[i]? = some a → ds[i]? = some d → H a = some (.tup d)
theorem Sep.join {c d e : As} {F : List As} {H : Hp} (h : Sep (c :: d :: F) H) (f : ∀ H1 H2 H', Le H1 H' → Le H2 H' → c H1 → d H2 → e H') : Sep (e :: F) H := by
  obtain ⟨H1, H2, a, b, x, q, H3, H4, a2, b2, x2, q2, y⟩ := h
  exact ⟨uni H1 H3, H4, uni_le a (a2.trans b), b2.trans b, dj_uni (x.le (Le.refl _) b2) x2, f _ _ _ le_uni1 (le_uni2 a (a2.trans b)) q q2, y⟩
theorem Sep.tl0 {F : List As} {H : Hp} (h : Sep F H) : Sep (tl [] [] :: F) H :=
  ⟨fun _ => none, H, (fun _ _ q => nomatch q), Le.refl _, (fun _ _ q => nomatch q), ⟨rfl, fun i a d h => by simp at h⟩, h⟩
theorem Sep.tlAdd {as : List Addr} {ds : List (List V)} {t : Addr} {d : List V} {n : Nat} {F : List As} {H : Hp} (h : Sep (pt t (.tup d) :: tl as ds :: F) H) : Sep (tl (as ++ List.replicate n t) (ds ++ List.replicate n d) :: F) H := by
  refine h.join fun H1 H2 H' l1 l2 q1 q2 => ⟨by simp [q2.1], fun i a d' h1 h2 => ?_⟩
  by_cases c : i < as.length
  · rw [List.getElem?_append_left c] at h1
    rw [List.getElem?_append_left (q2.1 ▸ c)] at h2
    exact l2 _ _ (q2.2 i a d' h1 h2)
  · rw [List.getElem?_append_right (by omega)] at h1
    rw [List.getElem?_append_right (by rw [← q2.1]; omega)] at h2
    have e1 := List.eq_of_mem_replicate (List.mem_of_getElem? h1)
    have e2 := List.eq_of_mem_replicate (List.mem_of_getElem? h2)
    subst e1 e2
    exact l1 _ _ q1
theorem Sep.tlGet {as : List Addr} {ds : List (List V)} {cs es : List As} {H : Hp} (h : Sep cs H) (p : Pick (tl as ds) cs es) : tl as ds H := by
  obtain ⟨H1, H2, l, _, _, q, _⟩ := h.pick p
  exact ⟨q.1, fun i a d h1 h2 => l _ _ (q.2 i a d h1 h2)⟩
def dT (d : List V) : PyData := .tuple (d.map dV)
theorem dp_tups {K : PySem.W.Frag} {H : Hp} : ∀ {as : List Addr} {ds : List (List V)}, tl as ds H → (∀ d ∈ ds, ∀ v ∈ d, okV v = true) → DpAll K H (as.map V.ref) (ds.map dT)
  | [], [], _, _ => .nil
  | [], _ :: _, h, _ => by cases h.1
  | _ :: _, [], h, _ => by cases h.1
  | a :: as, d :: ds, h, ok => .cons (.tup (SqT.of (h.2 0 a d rfl rfl)) (dpAll_flat (ok d List.mem_cons_self))) (dp_tups ⟨by have := h.1; simpa using this, fun i a d h1 h2 => h.2 (i + 1) a d h1 h2⟩ fun d' h' => ok d' (List.mem_cons_of_mem _ h'))
theorem can_tups : ∀ {ds : List (List V)}, (∀ d ∈ ds, ∀ v ∈ d, okV v = true) → PyData.canLayAll0 (ds.map dT) = true
  | [], _ => rfl
  | d :: ds, ok => by
    show (PyData.canLayAll0 (d.map dV) && PyData.canLayAll0 (ds.map dT)) = true
    rw [canAll_flat (ok d List.mem_cons_self), can_tups fun d' h' => ok d' (List.mem_cons_of_mem _ h')]
    rfl
theorem dep_tups : ∀ (ds : List (List V)), PyData.depthAll (ds.map dT) ≤ 1
  | [] => Nat.zero_le _
  | d :: ds => by
    show max (PyData.depthAll (d.map dV) + 1) (PyData.depthAll (ds.map dT)) ≤ 1
    rw [depAll_flat]
    have := dep_tups ds
    omega
theorem shaped_tups {ds : List (List V)} (ok : ∀ d ∈ ds, ∀ v ∈ d, okV v = true) : SeqAt.shaped (.list (ds.map dT)) = true := by
  show (PyData.canLayAll0 (ds.map dT) && decide (PyData.depthAll (ds.map dT) + 1 ≤ 64)) = true
  rw [can_tups ok, decide_eq_true (by have := dep_tups ds; omega)]
  rfl
section
variable {K : PySem.W.Frag} {H : Hp} {Q : VK} {a b : Addr} {as bs : List Addr} {dd : List (List V)} {cs c1 c2 c3 c4 : List As}
theorem s_neLD (S : Sep cs H) (p : Pick (pt a (.lst (as.map V.ref))) cs c1) (pt' : Pick (tl as dd) cs c2) (q : Pick (pt b (.lst (bs.map V.ref))) cs c3) (qt : Pick (tl bs dd) cs c4) (ok : ∀ d ∈ dd, ∀ v ∈ d, okV v = true) (k : Q (.bl false) H) : rNeZ K (.ref a) (.ref b) H Q := by
  refine s_neD (.lst (SqL.of (S.get p)) (dp_tups (S.tlGet pt') ok)) (.lst (SqL.of (S.get q)) (dp_tups (S.tlGet qt) ok)) (shaped_tups ok) (shaped_tups ok) ?_
  rw [eqv_same (shaped_tups ok)]
  exact k
theorem s_eqLD (S : Sep cs H) (p : Pick (pt a (.lst (as.map V.ref))) cs c1) (pt' : Pick (tl as dd) cs c2) (q : Pick (pt b (.lst (bs.map V.ref))) cs c3) (qt : Pick (tl bs dd) cs c4) (ok : ∀ d ∈ dd, ∀ v ∈ d, okV v = true) (k : Q (.bl true) H) : rEqZ K (.ref a) (.ref b) H Q := by
  refine s_eqD (.lst (SqL.of (S.get p)) (dp_tups (S.tlGet pt') ok)) (.lst (SqL.of (S.get q)) (dp_tups (S.tlGet qt) ok)) (shaped_tups ok) (shaped_tups ok) ?_
  rw [eqv_same (shaped_tups ok)]
  exact k
end
end L2.Zs
namespace L2.Zs
open PySem PySem.Spec PyProof.Rows
local macro_rules | `(tactic| wtm_at "pk") => `(tactic| (repeat (first | with_reducible exact Pick.here | with_reducible apply Pick.there)))
local macro_rules | `(tactic| wtm_at "cg") => `(tactic| (repeat (first | with_reducible exact Chg.here | with_reducible apply Chg.there)))
local macro_rules | `(tactic| wtm_at "sa") => `(tactic| (repeat (first | with_reducible exact SetAt.here | with_reducible apply SetAt.there)))
local macro_rules | `(tactic| wtm_at "wk1") => `(tactic| (repeat (first | with_reducible exact Wk.refl | (with_reducible apply Wk.pick; focus (wtm_at "pk"; done)) | with_reducible apply Wk.drop)))
local macro_rules | `(tactic| wtm_at "wk") => `(tactic| (refine Wk.sep ?_ (by assumption); wtm_at "wk1"))
local macro_rules | `(tactic| wtm_at "sz") => `(tactic| first | exact Nat.le_of_ble_eq_true rfl | assumption | omega)
local macro_rules | `(tactic| wtm_at "s1") => `(tactic| first
  | refine Stp.go ?_
  | with_reducible refine s_mod (by first | decide | assumption | omega) ?_
  | with_reducible refine s_mulI (by first | exact cmul_l (by decide) | exact cmul_r (by decide) | (exact cmul_l (by omega)) | (exact cmul_r (by omega))) ?_
  | with_reducible refine s_div (cdiv_of (by decide) (by decide)) ?_
  | with_reducible refine s_pow (cpow_of (by decide) (by decide) (by decide)) ?_
  | with_reducible refine s_lenL (by assumption) (by wtm_at "pk") ?_
  | with_reducible refine s_lenQ (by assumption) (by wtm_at "pk") ?_
  | with_reducible refine s_lenT (by assumption) (by wtm_at "pk") ?_
  | with_reducible refine s_tyL (by assumption) (by wtm_at "pk") ?_)
local macro_rules | `(tactic| wtm_at "st") => `(tactic| (repeat (first | wtm_at "s1" | with_reducible refine s_seq ?_)))
local macro_rules | `(tactic| wtm_at "stc") => `(tactic| (repeat wtm_at "s1"))

def top (i : Nat) : Stmt := PySem.Challenge.pw_stephall_k01_figures_and_pulses.main.body.getD i (.Pass ⟨0, 0, 0, 0⟩)
structure Ad where
  HallError : Addr
  NoFigure : Addr
  BadPlan : Addr
  NoText : Addr
  NoSwitch : Addr
  NoLine : Addr
  NotSo : Addr
  NoRow : Addr
structure Txt (K : PySem.W.Frag) (mg : PySem.Str → Option Value) (ad : Ad) (k1 k2 : Tok) : Prop where
  b_len : mg "len" = none
  b_range : mg "range" = none
  b_isinstance : mg "isinstance" = none
  b_int : mg "int" = none
  b_str : mg "str" = none
  b_bool : mg "bool" = none
  b_list : mg "list" = none
  b_ValueError : mg "ValueError" = none
  g_SIGNS : mg "SIGNS" = some (.str "0123456789" k1)
  g_MOST_PULSES : mg "MOST_PULSES" = some (.int 10 k2)
  x_HallError : XC K mg "HallError" ad.HallError
  x_NoFigure : XC K mg "NoFigure" ad.NoFigure
  x_BadPlan : XC K mg "BadPlan" ad.BadPlan
  x_NoText : XC K mg "NoText" ad.NoText
  x_NoSwitch : XC K mg "NoSwitch" ad.NoSwitch
  x_NoLine : XC K mg "NoLine" ad.NoLine
  x_NotSo : XC K mg "NotSo" ad.NotSo
  x_NoRow : XC K mg "NoRow" ad.NoRow
  i_NoFigure : XI K ad.NoFigure
  e_NoFigure : PySem.W.exmOne K (.ref ad.NoFigure) (.ref ad.HallError) = some true
  k_NoFigure : PySem.W.kitOne K (.ref ad.NoFigure) (.ref ad.NoFigure) = some true
  n_NoFigure : ∀ c ∈ [ad.BadPlan, ad.NoLine, ad.NoRow, ad.NoSwitch, ad.NoText, ad.NotSo], PySem.W.kitOne K (.ref ad.NoFigure) (.ref c) = some false
abbrev s_Lcell : Stmt := top 17
abbrev N_Lcell : List Str := ["script", "k"]
theorem sc_Lcell : FnScope N_Lcell ["script", "k"] (defScope s_Lcell) := ⟨rfl, rfl, rfl, by decide +kernel, rfl, by decide +kernel, by decide +kernel⟩
abbrev s_Ldraws : Stmt := top 18
abbrev N_Ldraws : List Str := ["script", "k", "many", "base", "primes", "cell", "rest", "row", "j", "mash"]
theorem sc_Ldraws : FnScope N_Ldraws ["script", "k", "many", "base"] (defScope s_Ldraws) := ⟨rfl, rfl, rfl, by decide +kernel, rfl, by decide +kernel, by decide +kernel⟩
abbrev s_Lwhole : Stmt := top 19
abbrev N_Lwhole : List Str := ["found"]
theorem sc_Lwhole : FnScope N_Lwhole ["found"] (defScope s_Lwhole) := ⟨rfl, rfl, rfl, by decide +kernel, rfl, by decide +kernel, by decide +kernel⟩
abbrev s_Lnumber : Stmt := top 20
abbrev N_Lnumber : List Str := ["draw", "long", "figures", "k"]
theorem sc_Lnumber : FnScope N_Lnumber ["draw", "long"] (defScope s_Lnumber) := ⟨rfl, rfl, rfl, by decide +kernel, rfl, by decide +kernel, by decide +kernel⟩
abbrev s_are_figures : Stmt := top 12
abbrev N_are_figures : List Str := ["text", "sign"]
theorem sc_are_figures : FnScope N_are_figures ["text"] (defScope s_are_figures) := ⟨rfl, rfl, rfl, by decide +kernel, rfl, by decide +kernel, by decide +kernel⟩
abbrev s_figure_of : Stmt := top 13
abbrev N_figure_of : List Str := ["many"]
theorem sc_figure_of : FnScope N_figure_of ["many"] (defScope s_figure_of) := ⟨rfl, rfl, rfl, by decide +kernel, rfl, by decide +kernel, by decide +kernel⟩
abbrev s_pulses_of : Stmt := top 14
abbrev N_pulses_of : List Str := ["figure"]
theorem sc_pulses_of : FnScope N_pulses_of ["figure"] (defScope s_pulses_of) := ⟨rfl, rfl, rfl, by decide +kernel, rfl, by decide +kernel, by decide +kernel⟩
abbrev s_dialled : Stmt := top 15
abbrev N_dialled : List Str := ["line", "figures", "deeds", "figure"]
theorem sc_dialled : FnScope N_dialled ["line", "figures"] (defScope s_dialled) := ⟨rfl, rfl, rfl, by decide +kernel, rfl, by decide +kernel, by decide +kernel⟩
abbrev s_Ltold : Stmt := top 21
abbrev N_Ltold : List Str := ["way", "one", "other", "found", "kinds", "e"]
theorem sc_Ltold : FnScope N_Ltold ["way", "one", "other"] (defScope s_Ltold) := ⟨rfl, rfl, rfl, by decide +kernel, rfl, by decide +kernel, by decide +kernel⟩
abbrev s_Lnumbers_right : Stmt := top 22
abbrev N_Lnumbers_right : List Str := ["number", "found", "kinds", "due", "many"]
theorem sc_Lnumbers_right : FnScope N_Lnumbers_right ["number"] (defScope s_Lnumbers_right) := ⟨rfl, rfl, rfl, by decide +kernel, rfl, by decide +kernel, by decide +kernel⟩
abbrev s_Ltext_right : Stmt := top 23
abbrev N_Ltext_right : List Str := ["text", "found", "kinds"]
theorem sc_Ltext_right : FnScope N_Ltext_right ["text"] (defScope s_Ltext_right) := ⟨rfl, rfl, rfl, by decide +kernel, rfl, by decide +kernel, by decide +kernel⟩
abbrev s_Ldialled_right : Stmt := top 24
abbrev N_Ldialled_right : List Str := ["line", "figures", "due", "sign", "found", "kinds"]
theorem sc_Ldialled_right : FnScope N_Ldialled_right ["line", "figures"] (defScope s_Ldialled_right) := ⟨rfl, rfl, rfl, by decide +kernel, rfl, by decide +kernel, by decide +kernel⟩
abbrev s_law : Stmt := top 25
abbrev N_law : List Str := ["script", "signs", "k", "row", "great", "number", "figures", "at", "sign", "spoilt", "text", "line"]
theorem sc_law : FnScope N_law ["script"] (defScope s_law) := ⟨rfl, rfl, rfl, by decide +kernel, rfl, by decide +kernel, by decide +kernel⟩
/-! ## figures and pulses -/
def dig (c : Nat) : Bool := decide (c ∈ ("0123456789" : PySem.Str).cps.toList)
theorem dig_iff {c : Nat} : dig c = true ↔ 48 ≤ c ∧ c ≤ 57 := by
  unfold dig
  rw [decide_eq_true_iff, digits_codes]
  simp only [List.mem_cons, List.not_mem_nil, or_false]
  omega
def pul (c : Nat) : Nat := if c = 48 then 10 else c - 48
def figB (z : PySem.Str) : Bool := z.cps.toList.all dig && !decide (z = "")
def spFigs : Sp := fun vs H Q E => ∃ z : PySem.Str, vs = [.str z] ∧ Q (.bl (figB z)) H
theorem len_figs {vs H Q E} (h : spFigs vs H Q E) : vs.length = 1 := by obtain ⟨z, rfl, _⟩ := h; rfl
def fig1 (n : Int) : PySem.Str := toString (n % 10)
def spFigOf (XF : Addr) : Sp := fun vs H Q E => ∃ n : Int, vs = [.int n] ∧ (1 ≤ n → n ≤ 10 → Q (.str (fig1 n)) H) ∧ (¬ (1 ≤ n ∧ n ≤ 10) → E (.ref XF) none H)
theorem len_figof {XF vs H Q E} (h : spFigOf XF vs H Q E) : vs.length = 1 := by obtain ⟨z, rfl, _⟩ := h; rfl
def spPulOf (XF : Addr) : Sp := fun vs H Q E => ∃ z : PySem.Str, vs = [.str z] ∧ z.length ≤ 10000 ∧ (∀ c, z = ⟨#[c]⟩ → 48 ≤ c → c ≤ 57 → Q (.int (pul c)) H) ∧ (¬ (∃ c, z = ⟨#[c]⟩ ∧ 48 ≤ c ∧ c ≤ 57) → E (.ref XF) none H)
theorem len_pulof {XF vs H Q E} (h : spPulOf XF vs H Q E) : vs.length = 1 := by obtain ⟨z, rfl, _⟩ := h; rfl
theorem one_char {z : PySem.Str} (h : z.length = 1) : ∃ c, z = ⟨#[c]⟩ := by
  obtain ⟨cs⟩ := z
  obtain ⟨c, rfl⟩ := Array.size_eq_one_iff.mp h
  exact ⟨c, rfl⟩
theorem one_inj {a b : Nat} (h : (⟨#[a]⟩ : PySem.Str) = ⟨#[b]⟩) : a = b := by
  have := congrArg (fun z : PySem.Str => z.cps.toList) h
  simpa using this
theorem zero_one : ("0" : PySem.Str) = ⟨#[48]⟩ := by decide +kernel
theorem figB_one {c : Nat} : figB ⟨#[c]⟩ = dig c := by
  unfold figB
  have h : ¬ ((⟨#[c]⟩ : PySem.Str) = "") := fun e => by
    have := congrArg (fun z : PySem.Str => z.length) e
    have h2 : ("" : PySem.Str).length = 0 := by decide +kernel
    rw [h2] at this
    cases this
  rw [decide_eq_false h]
  simp
def deedsOf (ln : PySem.Str) (cs : List Nat) : List (List V) := cs.flatMap fun c => List.replicate (pul c) [.str "pulse", .str ln] ++ List.replicate 1 [.str "gap", .str ln]
theorem deeds_more {ln : PySem.Str} {cs : List Nat} {c : Nat} : deedsOf ln (cs ++ [c]) = deedsOf ln cs ++ List.replicate (pul c) [.str "pulse", .str ln] ++ List.replicate 1 [.str "gap", .str ln] := by
  unfold deedsOf
  rw [List.flatMap_append, List.append_assoc]
  simp
theorem deeds_len (ln : PySem.Str) : ∀ cs : List Nat, (∀ c ∈ cs, dig c = true) → (deedsOf ln cs).length ≤ 11 * cs.length
  | [], _ => Nat.le_refl _
  | c :: cs, h => by
    have ih := deeds_len ln cs fun x hx => h x (List.mem_cons_of_mem _ hx)
    have hc := dig_iff.mp (h c List.mem_cons_self)
    have hp : pul c ≤ 10 := by unfold pul; split <;> omega
    have e : deedsOf ln (c :: cs) = (List.replicate (pul c) [.str "pulse", .str ln] ++ List.replicate 1 [.str "gap", .str ln]) ++ deedsOf ln cs := rfl
    rw [e, List.length_append, List.length_append, List.length_replicate, List.length_replicate, List.length_cons]
    omega
theorem pul_le {c : Nat} (h : c ≤ 57) : pul c ≤ 10 := by unfold pul; split <;> omega
theorem rep_flat {n : Nat} {x : V} : (List.replicate n [x]).flatten = List.replicate n x := by simp
def spDialled (XF : Addr) : Sp := fun vs H Q E => ∃ (ln z : PySem.Str) (F : List As), vs = [.str ln, .str z] ∧ z.length ≤ 3000 ∧ Sep F H ∧
  ((∀ c ∈ z.cps.toList, dig c = true) → ∀ p as H', Sep (pt p (.lst (as.map V.ref)) :: tl as (deedsOf ln z.cps.toList) :: F) H' → Q (.ref p) H') ∧ (¬ (∀ c ∈ z.cps.toList, dig c = true) → ∀ H', Sep F H' → E (.ref XF) none H')
theorem len_dialled {XF vs H Q E} (h : spDialled XF vs H Q E) : vs.length = 2 := by obtain ⟨z, _, _, rfl, _⟩ := h; rfl
theorem int_fig : ∀ c : Nat, 49 ≤ c → c ≤ 57 → PySem.intText? ⟨#[c]⟩ = some ((c : Int) - 48) := by
  intro c h1 h2
  have : c = 49 ∨ c = 50 ∨ c = 51 ∨ c = 52 ∨ c = 53 ∨ c = 54 ∨ c = 55 ∨ c = 56 ∨ c = 57 := by omega
  rcases this with rfl | rfl | rfl | rfl | rfl | rfl | rfl | rfl | rfl <;> decide +kernel
section
variable {P : Program} {w : World} {K : PySem.W.Frag} {mg : PySem.Str → Option Value} {base : Heap} {ad : Ad} {Cs : List Addr} {C : Addr} {f : Addr} {fd : FuncData} {tk1 tk2 : Tok}
set_option maxHeartbeats 1000000
theorem ok_are_figures (T : Txt K mg ad tk1 tk2) (F : Fun K "are_figures" "are_figures" s_are_figures f fd) : FnOk P w K mg base (L2.CX P w) 1 f fd ["text"] spFigs := by
  refine F.okX sc_are_figures (fun vs H Q E h => len_figs h) (fun cdv A outer s H vs Q E hr h => ?_)
  have tk : Takes (cxOf (L2.CX P w) P w K mg base N_are_figures "are_figures" (defScope s_are_figures) f cdv A outer s H E) (fun cls d _ H => E cls d H) := takes_of rfl rfl rfl rfl
  have po_ : PassesOwn (model P w) (cxOf (L2.CX P w) P w K mg base N_are_figures "are_figures" (defScope s_are_figures) f cdv A outer s H E).A (cxOf (L2.CX P w) P w K mg base N_are_figures "are_figures" (defScope s_are_figures) f cdv A outer s H E).env (cxOf (L2.CX P w) P w K mg base N_are_figures "are_figures" (defScope s_are_figures) f cdv A outer s H E).xe := passes_of rfl
  refine ⟨_, (pss_cons (ps_for (po_) rfl (pi_str (pv 0)) (pg_name (i := 1) sc_are_figures.nd rfl (Or.inl rfl)) (pss_one (ps_if (pt_cmpR zo_notInS (pv 1) (pe_glob (v := V.str "0123456789") (by rfl) T.g_SIGNS ⟨_, rfl⟩) (by with_unfolding_all rfl)) (pss_one (ps_ret pe_bl)) pss_nil)))
  (pss_one (ps_ret (pe_cmpR (k_ne (K := K) rfl hr.units) (pv 0) pe_str (nomark _))))), ?_⟩
  obtain ⟨z, rfl, q⟩ := h
  refine s_start (σ := [some (.str z), none]) rfl ?_
  wtm_at "st"
  refine s_forS (lp_str (fun i σ H' => H' = H ∧ ∃ v, σ = [some (.str z), v] ∧ ∀ c ∈ z.cps.toList.take i, dig c = true) ⟨rfl, none, rfl, fun c h => by simp at h⟩ ?_ ?_)
  · rintro i c σ H' hc ⟨rfl, v, rfl, hd⟩
    wtm_at "st"
    refine s_ifn (fun c1 => ?_) (fun c1 => ?_)
    · wtm_at "st"
      have e : figB z = false := by
        unfold figB
        rw [Bool.and_eq_false_iff]
        left
        rw [List.all_eq_false]
        exact ⟨c, List.mem_of_getElem? hc, by unfold dig; simpa using c1⟩
      rw [e] at q
      exact q
    · wtm_at "st"
      refine ⟨rfl, _, rfl, fun x hx => ?_⟩
      rw [List.take_succ, hc] at hx
      rcases List.mem_append.mp hx with hx | hx
      · exact hd x hx
      · simp at hx
        subst hx
        exact decide_eq_true c1
  · rintro σ H' ⟨rfl, v, rfl, hd⟩
    wtm_at "st"
    have e : figB z = !decide (z = "") := by
      unfold figB
      rw [List.all_eq_true.mpr (fun c h => hd c (by rw [List.take_length]; exact h))]
      rfl
    rw [e] at q
    exact q
theorem ok_figure_of (T : Txt K mg ad tk1 tk2) (F : Fun K "figure_of" "figure_of" s_figure_of f fd) : FnOk P w K mg base (L2.CX P w) 1 f fd ["many"] (spFigOf ad.NoFigure) := by
  refine F.okX sc_figure_of (fun vs H Q E h => len_figof h) (fun cdv A outer s H vs Q E hr h => ?_)
  have tk : Takes (cxOf (L2.CX P w) P w K mg base N_figure_of "figure_of" (defScope s_figure_of) f cdv A outer s H E) (fun cls d _ H => E cls d H) := takes_of rfl rfl rfl rfl
  have po_ : PassesOwn (model P w) (cxOf (L2.CX P w) P w K mg base N_figure_of "figure_of" (defScope s_figure_of) f cdv A outer s H E).A (cxOf (L2.CX P w) P w K mg base N_figure_of "figure_of" (defScope s_figure_of) f cdv A outer s H E).env (cxOf (L2.CX P w) P w K mg base N_figure_of "figure_of" (defScope s_figure_of) f cdv A outer s H E).xe := passes_of rfl
  refine ⟨_, (pss_cons (ps_if ((pw_or (pt_cmpR zo_lt (pv 0) pe_int (nomark _)) (pw_or1 (pt_cmpR zo_gt (pv 0) (pe_glob (v := V.int 10) (by rfl) T.g_MOST_PULSES ⟨_, rfl⟩) (nomark _))))).pt (pss_one (z_raise rfl tk T.x_NoFigure rfl)) pss_nil)
  (pss_one (ps_ret (pe_callTy z_strI (by rfl) T.b_str (by decide +kernel) (pa_cons (pe_op zo_mod (pv 0) (pe_glob (v := V.int 10) (by rfl) T.g_MOST_PULSES ⟨_, rfl⟩)) pa_nil))))), ?_⟩
  obtain ⟨n, rfl, q1, q2⟩ := h
  refine s_start (σ := [some (.int n)]) rfl ?_
  wtm_at "st"
  refine s_ifd (fun c1 => ?_) (fun c1 => ?_)
  · wtm_at "st"
    exact q2 (by omega)
  · wtm_at "st"
    refine s_ifd (fun c2 => ?_) (fun c2 => ?_)
    · wtm_at "st"
      exact q2 (by omega)
    · wtm_at "st"
      refine s_strI ?_ (q1 (by omega) (by omega))
      exact Nat.lt_of_le_of_lt (Nat.log2_le_self _) (by omega)
theorem ok_pulses_of (T : Txt K mg ad tk1 tk2) (c_are_figures : Cal P w K mg base 1 "are_figures" spFigs) (F : Fun K "pulses_of" "pulses_of" s_pulses_of f fd) : FnOk P w K mg base (L2.CX P w) 2 f fd ["figure"] (spPulOf ad.NoFigure) := by
  refine F.okX sc_pulses_of (fun vs H Q E h => len_pulof h) (fun cdv A outer s H vs Q E hr h => ?_)
  have tk : Takes (cxOf (L2.CX P w) P w K mg base N_pulses_of "pulses_of" (defScope s_pulses_of) f cdv A outer s H E) (fun cls d _ H => E cls d H) := takes_of rfl rfl rfl rfl
  have po_ : PassesOwn (model P w) (cxOf (L2.CX P w) P w K mg base N_pulses_of "pulses_of" (defScope s_pulses_of) f cdv A outer s H E).A (cxOf (L2.CX P w) P w K mg base N_pulses_of "pulses_of" (defScope s_pulses_of) f cdv A outer s H E).env (cxOf (L2.CX P w) P w K mg base N_pulses_of "pulses_of" (defScope s_pulses_of) f cdv A outer s H E).xe := passes_of rfl
  refine ⟨_, (pss_cons (ps_if ((pw_or (pt_cmpR (k_ne (K := K) rfl hr.units) (pe_callB (k_len (K := K) rfl) (by rfl) T.b_len (by decide +kernel) (pa_cons (pv 0) pa_nil)) pe_int (nomark _)) (pw_or1 (pt_not (pt_val (z_call c_are_figures tk hr (by decide) (by rfl) (pa_cons (pv 0) pa_nil))))))).pt (pss_one (z_raise rfl tk T.x_NoFigure rfl)) pss_nil)
  (pss_cons (ps_if (pt_cmpR (k_eq (K := K) rfl hr.units) (pv 0) pe_str (nomark _)) (pss_one (ps_ret (pe_glob (v := V.int 10) (by rfl) T.g_MOST_PULSES ⟨_, rfl⟩))) pss_nil)
  (pss_one (ps_ret (pe_callTy z_intS (by rfl) T.b_int (by decide +kernel) (pa_cons (pv 0) pa_nil)))))), ?_⟩
  obtain ⟨z, rfl, hz, q1, q2⟩ := h
  refine s_start (σ := [some (.str z)]) rfl ?_
  -- pulses
  wtm_at "st"
  refine s_lenS (Nat.le_trans hz (by decide)) ?_
  wtm_at "st"
  refine s_ifn (fun c1 => ?_) (fun c1 => ?_)
  · wtm_at "st"
    refine q2 ?_
    rintro ⟨c, rfl, _⟩
    exact c1 rfl
  · wtm_at "st"
    obtain ⟨c, rfl⟩ := one_char (z := z) (by omega)
    refine ⟨_, rfl, ?_⟩
    rw [figB_one]
    cases hd : dig c
    · wtm_at "st"
      refine q2 ?_
      rintro ⟨c', e, h⟩
      rw [one_inj e, dig_iff.mpr h] at hd
      cases hd
    · have h := dig_iff.mp hd
      wtm_at "st"
      refine s_ifd (fun c2 => ?_) (fun c2 => ?_)
      · wtm_at "st"
        have e : c = 48 := one_inj (c2.trans zero_one)
        subst e
        exact q1 48 rfl h.1 h.2
      · wtm_at "st"
        have ne : c ≠ 48 := fun e => c2 (e ▸ zero_one.symm)
        refine s_intS (int_fig c (by omega) h.2) (by show 1 ≤ 640; decide) ?_
        have := q1 c rfl h.1 h.2
        unfold pul at this
        rw [if_neg ne, Int.ofNat_sub h.1] at this
        exact this
theorem ok_dialled (T : Txt K mg ad tk1 tk2) (c_pulses_of : Cal P w K mg base 2 "pulses_of" (spPulOf ad.NoFigure)) (F : Fun K "dialled" "dialled" s_dialled f fd) : FnOk P w K mg base (L2.CX P w) 3 f fd ["line", "figures"] (spDialled ad.NoFigure) := by
  refine F.okX sc_dialled (fun vs H Q E h => len_dialled h) (fun cdv A outer s H vs Q E hr h => ?_)
  have tk : Takes (cxOf (L2.CX P w) P w K mg base N_dialled "dialled" (defScope s_dialled) f cdv A outer s H E) (fun cls d _ H => E cls d H) := takes_of rfl rfl rfl rfl
  have po_ : PassesOwn (model P w) (cxOf (L2.CX P w) P w K mg base N_dialled "dialled" (defScope s_dialled) f cdv A outer s H E).A (cxOf (L2.CX P w) P w K mg base N_dialled "dialled" (defScope s_dialled) f cdv A outer s H E).env (cxOf (L2.CX P w) P w K mg base N_dialled "dialled" (defScope s_dialled) f cdv A outer s H E).xe := passes_of rfl
  refine ⟨_, (pss_cons (ps_set (i := 2) sc_dialled.nd rfl (Or.inl rfl) (pe_lst pa_nil))
  (pss_cons (ps_for (po_) rfl (pi_str (pv 1)) (pg_name (i := 3) sc_dialled.nd rfl (Or.inl rfl)) (pss_cons (ps_expr (k_bm (K := K) rfl PySem.F.plainAttrs_list PySem.F.slot_list_extend PySem.F.type_list_extend z_extend (pv 2) (pa_cons (pe_op zo_mul (pe_lst (pa_cons (pe_tup (pa_cons pe_str (pa_cons (pv 0) pa_nil))) pa_nil)) (z_call c_pulses_of tk hr (by decide) (by rfl) (pa_cons (pv 3) pa_nil))) pa_nil)))
  (pss_one (ps_expr (k_bm (K := K) rfl PySem.F.plainAttrs_list PySem.F.slot_list_append PySem.F.type_list_append z_append (pv 2) (pa_cons (pe_tup (pa_cons pe_str (pa_cons (pv 0) pa_nil))) pa_nil))))))
  (pss_one (ps_ret (pv 2))))), ?_⟩
  obtain ⟨ln, z, F, rfl, hz, S, q1, q2⟩ := h
  refine s_start (σ := [some (.str ln), some (.str z), none, none]) rfl ?_
  wtm_at "st"
  refine s_newL (by wtm_at "sz") S fun p H S => ?_
  wtm_at "st"
  refine s_forS (lp_str (fun i σ H' => ∃ v as, σ = [some (.str ln), some (.str z), some (.ref p), v] ∧ (∀ c ∈ z.cps.toList.take i, dig c = true) ∧ Sep (pt p (.lst (as.map V.ref)) :: tl as (deedsOf ln (z.cps.toList.take i)) :: F) H') ⟨none, [], rfl, (fun c h => by simp at h), ?_⟩ ?_ ?_)
  · have S := S.tl0
    show Sep (pt p (.lst []) :: tl [] [] :: F) _
    wtm_at "wk"
  · rintro i c σ H hc ⟨v, as, rfl, hd, S⟩
    have hi : i < z.cps.toList.length := by
      rcases Nat.lt_or_ge i z.cps.toList.length with h | h
      · exact h
      · rw [List.getElem?_eq_none h] at hc; cases hc
    have hzl : z.cps.toList.length ≤ 3000 := by rw [Array.length_toList]; exact hz
    have e : z.cps.toList.take (i + 1) = z.cps.toList.take i ++ [c] := by rw [List.take_succ, hc]; rfl
    have al : as.length ≤ 11 * i := by
      have h1 := (S.tlGet (by wtm_at "pk")).1
      rw [h1]
      exact Nat.le_trans (deeds_len ln _ hd) (Nat.mul_le_mul_left _ (by rw [List.length_take]; exact Nat.min_le_left _ _))
    wtm_at "st"
    refine s_newT (by wtm_at "sz") S fun t1 H S => ?_
    wtm_at "st"
    refine s_newL (by wtm_at "sz") S fun w1 H S => ?_
    wtm_at "st"
    refine ⟨_, rfl, (by show 1 ≤ 10000; decide), fun c' ec h1 h2 => ?_, fun hn => ?_⟩
    · cases one_inj ec
      have hp : pul c ≤ 10 := by unfold pul; split <;> omega
      wtm_at "st"
      refine s_mulL S (by wtm_at "pk") (by omega) (by omega) (by rw [Int.toNat_natCast]; exact Nat.le_trans (show 1 * pul c ≤ 10 by omega) (by decide)) fun l1 H S => ?_
      wtm_at "st"
      refine s_extend S (by wtm_at "cg") (by wtm_at "pk") ?_ fun H S => ?_
      · rw [Int.toNat_natCast, List.length_map, rep_flat, List.length_replicate]
        exact Nat.le_trans (show as.length + pul c ≤ 33010 by omega) (by decide)
      wtm_at "st"
      refine s_newT (by wtm_at "sz") S fun t2 H S => ?_
      wtm_at "st"
      refine s_append S (by wtm_at "cg") ?_ fun H S => ?_
      · rw [List.length_append, Int.toNat_natCast, List.length_map, rep_flat, List.length_replicate]
        exact Nat.lt_of_le_of_lt (show as.length + pul c ≤ 33010 by omega) (by decide)
      wtm_at "st"
      have S2 : Sep (pt t1 (.tup [.str "pulse", .str ln]) :: tl as (deedsOf ln (z.cps.toList.take i)) :: pt t2 (.tup [.str "gap", .str ln]) :: pt p (.lst (as.map V.ref ++ (List.replicate (pul c : Int).toNat [V.ref t1]).flatten ++ [V.ref t2])) :: F) H := by wtm_at "wk"
      have S3 := S2.tlAdd (n := pul c)
      have S4 : Sep (pt t2 (.tup [.str "gap", .str ln]) :: tl (as ++ List.replicate (pul c) t1) (deedsOf ln (z.cps.toList.take i) ++ List.replicate (pul c) [.str "pulse", .str ln]) :: pt p (.lst (as.map V.ref ++ (List.replicate (pul c : Int).toNat [V.ref t1]).flatten ++ [V.ref t2])) :: F) H := Wk.sep (by wtm_at "wk1") S3
      have S5 := S4.tlAdd (n := 1)
      refine ⟨_, as ++ List.replicate (pul c) t1 ++ List.replicate 1 t2, rfl, fun x hx => ?_, ?_⟩
      · rw [e] at hx
        rcases List.mem_append.mp hx with hx | hx
        · exact hd x hx
        · rw [List.mem_singleton.mp hx]; exact dig_iff.mpr ⟨h1, h2⟩
      · rw [e, deeds_more]
        have ea : as.map V.ref ++ (List.replicate (pul c : Int).toNat [V.ref t1]).flatten ++ [V.ref t2] = (as ++ List.replicate (pul c) t1 ++ List.replicate 1 t2).map V.ref := by
          rw [Int.toNat_natCast, rep_flat, List.map_append, List.map_append, List.map_replicate]
          rfl
        rw [ea] at S5
        exact Wk.sep (by wtm_at "wk1") S5
    · refine q2 (fun ha => hn ⟨c, rfl, dig_iff.mp (ha c (List.mem_of_getElem? hc))⟩) H ?_
      wtm_at "wk"
  · rintro σ H ⟨v, as, rfl, hd, S⟩
    rw [List.take_length] at hd S
    wtm_at "st"
    exact q1 hd p as H S
end
end L2.Zs

namespace L2.Zs
open PySem PySem.Spec PyProof.Rows
local macro_rules | `(tactic| wtm_at "pk") => `(tactic| (repeat (first | with_reducible exact Pick.here | with_reducible apply Pick.there)))
local macro_rules | `(tactic| wtm_at "cg") => `(tactic| (repeat (first | with_reducible exact Chg.here | with_reducible apply Chg.there)))
local macro_rules | `(tactic| wtm_at "sa") => `(tactic| (repeat (first | with_reducible exact SetAt.here | with_reducible apply SetAt.there)))
local macro_rules | `(tactic| wtm_at "wk1") => `(tactic| (repeat (first | with_reducible exact Wk.refl | (with_reducible apply Wk.pick; focus (wtm_at "pk"; done)) | with_reducible apply Wk.drop)))
local macro_rules | `(tactic| wtm_at "wk") => `(tactic| (refine Wk.sep ?_ (by assumption); wtm_at "wk1"))
local macro_rules | `(tactic| wtm_at "sz") => `(tactic| first | exact Nat.le_of_ble_eq_true rfl | assumption | omega)
local macro_rules | `(tactic| wtm_at "s1") => `(tactic| first
  | refine Stp.go ?_
  | with_reducible refine s_mod (by first | decide | assumption | omega) ?_
  | with_reducible refine s_mulI (by first | exact cmul_l (by decide) | exact cmul_r (by decide) | (exact cmul_l (by omega)) | (exact cmul_r (by omega))) ?_
  | with_reducible refine s_div (cdiv_of (by decide) (by decide)) ?_
  | with_reducible refine s_pow (cpow_of (by decide) (by decide) (by decide)) ?_
  | with_reducible refine s_lenL (by assumption) (by wtm_at "pk") ?_
  | with_reducible refine s_lenQ (by assumption) (by wtm_at "pk") ?_
  | with_reducible refine s_lenT (by assumption) (by wtm_at "pk") ?_
  | with_reducible refine s_tyL (by assumption) (by wtm_at "pk") ?_)
local macro_rules | `(tactic| wtm_at "st") => `(tactic| (repeat (first | wtm_at "s1" | with_reducible refine s_seq ?_)))
local macro_rules | `(tactic| wtm_at "stc") => `(tactic| (repeat wtm_at "s1"))

section
variable {P : Program} {w : World} {K : PySem.W.Frag} {mg : PySem.Str → Option Value} {base : Heap} {ad : Ad} {Cs : List Addr} {C : Addr} {f : Addr} {fd : FuncData} {tk1 tk2 : Tok}
set_option maxHeartbeats 2000000
theorem ok_Lcell {f : Addr} {fd : FuncData} (T : Txt K mg ad tk1 tk2) (F : Fun K "_law_cell" "_law_cell" s_Lcell f fd) : FnOk P w K mg base (L2.CX P w) 1 f fd ["script", "k"] (spCell K) := by
  refine F.okX sc_Lcell (fun vs H Q E h => len_cell h) (fun cdv A outer s H vs Q E hr h => ?_)
  refine ⟨_, (pss_cons (ps_if (pt_cmpR zo_lt (pv 1) (pe_callB (k_len (K := K) rfl) (by rfl) T.b_len (by decide +kernel) (pa_cons (pv 0) pa_nil)) (nomark _)) (pss_one (ps_ret (pe_ix (k_ix (K := K) rfl) (pv 0) (pv 1) (fun _ _ => rfl)))) pss_nil)
  (pss_cons (ps_if (pt_cmpR (k_eq (K := K) rfl hr.units) (pe_callB (k_len (K := K) rfl) (by rfl) T.b_len (by decide +kernel) (pa_cons (pv 0) pa_nil)) pe_int (nomark _)) (pss_one (ps_ret (pe_op zo_add (pe_op zo_mul pe_int (pv 1)) pe_int))) pss_nil)
  (pss_one (ps_ret (pe_op zo_add (pe_op zo_mod (pe_ix (k_ix (K := K) rfl) (pv 0) (pe_op zo_mod (pv 1) (pe_callB (k_len (K := K) rfl) (by rfl) T.b_len (by decide +kernel) (pa_cons (pv 0) pa_nil))) (fun _ _ => rfl)) pe_int) (pe_op zo_mul pe_int (pv 1))))))), ?_⟩
  obtain ⟨a, ns, k, cs, rfl, S, h0, q⟩ := h
  refine s_start (σ := [some (.ref a), some (.int k)]) rfl ?_
  wtm_at "st"
  refine s_ifd (fun h1 => ?_) (fun h1 => ?_)
  · wtm_at "st"
    obtain ⟨v, hv, hm, _⟩ := atI_lt (xs := ns.map V.int) h0 h1
    obtain ⟨z, _, rfl⟩ := List.mem_map.mp hm
    exact s_ixQ S (by wtm_at "pk") hv (q z)
  · wtm_at "st"
    refine s_ifd (fun h2 => ?_) (fun h2 => ?_)
    · wtm_at "st"
      exact q _
    · have h3 : (0 : Int) < ((ns.map V.int).length : Nat) := by omega
      wtm_at "st"
      obtain ⟨v, hv, hm, _⟩ := atI_lt (xs := ns.map V.int) (i := k % ((ns.map V.int).length : Nat)) (Int.emod_nonneg _ (by omega)) (Int.emod_lt_of_pos _ h3)
      obtain ⟨z, _, rfl⟩ := List.mem_map.mp hm
      refine s_ixQ S (by wtm_at "pk") hv ?_
      wtm_at "st"
      exact q _
theorem len_nn (n : Nat) : (n : Int) % 8 < 8 ∧ 0 ≤ (n : Int) % 8 := ⟨Int.emod_lt_of_pos _ (by decide), Int.emod_nonneg _ (by decide)⟩
theorem ok_Ldraws {f : Addr} {fd : FuncData} (T : Txt K mg ad tk1 tk2) (c_Lcell : Cal P w K mg base 1 "_law_cell" (spCell K)) (F : Fun K "_law_draws" "_law_draws" s_Ldraws f fd) : FnOk P w K mg base (L2.CX P w) 2 f fd ["script", "k", "many", "base"] (spDraws K) := by
  refine F.okX sc_Ldraws (fun vs H Q E h => len_draws h) (fun cdv A outer s H vs Q E hr h => ?_)
  have tk : Takes (cxOf (L2.CX P w) P w K mg base N_Ldraws "_law_draws" (defScope s_Ldraws) f cdv A outer s H E) (fun cls d _ H => E cls d H) := takes_of rfl rfl rfl rfl
  have po_ : PassesOwn (model P w) (cxOf (L2.CX P w) P w K mg base N_Ldraws "_law_draws" (defScope s_Ldraws) f cdv A outer s H E).A (cxOf (L2.CX P w) P w K mg base N_Ldraws "_law_draws" (defScope s_Ldraws) f cdv A outer s H E).env (cxOf (L2.CX P w) P w K mg base N_Ldraws "_law_draws" (defScope s_Ldraws) f cdv A outer s H E).xe := passes_of rfl
  refine ⟨_, (pss_cons (ps_set (i := 4) sc_Ldraws.nd rfl (Or.inl rfl) (pe_tup (pa_cons pe_int (pa_cons pe_int (pa_cons pe_int (pa_cons pe_int (pa_cons pe_int (pa_cons pe_int (pa_cons pe_int (pa_cons pe_int pa_nil))))))))))
  (pss_cons (ps_set (i := 5) sc_Ldraws.nd rfl (Or.inl rfl) (z_call c_Lcell tk hr (by decide) (by rfl) (pa_cons (pv 0) (pa_cons (pv 1) pa_nil))))
  (pss_cons (ps_set (i := 6) sc_Ldraws.nd rfl (Or.inl rfl) pe_int)
  (pss_cons (ps_if (pt_cmpR zo_ge (pv 5) (pe_op zo_pow pe_int pe_int) (nomark _)) (pss_one (ps_set (i := 6) sc_Ldraws.nd rfl (Or.inl rfl) (pv 5))) pss_nil)
  (pss_cons (ps_set (i := 7) sc_Ldraws.nd rfl (Or.inl rfl) (pe_lst pa_nil))
  (pss_cons (ps_for (po_) rfl (pi_range1 (by rfl) T.b_range (pa_cons (pv 2) pa_nil)) (pg_name (i := 8) sc_Ldraws.nd rfl (Or.inl rfl)) (pss_cons (ps_set (i := 9) sc_Ldraws.nd rfl (Or.inl rfl) (pe_op zo_mul (pe_op zo_mod (pv 5) (pe_ix (k_ix (K := K) rfl) (pv 4) (pe_op zo_mod (pv 8) pe_int) (fun _ _ => rfl))) (pe_op zo_add pe_int (pe_op zo_mul (pe_op zo_mul pe_int (pv 8)) (pv 8)))))
  (pss_cons (ps_set (i := 9) sc_Ldraws.nd rfl (Or.inl rfl) (pe_op zo_add (pe_op zo_add (pv 9) (pe_op zo_mul (pe_op zo_mul pe_int (pe_op zo_add (pv 8) pe_int)) (pe_op zo_add (pv 8) pe_int))) (pe_op zo_mul pe_int (pv 1))))
  (pss_cons (ps_set (i := 9) sc_Ldraws.nd rfl (Or.inl rfl) (pe_op zo_mod (pv 9) (pe_ix (k_ix (K := K) rfl) (pv 4) (pe_op zo_mod (pe_op zo_add (pe_op zo_mul pe_int (pv 8)) (pv 1)) pe_int) (fun _ _ => rfl))))
  (pss_cons (ps_set (i := 9) sc_Ldraws.nd rfl (Or.inl rfl) (pe_op zo_mod (pe_op zo_mul (pe_op zo_mul (pv 9) (pv 9)) (pv 9)) (pe_ix (k_ix (K := K) rfl) (pv 4) (pe_op zo_mod (pe_op zo_add (pv 8) pe_int) pe_int) (fun _ _ => rfl))))
  (pss_cons (ps_if (pt_cmpR zo_gt (pv 6) pe_int (nomark _)) (pss_one (ps_set (i := 9) sc_Ldraws.nd rfl (Or.inl rfl) (pv 6))) pss_nil)
  (pss_cons (ps_expr (k_bm (K := K) rfl PySem.F.plainAttrs_list PySem.F.slot_list_append PySem.F.type_list_append z_append (pv 7) (pa_cons (pe_op zo_mod (pv 9) (pv 3)) pa_nil)))
  (pss_one (ps_set (i := 6) sc_Ldraws.nd rfl (Or.inl rfl) (pe_op zo_div (pv 6) (pv 3)))))))))))
  (pss_one (ps_ret (pv 7))))))))), ?_⟩
  obtain ⟨a, ns, k, many, bs, cs, rfl, S, h0, h00, h1, h2, h3, q⟩ := h
  refine s_start (σ := [some (.ref a), some (.int k), some (.int many), some (.int bs), none, none, none, none, none, none]) rfl ?_
  wtm_at "st"
  refine s_newT (by wtm_at "sz") S fun p H S => ?_
  wtm_at "st"
  refine ⟨a, ns, k, _, rfl, S.pick (by wtm_at "pk"), h0, fun z => ?_⟩
  wtm_at "stc"
  with_reducible refine s_cut (fun σ H' => H' = H ∧ ∃ rest : Int, 0 ≤ rest ∧ σ = [some (.ref a), some (.int k), some (.int many), some (.int bs), some (.ref p), some (.int z), some (.int rest), none, none, none]) ?_ (fun N go => ?_)
  rotate_left
  · wtm_at "st"
    refine s_ifd (fun h5 => ?_) (fun h5 => ?_)
    · wtm_at "st"
      exact go _ _ ⟨rfl, z, (by have : (0:Int) ≤ 10 ^ (18 : Int).toNat := by decide
                                omega), rfl⟩
    · wtm_at "st"
      exact go _ _ ⟨rfl, 0, by decide, rfl⟩
  rintro _ _ ⟨rfl, rest, hrest, rfl⟩
  have S : Sep (pt p (.tup (prL.map V.int)) :: sq K a (ns.map V.int) :: cs) _ := S
  wtm_at "st"
  refine s_newL (by wtm_at "sz") S fun q1 H S => ?_
  wtm_at "st"
  refine s_rng1 h1 (by omega) (lp_range (fun i σ H => ∃ (rest : Int) (row : List Int) (v8 v9 : Option V), σ = [some (.ref a), some (.int k), some (.int many), some (.int bs), some (.ref p), some (.int z), some (.int rest), some (.ref q1), v8, v9] ∧
    0 ≤ rest ∧ row.length = i ∧ (∀ r ∈ row, 0 ≤ r ∧ r < bs) ∧ Sep (pt q1 (.lst (row.map V.int)) :: pt p (.tup (prL.map V.int)) :: sq K a (ns.map V.int) :: cs) H)
    ⟨rest, [], none, none, rfl, hrest, rfl, (fun r hr => nomatch hr), S⟩ ?_ ?_)
  · rintro i σ H hi ⟨rest, row, v8, v9, rfl, hrest, hl, hrow, S⟩
    have hi' : (i : Int) < 1000000 := by omega
    wtm_at "st"
    obtain ⟨p1, hp1, e1⟩ := prL_at i
    refine s_ixT S (by wtm_at "pk") e1 ?_
    have b1 := emod_in z hp1.1
    wtm_at "st"
    obtain ⟨p2, hp2, e2⟩ := prL_at (3 * i + k)
    refine s_ixT S (by wtm_at "pk") e2 ?_
    wtm_at "s1"
    have b2 := emod_in (z % p1 * (48271 + 2 * (i : Int) * i) + 7919 * ((i : Int) + 1) * ((i : Int) + 1) + 104729 * k) hp2.1
    generalize (z % p1 * (48271 + 2 * (i : Int) * i) + 7919 * ((i : Int) + 1) * ((i : Int) + 1) + 104729 * k) % p2 = m at b2 ⊢
    wtm_at "st"
    obtain ⟨p3, hp3, e3⟩ := prL_at (i + 5)
    refine s_ixT S (by wtm_at "pk") e3 ?_
    wtm_at "s1"
    have b3 := emod_in (m * m * m) hp3.1
    generalize (m * m * m) % p3 = m3 at b3 ⊢
    wtm_at "stc"
    with_reducible refine s_cut (fun σ H' => H' = H ∧ ∃ m : Int, σ = [some (.ref a), some (.int k), some (.int many), some (.int bs), some (.ref p), some (.int z), some (.int rest), some (.ref q1), some (.int i), some (.int m)]) ?_ (fun N go => ?_)
    rotate_left
    · wtm_at "st"
      refine s_ifd (fun h5 => ?_) (fun h5 => ?_)
      · wtm_at "st"
        exact go _ _ ⟨rfl, _, rfl⟩
      · wtm_at "st"
        exact go _ _ ⟨rfl, _, rfl⟩
    rintro _ _ ⟨rfl, m4, rfl⟩
    have hb : 0 < bs := h3.1
    have b4 := emod_in m4 hb
    wtm_at "st"
    refine s_append (v := .int (m4 % bs)) (by assumption) (by wtm_at "cg") (by rw [List.length_map, hl]; exact Nat.lt_of_lt_of_le (show i < 1000000 by omega) (by decide)) fun H S => ?_
    wtm_at "st"
    refine s_div h3 ?_
    wtm_at "st"
    refine ⟨rest / bs, row ++ [m4 % bs], _, _, rfl, Int.ediv_nonneg hrest (by omega), by simp [hl], fun r hr => ?_, ?_⟩
    · rcases List.mem_append.mp hr with hr | hr
      · exact hrow r hr
      · rw [List.mem_singleton.mp hr]; exact b4
    · rw [List.map_append]; exact S
  · rintro σ H ⟨rest, row, v8, v9, rfl, hrest, hl, hrow, S⟩
    wtm_at "st"
    refine q row q1 H (by omega) hrow ?_
    wtm_at "wk"
theorem ok_Lnumber (T : Txt K mg ad tk1 tk2) (F : Fun K "_law_number" "_law_number" s_Lnumber f fd) : FnOk P w K mg base (L2.CX P w) 1 f fd ["draw", "long"] spNumber := by
  refine F.okX sc_Lnumber (fun vs H Q E h => len_number h) (fun cdv A outer s H vs Q E hr h => ?_)
  have tk : Takes (cxOf (L2.CX P w) P w K mg base N_Lnumber "_law_number" (defScope s_Lnumber) f cdv A outer s H E) (fun cls d _ H => E cls d H) := takes_of rfl rfl rfl rfl
  have po_ : PassesOwn (model P w) (cxOf (L2.CX P w) P w K mg base N_Lnumber "_law_number" (defScope s_Lnumber) f cdv A outer s H E).A (cxOf (L2.CX P w) P w K mg base N_Lnumber "_law_number" (defScope s_Lnumber) f cdv A outer s H E).env (cxOf (L2.CX P w) P w K mg base N_Lnumber "_law_number" (defScope s_Lnumber) f cdv A outer s H E).xe := passes_of rfl
  refine ⟨_, (pss_cons (ps_set (i := 2) sc_Lnumber.nd rfl (Or.inl rfl) pe_str)
  (pss_cons (ps_for (po_) rfl (pi_range1 (by rfl) T.b_range (pa_cons (pv 1) pa_nil)) (pg_name (i := 3) sc_Lnumber.nd rfl (Or.inl rfl)) (pss_cons (ps_set (i := 2) sc_Lnumber.nd rfl (Or.inl rfl) (pe_op zo_add (pv 2) (pe_ix (k_ix (K := K) rfl) pe_str (pe_op zo_mod (pv 0) pe_int) (fun _ _ => rfl))))
  (pss_one (ps_set (i := 0) sc_Lnumber.nd rfl (Or.inl rfl) (pe_op zo_div (pv 0) pe_int)))))
  (pss_one (ps_ret (pv 2))))), ?_⟩
  obtain ⟨d, n, rfl, h0, h1, q⟩ := h
  refine s_start (σ := [some (.int d), some (.int n), none, none]) rfl ?_
  wtm_at "st"
  refine s_rng1 h0 (by omega) (lp_range (fun i σ H' => H' = H ∧ ∃ (d : Int) (z : PySem.Str) (v : Option V), σ = [some (.int d), some (.int n), some (.str z), v] ∧ figs i z) ⟨rfl, d, _, none, rfl, by decide +kernel, fun c hc => by
    rw [show (PySem.Str.ofString "").cps.toList = [] by decide +kernel] at hc
    cases hc⟩ ?_ ?_)
  · rintro i σ H' hi ⟨rfl, d, z, v, rfl, hz⟩
    wtm_at "st"
    obtain ⟨c, e, h48, h57⟩ := digit_at d
    refine s_ixS (by decide +kernel) e ?_
    refine s_addS (by rw [hz.1]; exact Nat.le_trans (show i + 1 ≤ 100001 by omega) (by decide)) ?_
    wtm_at "st"
    refine ⟨rfl, _, _, _, rfl, by rw [app_len, hz.1]; rfl, fun x hx => ?_⟩
    rw [app_codes] at hx
    rcases List.mem_append.mp hx with hx | hx
    · exact hz.2 x hx
    · simp at hx
      omega
  · rintro σ H' ⟨rfl, d, z, v, rfl, hz⟩
    wtm_at "st"
    exact q z hz
theorem ok_Lwhole (T : Txt K mg ad tk1 tk2) (F : Fun K "_law_whole" "_law_whole" s_Lwhole f fd) : FnOk P w K mg base (L2.CX P w) 1 f fd ["found"] spWhole := by
  refine F.okX sc_Lwhole (fun vs H Q E h => len_whole h) (fun cdv A outer s H vs Q E hr h => ?_)
  have tk : Takes (cxOf (L2.CX P w) P w K mg base N_Lwhole "_law_whole" (defScope s_Lwhole) f cdv A outer s H E) (fun cls d _ H => E cls d H) := takes_of rfl rfl rfl rfl
  have po_ : PassesOwn (model P w) (cxOf (L2.CX P w) P w K mg base N_Lwhole "_law_whole" (defScope s_Lwhole) f cdv A outer s H E).A (cxOf (L2.CX P w) P w K mg base N_Lwhole "_law_whole" (defScope s_Lwhole) f cdv A outer s H E).env (cxOf (L2.CX P w) P w K mg base N_Lwhole "_law_whole" (defScope s_Lwhole) f cdv A outer s H E).xe := passes_of rfl
  refine ⟨_, (pss_one (ps_ret (pe_and (pe_callB (k_isi (K := K) rfl) (by rfl) T.b_isinstance (by decide +kernel) (pa_cons (pv 0) (pa_cons (z_ty (T := "int") (by rfl) T.b_int (by decide +kernel)) pa_nil))) (pe_one (pe_not (pe_callB (k_isi (K := K) rfl) (by rfl) T.b_isinstance (by decide +kernel) (pa_cons (pv 0) (pa_cons (z_ty (T := "bool") (by rfl) T.b_bool (by decide +kernel)) pa_nil)))))))), ?_⟩
  rcases h with ⟨i, rfl, q⟩ | ⟨rfl, q⟩
  · refine s_start (σ := [some (.int i)]) rfl ?_
    wtm_at "st"
    exact q
  · refine s_start (σ := [some .non]) rfl ?_
    wtm_at "st"
    exact q
end
end L2.Zs

namespace L2.Zs
open PySem PySem.Spec PyProof.Rows
local macro_rules | `(tactic| wtm_at "pk") => `(tactic| (repeat (first | with_reducible exact Pick.here | with_reducible apply Pick.there)))
local macro_rules | `(tactic| wtm_at "cg") => `(tactic| (repeat (first | with_reducible exact Chg.here | with_reducible apply Chg.there)))
local macro_rules | `(tactic| wtm_at "sa") => `(tactic| (repeat (first | with_reducible exact SetAt.here | with_reducible apply SetAt.there)))
local macro_rules | `(tactic| wtm_at "wk1") => `(tactic| (repeat (first | with_reducible exact Wk.refl | (with_reducible apply Wk.pick; focus (wtm_at "pk"; done)) | with_reducible apply Wk.drop)))
local macro_rules | `(tactic| wtm_at "wk") => `(tactic| (refine Wk.sep ?_ (by assumption); wtm_at "wk1"))
local macro_rules | `(tactic| wtm_at "sz") => `(tactic| first | exact Nat.le_of_ble_eq_true rfl | assumption | omega)
local macro_rules | `(tactic| wtm_at "s1") => `(tactic| first
  | refine Stp.go ?_
  | with_reducible refine s_mod (by first | decide | assumption | omega) ?_
  | with_reducible refine s_mulI (by first | exact cmul_l (by decide) | exact cmul_r (by decide) | (exact cmul_l (by omega)) | (exact cmul_r (by omega))) ?_
  | with_reducible refine s_div (cdiv_of (by decide) (by decide)) ?_
  | with_reducible refine s_pow (cpow_of (by decide) (by decide) (by decide)) ?_
  | with_reducible refine s_lenL (by assumption) (by wtm_at "pk") ?_
  | with_reducible refine s_lenQ (by assumption) (by wtm_at "pk") ?_
  | with_reducible refine s_lenT (by assumption) (by wtm_at "pk") ?_
  | with_reducible refine s_tyL (by assumption) (by wtm_at "pk") ?_)
local macro_rules | `(tactic| wtm_at "st") => `(tactic| (repeat (first | wtm_at "s1" | with_reducible refine s_seq ?_)))
local macro_rules | `(tactic| wtm_at "stc") => `(tactic| (repeat wtm_at "s1"))

/-- what _law_told tells: the thing found and no kinds, or none and the kinds of the error -/
def spTold : Sp := fun vs H Q E => ∃ F : List As, Sep F H ∧
  ((∃ n : Int, vs = [.int 0, .int n, .non] ∧ (1 ≤ n → n ≤ 10 → ∀ t kl H', Sep (pt t (.tup [.str (fig1 n), .ref kl]) :: pt kl (.lst []) :: F) H' → Q (.ref t) H') ∧ (¬ (1 ≤ n ∧ n ≤ 10) → ∀ t kl H', Sep (pt t (.tup [.non, .ref kl]) :: pt kl (.lst [.bl true, .bl true, .bl false]) :: F) H' → Q (.ref t) H')) ∨
  (∃ z : PySem.Str, vs = [.int 1, .str z, .non] ∧ z.length ≤ 10000 ∧ (∀ c, z = ⟨#[c]⟩ → 48 ≤ c → c ≤ 57 → ∀ t kl H', Sep (pt t (.tup [.int (pul c), .ref kl]) :: pt kl (.lst []) :: F) H' → Q (.ref t) H') ∧ (¬ (∃ c, z = ⟨#[c]⟩ ∧ 48 ≤ c ∧ c ≤ 57) → ∀ t kl H', Sep (pt t (.tup [.non, .ref kl]) :: pt kl (.lst [.bl true, .bl true, .bl false]) :: F) H' → Q (.ref t) H')) ∨
  (∃ ln z : PySem.Str, vs = [.int 2, .str ln, .str z] ∧ z.length ≤ 3000 ∧ ((∀ c ∈ z.cps.toList, dig c = true) → ∀ p as t kl H', Sep (pt t (.tup [.ref p, .ref kl]) :: pt kl (.lst []) :: pt p (.lst (as.map V.ref)) :: tl as (deedsOf ln z.cps.toList) :: F) H' → Q (.ref t) H') ∧ (¬ (∀ c ∈ z.cps.toList, dig c = true) → ∀ t kl H', Sep (pt t (.tup [.non, .ref kl]) :: pt kl (.lst [.bl true, .bl true, .bl false]) :: F) H' → Q (.ref t) H')))
theorem len_told {vs H Q E} (h : spTold vs H Q E) : vs.length = 3 := by
  obtain ⟨F, _, ⟨n, rfl, _⟩ | ⟨z, rfl, _⟩ | ⟨ln, z, rfl, _⟩⟩ := h <;> rfl
section
variable {P : Program} {w : World} {K : PySem.W.Frag} {mg : PySem.Str → Option Value} {base : Heap} {ad : Ad} {Cs : List Addr} {C : Addr} {f : Addr} {fd : FuncData} {tk1 tk2 : Tok}
set_option maxHeartbeats 1000000
theorem ok_Ltold (T : Txt K mg ad tk1 tk2) (c_figure_of : Cal P w K mg base 1 "figure_of" (spFigOf ad.NoFigure)) (c_pulses_of : Cal P w K mg base 2 "pulses_of" (spPulOf ad.NoFigure)) (c_dialled : Cal P w K mg base 3 "dialled" (spDialled ad.NoFigure)) (F : Fun K "_law_told" "_law_told" s_Ltold f fd) : FnOk P w K mg base (L2.CX P w) 4 f fd ["way", "one", "other"] spTold := by
  refine F.okX sc_Ltold (fun vs H Q E h => len_told h) (fun cdv A outer s H vs Q E hr h => ?_)
  have tk : Takes (cxOf (L2.CX P w) P w K mg base N_Ltold "_law_told" (defScope s_Ltold) f cdv A outer s H E) (fun cls d _ H => E cls d H) := takes_of rfl rfl rfl rfl
  have po_ : PassesOwn (model P w) (cxOf (L2.CX P w) P w K mg base N_Ltold "_law_told" (defScope s_Ltold) f cdv A outer s H E).A (cxOf (L2.CX P w) P w K mg base N_Ltold "_law_told" (defScope s_Ltold) f cdv A outer s H E).env (cxOf (L2.CX P w) P w K mg base N_Ltold "_law_told" (defScope s_Ltold) f cdv A outer s H E).xe := passes_of rfl
  refine ⟨_, (pss_cons (ps_set (i := 3) sc_Ltold.nd rfl (Or.inl rfl) pe_non)
  (pss_cons (ps_set (i := 4) sc_Ltold.nd rfl (Or.inl rfl) (pe_lst pa_nil))
  (pss_cons (z_try_as (i := 5) rfl rfl sc_Ltold.nd rfl rfl ⟨rfl, by decide, .inl T.x_HallError.g⟩ tk (fun Wb pn xe tkb po => (pss_one (ps_if (pt_cmpR (k_eq (K := K) rfl hr.units) (pv 0) pe_int (nomark _)) (pss_one (ps_set (i := 3) sc_Ltold.nd rfl (Or.inl rfl) (z_call c_figure_of tkb hr (by decide) (by rfl) (pa_cons (pv 1) pa_nil)))) (pss_one (ps_if (pt_cmpR (k_eq (K := K) rfl hr.units) (pv 0) pe_int (nomark _)) (pss_one (ps_set (i := 3) sc_Ltold.nd rfl (Or.inl rfl) (z_call c_pulses_of tkb hr (by decide) (by rfl) (pa_cons (pv 1) pa_nil)))) (pss_one (ps_set (i := 3) sc_Ltold.nd rfl (Or.inl rfl) (z_call c_dialled tkb hr (by decide) (by rfl) (pa_cons (pv 1) (pa_cons (pv 2) pa_nil)))))))))) (fun a oe cls dd pn hz hf => (pss_cons (ps_set (i := 4) sc_Ltold.nd rfl (Or.inl rfl) (pe_lst (pa_cons (by exact pe_callB (z_isE hz hf) (by rfl) T.b_isinstance (by decide +kernel) (pa_cons (pv 5) (pa_cons (z_cls (by rfl) T.x_NoFigure.g) pa_nil))) (pa_cons (by exact pe_callB (z_isE hz hf) (by rfl) T.b_isinstance (by decide +kernel) (pa_cons (pv 5) (pa_cons (z_ty (T := "ValueError") (by rfl) T.b_ValueError (by decide +kernel)) pa_nil))) pa_nil))))
  (pss_one (ps_expr (k_bm (K := K) rfl PySem.F.plainAttrs_list PySem.F.slot_list_append PySem.F.type_list_append z_append (pv 4) (pa_cons (by exact pe_callB (z_isET hz hf) (by rfl) T.b_isinstance (by decide +kernel) (pa_cons (pv 5) (pa_cons (pe_tup (pa_cons (z_cls (by rfl) T.x_BadPlan.g) (pa_cons (z_cls (by rfl) T.x_NoLine.g) (pa_cons (z_cls (by rfl) T.x_NoRow.g) (pa_cons (z_cls (by rfl) T.x_NoSwitch.g) (pa_cons (z_cls (by rfl) T.x_NoText.g) (pa_cons (z_cls (by rfl) T.x_NotSo.g) pa_nil))))))) pa_nil))) pa_nil)))))))
  (pss_one (ps_ret (pe_tup (pa_cons (pv 3) (pa_cons (pv 4) pa_nil)))))))), ?_⟩
  obtain ⟨F, S, h⟩ := h
  obtain ⟨A1, A2, A3, ok, fv, rfl, hw, yes, no⟩ : ∃ (A1 A2 A3 : V) (ok : Prop) (fv : V → List As → Prop), vs = [A1, A2, A3] ∧ (∃ n : Int, A1 = .int n ∧ ((n = 0 ∧ ∃ m : Int, A2 = .int m ∧ (ok ↔ 1 ≤ m ∧ m ≤ 10) ∧ fv (.str (fig1 m)) []) ∨ (n = 1 ∧ ∃ z : PySem.Str, A2 = .str z ∧ z.length ≤ 10000 ∧ (ok ↔ ∃ c, z = ⟨#[c]⟩ ∧ 48 ≤ c ∧ c ≤ 57) ∧ ∀ c, z = ⟨#[c]⟩ → fv (.int (pul c)) []) ∨
      (n = 2 ∧ ∃ ln z : PySem.Str, A2 = .str ln ∧ A3 = .str z ∧ z.length ≤ 3000 ∧ (ok ↔ ∀ c ∈ z.cps.toList, dig c = true) ∧ ∀ p as, fv (.ref p) [pt p (.lst (as.map V.ref)), tl as (deedsOf ln z.cps.toList)]))) ∧
      (ok → ∀ v G t kl H', fv v G → Sep (pt t (.tup [v, .ref kl]) :: pt kl (.lst []) :: star G :: F) H' → Q (.ref t) H') ∧ (¬ ok → ∀ t kl H', Sep (pt t (.tup [.non, .ref kl]) :: pt kl (.lst [.bl true, .bl true, .bl false]) :: F) H' → Q (.ref t) H') := by
    rcases h with ⟨n, rfl, y, x⟩ | ⟨z, rfl, hz, y, x⟩ | ⟨ln, z, rfl, hz, y, x⟩
    · exact ⟨_, _, _, 1 ≤ n ∧ n ≤ 10, fun v G => v = .str (fig1 n) ∧ G = [], rfl, ⟨0, rfl, .inl ⟨rfl, n, rfl, Iff.rfl, rfl, rfl⟩⟩, fun o v G t kl H' hv S => by
        obtain ⟨rfl, rfl⟩ := hv
        exact y o.1 o.2 t kl H' (by wtm_at "wk"), x⟩
    · exact ⟨_, _, _, ∃ c, z = ⟨#[c]⟩ ∧ 48 ≤ c ∧ c ≤ 57, fun v G => (∃ c, z = ⟨#[c]⟩ ∧ v = .int (pul c)) ∧ G = [], rfl, ⟨1, rfl, .inr (.inl ⟨rfl, z, rfl, hz, Iff.rfl, fun c e => ⟨⟨c, e, rfl⟩, rfl⟩⟩)⟩, fun o v G t kl H' hv S => by
        obtain ⟨⟨c, e, rfl⟩, rfl⟩ := hv
        obtain ⟨c', e', h1, h2⟩ := o
        cases one_inj (e.symm.trans e')
        exact y c e h1 h2 t kl H' (by wtm_at "wk"), x⟩
    · exact ⟨_, _, _, ∀ c ∈ z.cps.toList, dig c = true, fun v G => ∃ p as, v = .ref p ∧ G = [pt p (.lst (as.map V.ref)), tl as (deedsOf ln z.cps.toList)], rfl, ⟨2, rfl, .inr (.inr ⟨rfl, ln, z, rfl, rfl, hz, Iff.rfl, fun p as => ⟨p, as, rfl, rfl⟩⟩)⟩, fun o v G t kl H' hv S => by
        obtain ⟨p, as, rfl, rfl⟩ := hv
        have S2 : Sep (star [pt p (.lst (as.map V.ref)), tl as (deedsOf ln z.cps.toList)] :: pt t (.tup [.ref p, .ref kl]) :: pt kl (.lst []) :: F) H' := by wtm_at "wk"
        have S3 : Sep (pt p (.lst (as.map V.ref)) :: tl as (deedsOf ln z.cps.toList) :: pt t (.tup [.ref p, .ref kl]) :: pt kl (.lst []) :: F) H' := S2.flat
        exact y o p as t kl H' (Wk.sep (by wtm_at "wk1") S3), x⟩
  obtain ⟨n, rfl, hw⟩ := hw
  refine s_start (σ := [some (.int n), some A2, some A3, none, none, none]) rfl ?_
  wtm_at "st"
  refine s_newL (by wtm_at "sz") S fun kl H S => ?_
  wtm_at "stc"
  with_reducible refine s_cut (fun σ H => ∃ v kl v5, σ = [some (.int n), some A2, some A3, some v, some (.ref kl), v5] ∧ ((ok ∧ ∃ G, fv v G ∧ Sep (pt kl (.lst []) :: star G :: F) H) ∨ (¬ ok ∧ v = .non ∧ Sep (pt kl (.lst [.bl true, .bl true, .bl false]) :: F) H))) ?_ (fun N go => ?_)
  · rintro σ H ⟨v, kl, v5, rfl, h⟩
    rcases h with ⟨o, G, hv, S⟩ | ⟨o, rfl, S⟩
    · wtm_at "st"
      refine s_newT (by wtm_at "sz") S fun t H S => ?_
      exact yes o v G t kl H hv S
    · wtm_at "st"
      refine s_newT (by wtm_at "sz") S fun t H S => ?_
      exact no o t kl H S
  · with_reducible refine s_try (fun cls σ H => cls = .ref ad.NoFigure ∧ ¬ ok ∧ σ = [some (.int n), some A2, some A3, some .non, some (.ref kl), none] ∧ Sep (pt kl (.lst []) :: F) H) ?_ (fun W raise => ?_)
    · rintro _ _ H ⟨rfl, hb, rfl, S⟩
      refine s_caught T.e_NoFigure fun a => ?_
      dsimp only [List.set]
      wtm_at "st"
      refine s_isE T.i_NoFigure T.k_NoFigure ?_
      wtm_at "st"
      refine s_isVE T.i_NoFigure ?_
      wtm_at "st"
      refine s_newL (by wtm_at "sz") S fun kl2 H S => ?_
      wtm_at "st"
      refine s_newT (by wtm_at "sz") S fun tt H S => ?_
      wtm_at "st"
      refine s_isET (l := [ad.BadPlan, ad.NoLine, ad.NoRow, ad.NoSwitch, ad.NoText, ad.NotSo]) T.i_NoFigure S (by wtm_at "pk") (by rfl) T.n_NoFigure ?_
      wtm_at "st"
      refine s_append S (by wtm_at "cg") (by show 2 < sizeLine; decide) fun H S => ?_
      wtm_at "st"
      refine go _ _ ⟨.non, kl2, none, rfl, .inr ⟨hb, rfl, ?_⟩⟩
      show Sep (pt kl2 (.lst ([.bl true, .bl true] ++ [.bl false])) :: F) H
      wtm_at "wk"
    · rcases hw with ⟨rfl, m, rfl, ho, hf⟩ | ⟨rfl, z, rfl, hz, ho, hf⟩ | ⟨rfl, ln, z, rfl, rfl, hz, ho, hf⟩
      · wtm_at "st"
        refine s_ifd (fun _ => ?_) (fun z => absurd rfl z)
        wtm_at "st"
        refine ⟨_, rfl, fun h1 h2 => ?_, fun h => raise _ _ _ ⟨rfl, fun o => h (ho.mp o), rfl, (by wtm_at "wk")⟩⟩
        wtm_at "st"
        refine go _ _ ⟨_, kl, none, rfl, .inl ⟨ho.mpr ⟨h1, h2⟩, [], hf, ?_⟩⟩
        have S2 : Sep (star [] :: pt kl (.lst []) :: F) H := Sep.unflat (ps := []) (by show Sep (pt kl (.lst []) :: F) H; wtm_at "wk")
        exact Wk.sep (by wtm_at "wk1") S2
      · wtm_at "st"
        refine s_ifd (fun z => absurd z (by decide)) (fun _ => ?_)
        wtm_at "st"
        refine s_ifd (fun _ => ?_) (fun z => absurd rfl z)
        wtm_at "st"
        refine ⟨_, rfl, hz, fun c e h1 h2 => ?_, fun h => raise _ _ _ ⟨rfl, fun o => h (ho.mp o), rfl, (by wtm_at "wk")⟩⟩
        wtm_at "st"
        refine go _ _ ⟨_, kl, none, rfl, .inl ⟨ho.mpr ⟨c, e, h1, h2⟩, [], hf c e, ?_⟩⟩
        have S2 : Sep (star [] :: pt kl (.lst []) :: F) H := Sep.unflat (ps := []) (by show Sep (pt kl (.lst []) :: F) H; wtm_at "wk")
        exact Wk.sep (by wtm_at "wk1") S2
      · wtm_at "st"
        refine s_ifd (fun z => absurd z (by decide)) (fun _ => ?_)
        wtm_at "st"
        refine s_ifd (fun z => absurd z (by decide)) (fun _ => ?_)
        wtm_at "st"
        refine ⟨ln, z, _, rfl, hz, S, fun ha p as H S => ?_, fun h H S => raise _ _ _ ⟨rfl, fun o => h (ho.mp o), rfl, (by wtm_at "wk")⟩⟩
        wtm_at "st"
        refine go _ _ ⟨_, kl, none, rfl, .inl ⟨ho.mpr ha, _, hf p as, ?_⟩⟩
        have S2 : Sep (star [pt p (.lst (as.map V.ref)), tl as (deedsOf ln z.cps.toList)] :: pt kl (.lst []) :: F) H := Sep.unflat (ps := [pt p (.lst (as.map V.ref)), tl as (deedsOf ln z.cps.toList)]) (by show Sep (pt p (.lst (as.map V.ref)) :: tl as (deedsOf ln z.cps.toList) :: pt kl (.lst []) :: F) H; wtm_at "wk")
        exact Wk.sep (by wtm_at "wk1") S2
end
end L2.Zs

namespace L2.Zs
open PySem PySem.Spec PyProof.Rows
local macro_rules | `(tactic| wtm_at "pk") => `(tactic| (repeat (first | with_reducible exact Pick.here | with_reducible apply Pick.there)))
local macro_rules | `(tactic| wtm_at "cg") => `(tactic| (repeat (first | with_reducible exact Chg.here | with_reducible apply Chg.there)))
local macro_rules | `(tactic| wtm_at "sa") => `(tactic| (repeat (first | with_reducible exact SetAt.here | with_reducible apply SetAt.there)))
local macro_rules | `(tactic| wtm_at "wk1") => `(tactic| (repeat (first | with_reducible exact Wk.refl | (with_reducible apply Wk.pick; focus (wtm_at "pk"; done)) | with_reducible apply Wk.drop)))
local macro_rules | `(tactic| wtm_at "wk") => `(tactic| (refine Wk.sep ?_ (by assumption); wtm_at "wk1"))
local macro_rules | `(tactic| wtm_at "sz") => `(tactic| first | exact Nat.le_of_ble_eq_true rfl | assumption | omega)
local macro_rules | `(tactic| wtm_at "s1") => `(tactic| first
  | refine Stp.go ?_
  | with_reducible refine s_mod (by first | decide | assumption | omega) ?_
  | with_reducible refine s_mulI (by first | exact cmul_l (by decide) | exact cmul_r (by decide) | (exact cmul_l (by omega)) | (exact cmul_r (by omega))) ?_
  | with_reducible refine s_div (cdiv_of (by decide) (by decide)) ?_
  | with_reducible refine s_pow (cpow_of (by decide) (by decide) (by decide)) ?_
  | with_reducible refine s_lenL (by assumption) (by wtm_at "pk") ?_
  | with_reducible refine s_lenQ (by assumption) (by wtm_at "pk") ?_
  | with_reducible refine s_lenT (by assumption) (by wtm_at "pk") ?_
  | with_reducible refine s_tyL (by assumption) (by wtm_at "pk") ?_)
local macro_rules | `(tactic| wtm_at "st") => `(tactic| (repeat (first | wtm_at "s1" | with_reducible refine s_seq ?_)))
local macro_rules | `(tactic| wtm_at "stc") => `(tactic| (repeat wtm_at "s1"))

theorem fig_due {n : Int} (h1 : 1 ≤ n) (h2 : n ≤ 10) : ∃ c, atI ("1234567890" : PySem.Str).cps.toList (n - 1) = some c ∧ fig1 n = ⟨#[c]⟩ ∧ 48 ≤ c ∧ c ≤ 57 ∧ ((pul c : Nat) : Int) = n := by
  have : n = 1 ∨ n = 2 ∨ n = 3 ∨ n = 4 ∨ n = 5 ∨ n = 6 ∨ n = 7 ∨ n = 8 ∨ n = 9 ∨ n = 10 := by omega
  rcases this with rfl | rfl | rfl | rfl | rfl | rfl | rfl | rfl | rfl | rfl
  · exact ⟨49, by decide +kernel, by decide +kernel, by decide, by decide, by decide +kernel⟩
  · exact ⟨50, by decide +kernel, by decide +kernel, by decide, by decide, by decide +kernel⟩
  · exact ⟨51, by decide +kernel, by decide +kernel, by decide, by decide, by decide +kernel⟩
  · exact ⟨52, by decide +kernel, by decide +kernel, by decide, by decide, by decide +kernel⟩
  · exact ⟨53, by decide +kernel, by decide +kernel, by decide, by decide, by decide +kernel⟩
  · exact ⟨54, by decide +kernel, by decide +kernel, by decide, by decide, by decide +kernel⟩
  · exact ⟨55, by decide +kernel, by decide +kernel, by decide, by decide, by decide +kernel⟩
  · exact ⟨56, by decide +kernel, by decide +kernel, by decide, by decide, by decide +kernel⟩
  · exact ⟨57, by decide +kernel, by decide +kernel, by decide, by decide, by decide +kernel⟩
  · exact ⟨48, by decide +kernel, by decide +kernel, by decide, by decide, by decide +kernel⟩
theorem pul_at {c : Nat} (h1 : 48 ≤ c) (h2 : c ≤ 57) : atI [V.int 10, .int 1, .int 2, .int 3, .int 4, .int 5, .int 6, .int 7, .int 8, .int 9] ((c : Int) - 48) = some (.int (pul c)) := by
  have : c = 48 ∨ c = 49 ∨ c = 50 ∨ c = 51 ∨ c = 52 ∨ c = 53 ∨ c = 54 ∨ c = 55 ∨ c = 56 ∨ c = 57 := by omega
  rcases this with rfl | rfl | rfl | rfl | rfl | rfl | rfl | rfl | rfl | rfl <;> exact atI_of (by decide) rfl
theorem int_fig0 {c : Nat} (h1 : 48 ≤ c) (h2 : c ≤ 57) : PySem.intText? ⟨#[c]⟩ = some ((c : Int) - 48) := by
  by_cases e : c = 48
  · subst e; decide +kernel
  · exact int_fig c (by omega) h2
def bad3 : List V := [.bl true, .bl true, .bl false]
theorem bad3_ok : ∀ v ∈ ([V.bl true, .bl true, .bl false] : List V), okV v = true := okB [true, true, false]
def spNumR : Sp := fun vs H Q E => ∃ (n : Int) (F : List As), vs = [.int n] ∧ Sep F H ∧ ∀ H', Sep F H' → Q (.bl true) H'
theorem len_numr {vs H Q E} (h : spNumR vs H Q E) : vs.length = 1 := by obtain ⟨z, _, rfl, _⟩ := h; rfl
def spTextR : Sp := fun vs H Q E => ∃ (z : PySem.Str) (F : List As), vs = [.str z] ∧ z.length ≤ 10000 ∧ Sep F H ∧ ∀ H', Sep F H' → Q (.bl true) H'
theorem len_textr {vs H Q E} (h : spTextR vs H Q E) : vs.length = 1 := by obtain ⟨z, _, rfl, _⟩ := h; rfl
def spDialR : Sp := fun vs H Q E => ∃ (n : Nat) (ln z : PySem.Str) (F : List As), vs = [.str ln, .str z] ∧ figs n ln ∧ z.length ≤ 3000 ∧ Sep F H ∧ ∀ H', Sep F H' → Q (.bl true) H'
theorem len_dialr {vs H Q E} (h : spDialR vs H Q E) : vs.length = 2 := by obtain ⟨n, z, _, _, rfl, _⟩ := h; rfl
theorem deeds_ok {n : Nat} {ln : PySem.Str} (h : figs n ln) (cs : List Nat) : ∀ d ∈ deedsOf ln cs, ∀ v ∈ d, okV v = true := by
  intro d hd v hv
  obtain ⟨c, _, hd⟩ := List.mem_flatMap.mp hd
  have hl : okV (.str ln) = true := figs_ok h
  rcases List.mem_append.mp hd with hd | hd
  · rw [List.eq_of_mem_replicate hd] at hv
    simp only [List.mem_cons, List.not_mem_nil, or_false] at hv
    rcases hv with rfl | rfl
    · decide +kernel
    · exact hl
  · rw [List.eq_of_mem_replicate hd] at hv
    simp only [List.mem_cons, List.not_mem_nil, or_false] at hv
    rcases hv with rfl | rfl
    · decide +kernel
    · exact hl
theorem s_eqTL {K : PySem.W.Frag} {H : Hp} {Q : VK} {a b t1 t2 : Addr} {xs : List V} {x : V} {cs ds es ds2 es2 : List As} (S : Sep cs H) (p1 : Pick (pt t1 (.tup [x, .ref a])) cs ds) (p2 : Pick (pt a (.lst xs)) cs es) (q1 : Pick (pt t2 (.tup [x, .ref b])) cs ds2) (q2 : Pick (pt b (.lst xs)) cs es2) (hx : okV x = true) (h : ∀ v ∈ xs, okV v = true) (k : Q (.bl true) H) : rEqZ K (.ref t1) (.ref t2) H Q := by
  refine s_eqD (.tup (SqT.of (S.get p1)) (.cons (dp_flat hx) (.cons (.lst (SqL.of (S.get p2)) (dpAll_flat h)) .nil))) (.tup (SqT.of (S.get q1)) (.cons (dp_flat hx) (.cons (.lst (SqL.of (S.get q2)) (dpAll_flat h)) .nil))) (shaped_tl hx h) (shaped_tl hx h) ?_
  rw [eqv_same (shaped_tl hx h)]
  exact k
section
variable {P : Program} {w : World} {K : PySem.W.Frag} {mg : PySem.Str → Option Value} {base : Heap} {ad : Ad} {Cs : List Addr} {C : Addr} {f : Addr} {fd : FuncData} {tk1 tk2 : Tok}
set_option maxHeartbeats 1000000
theorem ok_Lnumbers_right (T : Txt K mg ad tk1 tk2) (c_Ltold : Cal P w K mg base 4 "_law_told" spTold) (c_Lwhole : Cal P w K mg base 1 "_law_whole" spWhole) (F : Fun K "_law_numbers_right" "_law_numbers_right" s_Lnumbers_right f fd) : FnOk P w K mg base (L2.CX P w) 5 f fd ["number"] spNumR := by
  refine F.okX sc_Lnumbers_right (fun vs H Q E h => len_numr h) (fun cdv A outer s H vs Q E hr h => ?_)
  have tk : Takes (cxOf (L2.CX P w) P w K mg base N_Lnumbers_right "_law_numbers_right" (defScope s_Lnumbers_right) f cdv A outer s H E) (fun cls d _ H => E cls d H) := takes_of rfl rfl rfl rfl
  have po_ : PassesOwn (model P w) (cxOf (L2.CX P w) P w K mg base N_Lnumbers_right "_law_numbers_right" (defScope s_Lnumbers_right) f cdv A outer s H E).A (cxOf (L2.CX P w) P w K mg base N_Lnumbers_right "_law_numbers_right" (defScope s_Lnumbers_right) f cdv A outer s H E).env (cxOf (L2.CX P w) P w K mg base N_Lnumbers_right "_law_numbers_right" (defScope s_Lnumbers_right) f cdv A outer s H E).xe := passes_of rfl
  refine ⟨_, (pss_cons (ps_asg (z_call c_Ltold tk hr (by decide) (by rfl) (pa_cons pe_int (pa_cons (pv 0) (pa_cons pe_non pa_nil)))) (k_gtup (K := K) rfl rfl (pgs_cons (pg_name (i := 1) sc_Lnumbers_right.nd rfl (Or.inl rfl)) (pgs_cons (pg_name (i := 2) sc_Lnumbers_right.nd rfl (Or.inl rfl)) pgs_nil))))
  (pss_cons (ps_if ((pw_or (pt_cmpR zo_lt (pv 0) pe_int (nomark _)) (pw_or1 (pt_cmpR zo_gt (pv 0) pe_int (nomark _))))).pt (pss_one (ps_ret (pe_and (pe_cmpR zo_isN (pv 1) pe_non (nomark _)) (pe_one (pe_cmpR (k_eq (K := K) rfl hr.units) (pv 2) (pe_lst (pa_cons pe_bl (pa_cons pe_bl (pa_cons pe_bl pa_nil)))) (nomark _)))))) pss_nil)
  (pss_cons (ps_set (i := 3) sc_Lnumbers_right.nd rfl (Or.inl rfl) (pe_ix (k_ix (K := K) rfl) pe_str (pe_op zo_sub (pv 0) pe_int) (fun _ _ => rfl)))
  (pss_cons (ps_if ((pw_or (pt_not (pt_val (pe_callB (k_isi (K := K) rfl) (by rfl) T.b_isinstance (by decide +kernel) (pa_cons (pv 1) (pa_cons (z_ty (T := "str") (by rfl) T.b_str (by decide +kernel)) pa_nil))))) (pw_or (pt_cmpR (k_ne (K := K) rfl hr.units) (pv 1) (pv 3) (nomark _)) (pw_or1 (pt_cmpR (k_ne (K := K) rfl hr.units) (pv 2) (pe_lst pa_nil) (nomark _)))))).pt (pss_one (ps_ret pe_bl)) pss_nil)
  (pss_cons (ps_asg (z_call c_Ltold tk hr (by decide) (by rfl) (pa_cons pe_int (pa_cons (pv 1) (pa_cons pe_non pa_nil)))) (k_gtup (K := K) rfl rfl (pgs_cons (pg_name (i := 4) sc_Lnumbers_right.nd rfl (Or.inl rfl)) (pgs_cons (pg_name (i := 2) sc_Lnumbers_right.nd rfl (Or.inl rfl)) pgs_nil))))
  (pss_one (ps_ret (pe_and (z_call c_Lwhole tk hr (by decide) (by rfl) (pa_cons (pv 4) pa_nil)) (pe_and (pe_cmpR (k_eq (K := K) rfl hr.units) (pv 4) (pv 0) (nomark _)) (pe_one (pe_cmpR (k_eq (K := K) rfl hr.units) (pv 2) (pe_lst pa_nil) (nomark _)))))))))))), ?_⟩
  obtain ⟨n, F, rfl, S, q⟩ := h
  refine s_start (σ := [some (.int n), none, none, none, none]) rfl ?_
  wtm_at "st"
  refine ⟨_, S, .inl ⟨n, rfl, fun h1 h2 t kl H S => ?_, fun hn t kl H S => ?_⟩⟩
  · wtm_at "st"
    refine s_gtup S (by wtm_at "pk") rfl ?_
    wtm_at "st"
    refine s_ifd (fun c1 => absurd c1 (by omega)) (fun _ => ?_)
    wtm_at "st"
    refine s_ifd (fun c1 => absurd c1 (by omega)) (fun _ => ?_)
    obtain ⟨c, e1, e2, h3, h4, h5⟩ := fig_due h1 h2
    rw [e2] at S ⊢
    wtm_at "st"
    refine s_ixS (by decide +kernel) e1 ?_
    wtm_at "st"
    rw [decide_eq_true rfl]
    wtm_at "st"
    refine s_newL (by wtm_at "sz") S fun nl H S => ?_
    refine s_neNil (xs := []) S (by wtm_at "pk") (by wtm_at "pk") (fun _ z => nomatch z) ?_
    rw [decide_eq_true rfl]
    wtm_at "st"
    refine ⟨F, by wtm_at "wk", .inr (.inl ⟨_, rfl, (by show 1 ≤ 10000; decide), fun c' ec _ _ t2 kl2 H S => ?_, fun hn => absurd ⟨c, rfl, h3, h4⟩ hn⟩)⟩
    cases one_inj ec
    wtm_at "st"
    refine s_gtup S (by wtm_at "pk") rfl ?_
    wtm_at "st"
    refine .inl ⟨_, rfl, ?_⟩
    wtm_at "st"
    rw [h5, decide_eq_true rfl]
    wtm_at "st"
    refine s_newL (by wtm_at "sz") S fun nl H S => ?_
    refine s_eqNil (xs := []) S (by wtm_at "pk") (by wtm_at "pk") (fun _ z => nomatch z) ?_
    rw [decide_eq_true rfl]
    exact q H (by wtm_at "wk")
  · wtm_at "st"
    refine s_gtup S (by wtm_at "pk") rfl ?_
    have fin : ∀ H, Sep (pt t (.tup [.non, .ref kl]) :: pt kl (.lst [.bl true, .bl true, .bl false]) :: F) H → ∀ nl H', Sep (pt nl (.lst [.bl true, .bl true, .bl false]) :: pt t (.tup [.non, .ref kl]) :: pt kl (.lst [.bl true, .bl true, .bl false]) :: F) H' → rEqZ K (.ref kl) (.ref nl) H' Q := fun H _ nl H' S => by
      refine s_eqLL S (by wtm_at "pk") (by wtm_at "pk") bad3_ok ?_
      exact q H' (by wtm_at "wk")
    wtm_at "st"
    refine s_ifd (fun c1 => ?_) (fun c1 => ?_)
    · wtm_at "st"
      refine s_newL (by wtm_at "sz") S fun nl H' S2 => ?_
      exact fin H S nl H' S2
    · wtm_at "st"
      refine s_ifd (fun c2 => ?_) (fun c2 => absurd ⟨by omega, by omega⟩ hn)
      wtm_at "st"
      refine s_newL (by wtm_at "sz") S fun nl H' S2 => ?_
      exact fin H S nl H' S2
theorem ok_Ltext_right (T : Txt K mg ad tk1 tk2) (c_Ltold : Cal P w K mg base 4 "_law_told" spTold) (c_Lwhole : Cal P w K mg base 1 "_law_whole" spWhole) (F : Fun K "_law_text_right" "_law_text_right" s_Ltext_right f fd) : FnOk P w K mg base (L2.CX P w) 5 f fd ["text"] spTextR := by
  refine F.okX sc_Ltext_right (fun vs H Q E h => len_textr h) (fun cdv A outer s H vs Q E hr h => ?_)
  have tk : Takes (cxOf (L2.CX P w) P w K mg base N_Ltext_right "_law_text_right" (defScope s_Ltext_right) f cdv A outer s H E) (fun cls d _ H => E cls d H) := takes_of rfl rfl rfl rfl
  have po_ : PassesOwn (model P w) (cxOf (L2.CX P w) P w K mg base N_Ltext_right "_law_text_right" (defScope s_Ltext_right) f cdv A outer s H E).A (cxOf (L2.CX P w) P w K mg base N_Ltext_right "_law_text_right" (defScope s_Ltext_right) f cdv A outer s H E).env (cxOf (L2.CX P w) P w K mg base N_Ltext_right "_law_text_right" (defScope s_Ltext_right) f cdv A outer s H E).xe := passes_of rfl
  refine ⟨_, (pss_cons (ps_asg (z_call c_Ltold tk hr (by decide) (by rfl) (pa_cons pe_int (pa_cons (pv 0) (pa_cons pe_non pa_nil)))) (k_gtup (K := K) rfl rfl (pgs_cons (pg_name (i := 1) sc_Ltext_right.nd rfl (Or.inl rfl)) (pgs_cons (pg_name (i := 2) sc_Ltext_right.nd rfl (Or.inl rfl)) pgs_nil))))
  (pss_cons (ps_if ((pw_and (pt_cmpR (k_eq (K := K) rfl hr.units) (pe_callB (k_len (K := K) rfl) (by rfl) T.b_len (by decide +kernel) (pa_cons (pv 0) pa_nil)) pe_int (nomark _)) (pw_and1 (pt_cmpR zo_inS (pv 0) pe_str (by with_unfolding_all rfl))))).pt (pss_one (ps_ret (pe_and (z_call c_Lwhole tk hr (by decide) (by rfl) (pa_cons (pv 1) pa_nil)) (pe_and (pe_cmpR (k_eq (K := K) rfl hr.units) (pv 1) (pe_ix (k_ix (K := K) rfl) (pe_lst (pa_cons pe_int (pa_cons pe_int (pa_cons pe_int (pa_cons pe_int (pa_cons pe_int (pa_cons pe_int (pa_cons pe_int (pa_cons pe_int (pa_cons pe_int (pa_cons pe_int pa_nil))))))))))) (pe_callTy z_intS (by rfl) T.b_int (by decide +kernel) (pa_cons (pv 0) pa_nil)) (fun _ _ => rfl)) (nomark _)) (pe_one (pe_cmpR (k_eq (K := K) rfl hr.units) (pv 2) (pe_lst pa_nil) (nomark _))))))) pss_nil)
  (pss_one (ps_ret (pe_and (pe_cmpR zo_isN (pv 1) pe_non (nomark _)) (pe_one (pe_cmpR (k_eq (K := K) rfl hr.units) (pv 2) (pe_lst (pa_cons pe_bl (pa_cons pe_bl (pa_cons pe_bl pa_nil)))) (nomark _)))))))), ?_⟩
  obtain ⟨z, F, rfl, hz, S, q⟩ := h
  refine s_start (σ := [some (.str z), none, none]) rfl ?_
  wtm_at "st"
  refine ⟨_, S, .inr (.inl ⟨z, rfl, hz, fun c e h3 h4 t kl H S => ?_, fun hn t kl H S => ?_⟩)⟩
  · subst e
    wtm_at "st"
    refine s_gtup S (by wtm_at "pk") rfl ?_
    wtm_at "st"
    refine s_lenS (by show 1 ≤ sizeLine; decide) ?_
    wtm_at "st"
    refine s_ifd (fun _ => ?_) (fun x => absurd rfl x)
    wtm_at "st"
    refine s_ifd (fun _ => ?_) (fun x => absurd (of_decide_eq_true (dig_iff.mpr ⟨h3, h4⟩)) x)
    wtm_at "st"
    refine .inl ⟨_, rfl, ?_⟩
    wtm_at "st"
    refine s_newL (by wtm_at "sz") S fun wl H S => ?_
    wtm_at "st"
    refine s_intS (int_fig0 h3 h4) (by show 1 ≤ 640; decide) ?_
    refine s_ixL S (by wtm_at "pk") (pul_at h3 h4) ?_
    wtm_at "st"
    rw [decide_eq_true rfl]
    wtm_at "st"
    refine s_newL (by wtm_at "sz") S fun nl H S => ?_
    refine s_eqNil (xs := []) S (by wtm_at "pk") (by wtm_at "pk") (fun _ z => nomatch z) ?_
    rw [decide_eq_true rfl]
    exact q H (by wtm_at "wk")
  · wtm_at "st"
    refine s_gtup S (by wtm_at "pk") rfl ?_
    have fin : ∀ nl H', Sep (pt nl (.lst [.bl true, .bl true, .bl false]) :: pt t (.tup [.non, .ref kl]) :: pt kl (.lst [.bl true, .bl true, .bl false]) :: F) H' → rEqZ K (.ref kl) (.ref nl) H' Q := fun nl H' S => by
      refine s_eqLL S (by wtm_at "pk") (by wtm_at "pk") bad3_ok ?_
      exact q H' (by wtm_at "wk")
    wtm_at "st"
    refine s_lenS (Nat.le_trans hz (by decide)) ?_
    wtm_at "st"
    refine s_ifd (fun c1 => ?_) (fun c1 => ?_)
    · obtain ⟨c, rfl⟩ := one_char (z := z) (by omega)
      wtm_at "st"
      refine s_ifd (fun c2 => absurd ⟨c, rfl, dig_iff.mp (decide_eq_true c2)⟩ hn) (fun c2 => ?_)
      wtm_at "st"
      refine s_newL (by wtm_at "sz") S fun nl H' S2 => ?_
      exact fin nl H' S2
    · wtm_at "st"
      refine s_newL (by wtm_at "sz") S fun nl H' S2 => ?_
      exact fin nl H' S2
end
end L2.Zs

namespace L2.Zs
open PySem PySem.Spec PyProof.Rows
local macro_rules | `(tactic| wtm_at "pk") => `(tactic| (repeat (first | with_reducible exact Pick.here | with_reducible apply Pick.there)))
local macro_rules | `(tactic| wtm_at "cg") => `(tactic| (repeat (first | with_reducible exact Chg.here | with_reducible apply Chg.there)))
local macro_rules | `(tactic| wtm_at "sa") => `(tactic| (repeat (first | with_reducible exact SetAt.here | with_reducible apply SetAt.there)))
local macro_rules | `(tactic| wtm_at "wk1") => `(tactic| (repeat (first | with_reducible exact Wk.refl | (with_reducible apply Wk.pick; focus (wtm_at "pk"; done)) | with_reducible apply Wk.drop)))
local macro_rules | `(tactic| wtm_at "wk") => `(tactic| (refine Wk.sep ?_ (by assumption); wtm_at "wk1"))
local macro_rules | `(tactic| wtm_at "sz") => `(tactic| first | exact Nat.le_of_ble_eq_true rfl | assumption | omega)
local macro_rules | `(tactic| wtm_at "s1") => `(tactic| first
  | refine Stp.go ?_
  | with_reducible refine s_mod (by first | decide | assumption | omega) ?_
  | with_reducible refine s_mulI (by first | exact cmul_l (by decide) | exact cmul_r (by decide) | (exact cmul_l (by omega)) | (exact cmul_r (by omega))) ?_
  | with_reducible refine s_div (cdiv_of (by decide) (by decide)) ?_
  | with_reducible refine s_pow (cpow_of (by decide) (by decide) (by decide)) ?_
  | with_reducible refine s_lenL (by assumption) (by wtm_at "pk") ?_
  | with_reducible refine s_lenQ (by assumption) (by wtm_at "pk") ?_
  | with_reducible refine s_lenT (by assumption) (by wtm_at "pk") ?_
  | with_reducible refine s_tyL (by assumption) (by wtm_at "pk") ?_)
local macro_rules | `(tactic| wtm_at "st") => `(tactic| (repeat (first | wtm_at "s1" | with_reducible refine s_seq ?_)))
local macro_rules | `(tactic| wtm_at "stc") => `(tactic| (repeat wtm_at "s1"))

section
variable {P : Program} {w : World} {K : PySem.W.Frag} {mg : PySem.Str → Option Value} {base : Heap} {ad : Ad} {Cs : List Addr} {C : Addr} {f : Addr} {fd : FuncData} {tk1 tk2 : Tok}
set_option maxHeartbeats 1000000
theorem ok_Ldialled_right (T : Txt K mg ad tk1 tk2) (c_Ltold : Cal P w K mg base 4 "_law_told" spTold) (c_dialled : Cal P w K mg base 3 "dialled" (spDialled ad.NoFigure)) (F : Fun K "_law_dialled_right" "_law_dialled_right" s_Ldialled_right f fd) : FnOk P w K mg base (L2.CX P w) 5 f fd ["line", "figures"] spDialR := by
  refine F.okX sc_Ldialled_right (fun vs H Q E h => len_dialr h) (fun cdv A outer s H vs Q E hr h => ?_)
  have tk : Takes (cxOf (L2.CX P w) P w K mg base N_Ldialled_right "_law_dialled_right" (defScope s_Ldialled_right) f cdv A outer s H E) (fun cls d _ H => E cls d H) := takes_of rfl rfl rfl rfl
  have po_ : PassesOwn (model P w) (cxOf (L2.CX P w) P w K mg base N_Ldialled_right "_law_dialled_right" (defScope s_Ldialled_right) f cdv A outer s H E).A (cxOf (L2.CX P w) P w K mg base N_Ldialled_right "_law_dialled_right" (defScope s_Ldialled_right) f cdv A outer s H E).env (cxOf (L2.CX P w) P w K mg base N_Ldialled_right "_law_dialled_right" (defScope s_Ldialled_right) f cdv A outer s H E).xe := passes_of rfl
  refine ⟨_, (pss_cons (ps_set (i := 2) sc_Ldialled_right.nd rfl (Or.inl rfl) (pe_lst pa_nil))
  (pss_cons (ps_for (po_) rfl (pi_str (pv 1)) (pg_name (i := 3) sc_Ldialled_right.nd rfl (Or.inl rfl)) (pss_cons (ps_if (pt_cmpR zo_notInS (pv 3) pe_str (by with_unfolding_all rfl)) (pss_one (ps_ret (pe_cmpR (k_eq (K := K) rfl hr.units) (z_call c_Ltold tk hr (by decide) (by rfl) (pa_cons pe_int (pa_cons (pv 0) (pa_cons (pv 1) pa_nil)))) (pe_tup (pa_cons pe_non (pa_cons (pe_lst (pa_cons pe_bl (pa_cons pe_bl (pa_cons pe_bl pa_nil)))) pa_nil))) (nomark _)))) pss_nil)
  (pss_one (ps_expr (k_bm (K := K) rfl PySem.F.plainAttrs_list PySem.F.slot_list_extend PySem.F.type_list_extend z_extend (pv 2) (pa_cons (pe_op zo_add (pe_op zo_mul (pe_lst (pa_cons (pe_tup (pa_cons pe_str (pa_cons (pv 0) pa_nil))) pa_nil)) (pe_ix (k_ix (K := K) rfl) (pe_lst (pa_cons pe_int (pa_cons pe_int (pa_cons pe_int (pa_cons pe_int (pa_cons pe_int (pa_cons pe_int (pa_cons pe_int (pa_cons pe_int (pa_cons pe_int (pa_cons pe_int pa_nil))))))))))) (pe_callTy z_intS (by rfl) T.b_int (by decide +kernel) (pa_cons (pv 3) pa_nil)) (fun _ _ => rfl))) (pe_lst (pa_cons (pe_tup (pa_cons pe_str (pa_cons (pv 0) pa_nil))) pa_nil))) pa_nil))))))
  (pss_cons (ps_asg (z_call c_Ltold tk hr (by decide) (by rfl) (pa_cons pe_int (pa_cons (pv 0) (pa_cons (pv 1) pa_nil)))) (k_gtup (K := K) rfl rfl (pgs_cons (pg_name (i := 4) sc_Ldialled_right.nd rfl (Or.inl rfl)) (pgs_cons (pg_name (i := 5) sc_Ldialled_right.nd rfl (Or.inl rfl)) pgs_nil))))
  (pss_cons (ps_if ((pw_or (pt_not (pt_val (pe_callB (k_isi (K := K) rfl) (by rfl) T.b_isinstance (by decide +kernel) (pa_cons (pv 4) (pa_cons (z_ty (T := "list") (by rfl) T.b_list (by decide +kernel)) pa_nil))))) (pw_or (pt_cmpR (k_ne (K := K) rfl hr.units) (pv 4) (pv 2) (nomark _)) (pw_or1 (pt_cmpR (k_ne (K := K) rfl hr.units) (pv 5) (pe_lst pa_nil) (nomark _)))))).pt (pss_one (ps_ret pe_bl)) pss_nil)
  (pss_cons (ps_expr (k_bm (K := K) rfl PySem.F.plainAttrs_list PySem.F.slot_list_append PySem.F.type_list_append z_append (pv 4) (pa_cons (pe_tup (pa_cons pe_str (pa_cons (pv 0) pa_nil))) pa_nil)))
  (pss_one (ps_ret (pe_cmpR (k_eq (K := K) rfl hr.units) (z_call c_dialled tk hr (by decide) (by rfl) (pa_cons (pv 0) (pa_cons (pv 1) pa_nil))) (pv 2) (nomark _))))))))), ?_⟩
  obtain ⟨n, ln, z, F, rfl, hln, hz, S, q⟩ := h
  refine s_start (σ := [some (.str ln), some (.str z), none, none, none, none]) rfl ?_
  wtm_at "st"
  refine s_newL (by wtm_at "sz") S fun p H S => ?_
  wtm_at "st"
  refine s_forS (lp_str (fun i σ H' => ∃ v as, σ = [some (.str ln), some (.str z), some (.ref p), v, none, none] ∧ (∀ c ∈ z.cps.toList.take i, dig c = true) ∧ Sep (pt p (.lst (as.map V.ref)) :: tl as (deedsOf ln (z.cps.toList.take i)) :: F) H') ⟨none, [], rfl, (fun c h => by simp at h), ?_⟩ ?_ ?_)
  · have S := S.tl0
    show Sep (pt p (.lst []) :: tl [] [] :: F) _
    wtm_at "wk"
  · rintro i c σ H hc ⟨v, as, rfl, hd, S⟩
    have hi : i < z.cps.toList.length := by
      rcases Nat.lt_or_ge i z.cps.toList.length with h | h
      · exact h
      · rw [List.getElem?_eq_none h] at hc; cases hc
    have hzl : z.cps.toList.length ≤ 3000 := by rw [Array.length_toList]; exact hz
    have e : z.cps.toList.take (i + 1) = z.cps.toList.take i ++ [c] := by rw [List.take_succ, hc]; rfl
    have al : as.length ≤ 11 * i := by
      have h1 := (S.tlGet (by wtm_at "pk")).1
      rw [h1]
      exact Nat.le_trans (deeds_len ln _ hd) (Nat.mul_le_mul_left _ (by rw [List.length_take]; exact Nat.min_le_left _ _))
    wtm_at "st"
    refine s_ifn (fun c1 => ?_) (fun c1 => ?_)
    · have hn : ¬ (∀ c ∈ z.cps.toList, dig c = true) := fun ha => c1 (of_decide_eq_true (ha c (List.mem_of_getElem? hc)))
      wtm_at "st"
      refine ⟨_, S, .inr (.inr ⟨ln, z, rfl, hz, fun ha => absurd ha hn, fun _ t kl H S => ?_⟩)⟩
      wtm_at "st"
      refine s_newL (by wtm_at "sz") S fun nl H S => ?_
      wtm_at "st"
      refine s_newT (by wtm_at "sz") S fun nt H S => ?_
      refine s_eqTL (x := .non) S (by wtm_at "pk") (by wtm_at "pk") (by wtm_at "pk") (by wtm_at "pk") rfl bad3_ok ?_
      exact q H (by wtm_at "wk")
    · have hdc : dig c = true := decide_eq_true c1
      have hcc := dig_iff.mp hdc
      have hp : pul c ≤ 10 := by unfold pul; split <;> omega
      wtm_at "st"
      refine s_newT (by wtm_at "sz") S fun t1 H S => ?_
      wtm_at "st"
      refine s_newL (by wtm_at "sz") S fun w1 H S => ?_
      wtm_at "st"
      refine s_newL (by wtm_at "sz") S fun w2 H S => ?_
      wtm_at "st"
      refine s_intS (int_fig0 hcc.1 hcc.2) (by show 1 ≤ 640; decide) ?_
      refine s_ixL S (by wtm_at "pk") (pul_at hcc.1 hcc.2) ?_
      refine s_mulL S (by wtm_at "pk") (by omega) (by omega) (by rw [Int.toNat_natCast]; exact Nat.le_trans (show 1 * pul c ≤ 10 by omega) (by decide)) fun l1 H S => ?_
      wtm_at "st"
      refine s_newT (by wtm_at "sz") S fun t2 H S => ?_
      wtm_at "st"
      refine s_newL (by wtm_at "sz") S fun w3 H S => ?_
      refine s_addL S (by wtm_at "pk") (by wtm_at "pk") (by rw [Int.toNat_natCast, rep_flat, List.length_replicate]; exact Nat.le_trans (show pul c + 1 ≤ 11 by omega) (by decide)) fun l2 H S => ?_
      wtm_at "st"
      refine s_extend S (by wtm_at "cg") (by wtm_at "pk") ?_ fun H S => ?_
      · rw [Int.toNat_natCast, List.length_map, List.length_append, rep_flat, List.length_replicate]
        exact Nat.le_trans (show as.length + (pul c + 1) ≤ 33011 by omega) (by decide)
      wtm_at "st"
      have S2 : Sep (pt t1 (.tup [.str "pulse", .str ln]) :: tl as (deedsOf ln (z.cps.toList.take i)) :: pt t2 (.tup [.str "gap", .str ln]) :: pt p (.lst (as.map V.ref ++ ((List.replicate (pul c : Int).toNat [V.ref t1]).flatten ++ [V.ref t2]))) :: F) H := by wtm_at "wk"
      have S3 := S2.tlAdd (n := pul c)
      have S4 : Sep (pt t2 (.tup [.str "gap", .str ln]) :: tl (as ++ List.replicate (pul c) t1) (deedsOf ln (z.cps.toList.take i) ++ List.replicate (pul c) [.str "pulse", .str ln]) :: pt p (.lst (as.map V.ref ++ ((List.replicate (pul c : Int).toNat [V.ref t1]).flatten ++ [V.ref t2]))) :: F) H := Wk.sep (by wtm_at "wk1") S3
      have S5 := S4.tlAdd (n := 1)
      refine ⟨_, as ++ List.replicate (pul c) t1 ++ List.replicate 1 t2, rfl, fun x hx => ?_, ?_⟩
      · rw [e] at hx
        rcases List.mem_append.mp hx with hx | hx
        · exact hd x hx
        · rw [List.mem_singleton.mp hx]; exact hdc
      · rw [e, deeds_more]
        have ea : as.map V.ref ++ ((List.replicate (pul c : Int).toNat [V.ref t1]).flatten ++ [V.ref t2]) = (as ++ List.replicate (pul c) t1 ++ List.replicate 1 t2).map V.ref := by
          rw [Int.toNat_natCast, rep_flat, List.map_append, List.map_append, List.map_replicate, List.append_assoc]
          rfl
        rw [ea] at S5
        exact Wk.sep (by wtm_at "wk1") S5
  · rintro σ H ⟨v, as, rfl, hd, S⟩
    rw [List.take_length] at hd S
    wtm_at "st"
    refine ⟨_, S, .inr (.inr ⟨ln, z, rfl, hz, fun _ p2 as2 t kl H S => ?_, fun hn => absurd hd hn⟩)⟩
    have hl2 : as2.length ≤ 33000 := by
      have hzl : z.cps.toList.length ≤ 3000 := by rw [Array.length_toList]; exact hz
      have h1 := (S.tlGet (as := as2) (by wtm_at "pk")).1
      rw [h1]
      exact Nat.le_trans (deeds_len ln _ hd) (Nat.le_trans (Nat.mul_le_mul_left _ hzl) (by decide))
    wtm_at "st"
    refine s_gtup S (by wtm_at "pk") rfl ?_
    wtm_at "st"
    refine s_isL S (by wtm_at "pk") ?_
    wtm_at "st"
    refine s_neLD (as := as2) (bs := as) S (by wtm_at "pk") (by wtm_at "pk") (by wtm_at "pk") (by wtm_at "pk") (deeds_ok hln _) ?_
    wtm_at "st"
    refine s_newL (by wtm_at "sz") S fun nl H S => ?_
    refine s_neNil (xs := []) S (by wtm_at "pk") (by wtm_at "pk") (fun _ z => nomatch z) ?_
    rw [decide_eq_true rfl]
    wtm_at "st"
    refine s_newT (by wtm_at "sz") S fun t3 H S => ?_
    wtm_at "st"
    refine s_append S (by wtm_at "cg") (by rw [List.length_map]; exact Nat.lt_of_le_of_lt hl2 (by decide)) fun H S => ?_
    wtm_at "st"
    refine ⟨ln, z, _, rfl, hz, S, fun _ p3 as3 H S => ?_, fun hn => absurd hd hn⟩
    wtm_at "st"
    refine s_eqLD (as := as3) (bs := as) S (by wtm_at "pk") (by wtm_at "pk") (by wtm_at "pk") (by wtm_at "pk") (deeds_ok hln _) ?_
    exact q H (by wtm_at "wk")
end
end L2.Zs

namespace L2.Zs
open PySem PySem.Spec PyProof.Rows
local macro_rules | `(tactic| wtm_at "pk") => `(tactic| (repeat (first | with_reducible exact Pick.here | with_reducible apply Pick.there)))
local macro_rules | `(tactic| wtm_at "cg") => `(tactic| (repeat (first | with_reducible exact Chg.here | with_reducible apply Chg.there)))
local macro_rules | `(tactic| wtm_at "sa") => `(tactic| (repeat (first | with_reducible exact SetAt.here | with_reducible apply SetAt.there)))
local macro_rules | `(tactic| wtm_at "wk1") => `(tactic| (repeat (first | with_reducible exact Wk.refl | (with_reducible apply Wk.pick; focus (wtm_at "pk"; done)) | with_reducible apply Wk.drop)))
local macro_rules | `(tactic| wtm_at "wk") => `(tactic| (refine Wk.sep ?_ (by assumption); wtm_at "wk1"))
local macro_rules | `(tactic| wtm_at "sz") => `(tactic| first | exact Nat.le_of_ble_eq_true rfl | assumption | omega)
local macro_rules | `(tactic| wtm_at "s1") => `(tactic| first
  | refine Stp.go ?_
  | with_reducible refine s_mod (by first | decide | assumption | omega) ?_
  | with_reducible refine s_mulI (by first | exact cmul_l (by decide) | exact cmul_r (by decide) | (exact cmul_l (by omega)) | (exact cmul_r (by omega))) ?_
  | with_reducible refine s_div (cdiv_of (by decide) (by decide)) ?_
  | with_reducible refine s_pow (cpow_of (by decide) (by decide) (by decide)) ?_
  | with_reducible refine s_lenL (by assumption) (by wtm_at "pk") ?_
  | with_reducible refine s_lenQ (by assumption) (by wtm_at "pk") ?_
  | with_reducible refine s_lenT (by assumption) (by wtm_at "pk") ?_
  | with_reducible refine s_tyL (by assumption) (by wtm_at "pk") ?_)
local macro_rules | `(tactic| wtm_at "st") => `(tactic| (repeat (first | wtm_at "s1" | with_reducible refine s_seq ?_)))
local macro_rules | `(tactic| wtm_at "stc") => `(tactic| (repeat wtm_at "s1"))

def sgn : PySem.Str := " !\"#$&'()*+,-./0123456789:;<=>?@ABCDEFGHIJKLMNOPQRSTUVWXYZ[\\]^_`abcdefghijklmnopqrstuvwxyz{|}~"
theorem sgn_len : sgn.cps.toList.length = 94 := by decide +kernel
section
variable {P : Program} {w : World} {K : PySem.W.Frag} {mg : PySem.Str → Option Value} {base : Heap} {ad : Ad} {Cs : List Addr} {C : Addr} {f : Addr} {fd : FuncData} {tk1 tk2 : Tok}
set_option maxHeartbeats 1000000
theorem ok_law (T : Txt K mg ad tk1 tk2) (c_Ldraws : Cal P w K mg base 2 "_law_draws" (spDraws K)) (c_Lnumber : Cal P w K mg base 1 "_law_number" spNumber) (c_Lnumbers_right : Cal P w K mg base 5 "_law_numbers_right" spNumR) (c_Ltext_right : Cal P w K mg base 5 "_law_text_right" spTextR) (c_Ldialled_right : Cal P w K mg base 5 "_law_dialled_right" spDialR) (F : Fun K "law" "law" s_law f fd) : FnOk P w K mg base (L2.CX P w) 7 f fd ["script"] (spLawK K) := by
  refine F.okX sc_law (fun vs H Q E h => len_law h) (fun cdv A outer s H vs Q E hr h => ?_)
  have tk : Takes (cxOf (L2.CX P w) P w K mg base N_law "law" (defScope s_law) f cdv A outer s H E) (fun cls d _ H => E cls d H) := takes_of rfl rfl rfl rfl
  have po_ : PassesOwn (model P w) (cxOf (L2.CX P w) P w K mg base N_law "law" (defScope s_law) f cdv A outer s H E).A (cxOf (L2.CX P w) P w K mg base N_law "law" (defScope s_law) f cdv A outer s H E).env (cxOf (L2.CX P w) P w K mg base N_law "law" (defScope s_law) f cdv A outer s H E).xe := passes_of rfl
  refine ⟨_, (pss_cons (ps_set (i := 1) sc_law.nd rfl (Or.inl rfl) pe_str)
  (pss_cons (ps_for (po_) rfl (pi_range1 (by rfl) T.b_range (pa_cons pe_int pa_nil)) (pg_name (i := 2) sc_law.nd rfl (Or.inl rfl)) (pss_cons (ps_set (i := 3) sc_law.nd rfl (Or.inl rfl) (z_call c_Ldraws tk hr (by decide) (by rfl) (pa_cons (pv 0) (pa_cons (pv 2) (pa_cons pe_int (pa_cons pe_int pa_nil))))))
  (pss_cons (ps_set (i := 4) sc_law.nd rfl (Or.inl rfl) (pe_op zo_mul (pe_op zo_add (pe_op zo_mul (pe_ix (k_ix (K := K) rfl) (pv 3) pe_int (fun _ _ => rfl)) (pe_op zo_pow pe_int pe_int)) (pe_ix (k_ix (K := K) rfl) (pv 3) pe_int (fun _ _ => rfl))) (pe_ix (k_ix (K := K) rfl) (pe_lst (pa_cons pe_int (pa_cons (pe_un un_neg pe_int) pa_nil))) (pe_op zo_mod (pe_ix (k_ix (K := K) rfl) (pv 3) pe_int (fun _ _ => rfl)) pe_int) (fun _ _ => rfl))))
  (pss_cons (ps_for (po_) rfl (k_list (K := K) rfl (pe_lst (pa_cons (pe_op zo_sub (pe_op zo_mod (pe_ix (k_ix (K := K) rfl) (pv 3) pe_int (fun _ _ => rfl)) pe_int) pe_int) (pa_cons (pv 4) (pa_cons (pe_op zo_mod (pe_op zo_div (pe_ix (k_ix (K := K) rfl) (pv 3) pe_int (fun _ _ => rfl)) pe_int) pe_int) pa_nil))))) (pg_name (i := 5) sc_law.nd rfl (Or.inl rfl)) (pss_one (ps_if (pt_not (pt_val (z_call c_Lnumbers_right tk hr (by decide) (by rfl) (pa_cons (pv 5) pa_nil)))) (pss_one (ps_ret pe_bl)) pss_nil)))
  (pss_cons (ps_set (i := 6) sc_law.nd rfl (Or.inl rfl) (pe_slice sl_str (pe_op zo_repS (z_call c_Lnumber tk hr (by decide) (by rfl) (pa_cons (pe_op zo_add (pe_op zo_mul (pe_ix (k_ix (K := K) rfl) (pv 3) pe_int (fun _ _ => rfl)) (pe_ix (k_ix (K := K) rfl) (pv 3) pe_int (fun _ _ => rfl))) (pe_ix (k_ix (K := K) rfl) (pv 3) pe_int (fun _ _ => rfl))) (pa_cons pe_int pa_nil))) (pe_ix (k_ix (K := K) rfl) (pe_lst (pa_cons pe_int (pa_cons pe_int (pa_cons pe_int (pa_cons pe_int pa_nil))))) (pe_op zo_mod (pe_ix (k_ix (K := K) rfl) (pv 3) pe_int (fun _ _ => rfl)) pe_int) (fun _ _ => rfl))) po_none (po_some (pe_ix (k_ix (K := K) rfl) (pe_lst (pa_cons pe_int (pa_cons pe_int pa_nil))) (pe_op zo_mod (pe_ix (k_ix (K := K) rfl) (pv 3) pe_int (fun _ _ => rfl)) pe_int) (fun _ _ => rfl)))))
  (pss_cons (ps_set (i := 6) sc_law.nd rfl (Or.inl rfl) (pe_slice sl_str (pv 6) (po_some (pe_op zo_mod (pe_ix (k_ix (K := K) rfl) (pv 3) pe_int (fun _ _ => rfl)) pe_int)) po_none))
  (pss_cons (ps_set (i := 7) sc_law.nd rfl (Or.inl rfl) (pe_op zo_mod (pe_ix (k_ix (K := K) rfl) (pv 3) pe_int (fun _ _ => rfl)) (pe_op zo_add (pe_callB (k_len (K := K) rfl) (by rfl) T.b_len (by decide +kernel) (pa_cons (pv 6) pa_nil)) pe_int)))
  (pss_cons (ps_set (i := 8) sc_law.nd rfl (Or.inl rfl) (pe_ix (k_ix (K := K) rfl) (pv 1) (pe_op zo_mod (pe_ix (k_ix (K := K) rfl) (pv 3) pe_int (fun _ _ => rfl)) (pe_callB (k_len (K := K) rfl) (by rfl) T.b_len (by decide +kernel) (pa_cons (pv 1) pa_nil))) (fun _ _ => rfl)))
  (pss_cons (ps_set (i := 9) sc_law.nd rfl (Or.inl rfl) (pe_op zo_add (pe_op zo_add (pe_slice sl_str (pv 6) po_none (po_some (pv 7))) (pv 8)) (pe_slice sl_str (pv 6) (po_some (pv 7)) po_none)))
  (pss_cons (ps_for (po_) rfl (k_list (K := K) rfl (pe_lst (pa_cons pe_str (pa_cons (pv 8) (pa_cons (pe_slice sl_str (pv 6) po_none (po_some pe_int)) (pa_cons (pe_slice sl_str (pv 6) po_none (po_some pe_int)) (pa_cons (pe_slice sl_str (pv 9) po_none (po_some pe_int)) (pa_cons (pe_op zo_add (pv 8) (pv 8)) pa_nil)))))))) (pg_name (i := 10) sc_law.nd rfl (Or.inl rfl)) (pss_one (ps_if (pt_not (pt_val (z_call c_Ltext_right tk hr (by decide) (by rfl) (pa_cons (pv 10) pa_nil)))) (pss_one (ps_ret pe_bl)) pss_nil)))
  (pss_cons (ps_set (i := 11) sc_law.nd rfl (Or.inl rfl) (z_call c_Lnumber tk hr (by decide) (by rfl) (pa_cons (pe_ix (k_ix (K := K) rfl) (pv 3) pe_int (fun _ _ => rfl)) (pa_cons (pe_op zo_add pe_int (pe_op zo_mod (pe_ix (k_ix (K := K) rfl) (pv 3) pe_int (fun _ _ => rfl)) pe_int)) pa_nil))))
  (pss_one (ps_for (po_) rfl (k_list (K := K) rfl (pe_lst (pa_cons pe_str (pa_cons (pv 6) (pa_cons (pv 9) pa_nil))))) (pg_name (i := 10) sc_law.nd rfl (Or.inl rfl)) (pss_one (ps_if (pt_not (pt_val (z_call c_Ldialled_right tk hr (by decide) (by rfl) (pa_cons (pv 11) (pa_cons (pv 10) pa_nil))))) (pss_one (ps_ret pe_bl)) pss_nil)))))))))))))))
  (pss_one (ps_ret pe_bl)))), ?_⟩
  obtain ⟨a, ns, rfl, hS, hl, q⟩ := h
  have S := sep_law hS
  refine s_start (σ := [some (.ref a), none, none, none, none, none, none, none, none, none, none, none]) rfl ?_
  rw [show (" !\"#$&'()*+,-./0123456789:;<=>?@ABCDEFGHIJKLMNOPQRSTUVWXYZ[\\]^_`abcdefghijklmnopqrstuvwxyz{|}~" : PySem.Str) = sgn from rfl]
  wtm_at "st"
  refine s_rng1 (by decide) (by decide) (lp_range (fun i σ H => ∃ v2 v3 v4 v5 v6 v7 v8 v9 v10 v11, σ = [some (.ref a), some (.str sgn), v2, v3, v4, v5, v6, v7, v8, v9, v10, v11] ∧ Sep [sq K a (ns.map V.int)] H) ⟨_, _, _, _, _, _, _, _, _, _, rfl, S⟩ ?_ ?_)
  · rintro i σ H hi ⟨v2, v3, v4, v5, v6, v7, v8, v9, v10, v11, rfl, S⟩
    have hi3 : i < 3 := hi
    wtm_at "st"
    refine ⟨a, ns, i, 8, 27720, _, rfl, S, by omega, by omega, by decide, by decide, cdiv_of (by decide) (by decide), fun row rp H hrl hrow S => ?_⟩
    obtain ⟨r0, mr0, er0, _⟩ := atI_int (ns := row) (i := 0) (by decide) (by omega)
    have br0 := hrow r0 mr0
    obtain ⟨r1, mr1, er1, _⟩ := atI_int (ns := row) (i := 1) (by decide) (by omega)
    have br1 := hrow r1 mr1
    obtain ⟨r2, mr2, er2, _⟩ := atI_int (ns := row) (i := 2) (by decide) (by omega)
    have br2 := hrow r2 mr2
    obtain ⟨r3, mr3, er3, _⟩ := atI_int (ns := row) (i := 3) (by decide) (by omega)
    have br3 := hrow r3 mr3
    obtain ⟨r4, mr4, er4, _⟩ := atI_int (ns := row) (i := 4) (by decide) (by omega)
    have br4 := hrow r4 mr4
    obtain ⟨r5, mr5, er5, _⟩ := atI_int (ns := row) (i := 5) (by decide) (by omega)
    have br5 := hrow r5 mr5
    obtain ⟨r6, mr6, er6, _⟩ := atI_int (ns := row) (i := 6) (by decide) (by omega)
    have br6 := hrow r6 mr6
    obtain ⟨r7, mr7, er7, _⟩ := atI_int (ns := row) (i := 7) (by decide) (by omega)
    have br7 := hrow r7 mr7
    wtm_at "st"
    refine s_ixL S (by wtm_at "pk") er0 ?_
    wtm_at "st"
    refine s_ixL S (by wtm_at "pk") er1 ?_
    wtm_at "st"
    refine s_newL (by wtm_at "sz") S fun w1 H S => ?_
    wtm_at "st"
    refine s_ixL S (by wtm_at "pk") er2 ?_
    wtm_at "st"
    obtain ⟨v, e, hm, _⟩ := atI_lt (xs := [V.int 1, .int (-1)]) (i := r2 % 2) (Int.emod_nonneg _ (by decide)) (Int.emod_lt_of_pos _ (by decide))
    refine s_ixL S (by wtm_at "pk") e ?_
    have hg : ∃ v1 : Int, v = .int v1 ∧ -2 < v1 ∧ v1 < 2 := by
      simp only [List.mem_cons, List.not_mem_nil, or_false] at hm
      rcases hm with rfl | rfl
      · exact ⟨_, rfl, by decide, by decide⟩
      · exact ⟨_, rfl, by decide, by decide⟩
    obtain ⟨v1, rfl, hv1, hv2⟩ := hg
    refine s_mulI (cmul_r (by omega)) ?_
    generalize (r0 * 10 ^ Int.toNat 45 + r1) * v1 = gr
    wtm_at "st"
    refine s_ixL S (by wtm_at "pk") er0 ?_
    wtm_at "st"
    refine s_ixL S (by wtm_at "pk") er2 ?_
    wtm_at "st"
    refine s_newL (by wtm_at "sz") S fun nl H S => ?_
    wtm_at "st"
    generalize r0 % 18 - 3 = g1 at S ⊢
    generalize r2 / 2 % 11 = g2 at S ⊢
    refine s_list S (by wtm_at "pk") (lp_list (xs := [.int g1, .int gr, .int g2]) (fun j σ H => ∃ v5, σ = [some (.ref a), some (.str sgn), some (.int i), some (.ref rp), some (.int gr), v5, v6, v7, v8, v9, v10, v11] ∧ Sep (pt nl (.lst [.int g1, .int gr, .int g2]) :: pt rp (.lst (row.map V.int)) :: sq K a (ns.map V.int) :: []) H) ⟨_, rfl, by wtm_at "wk"⟩ ?_ ?_ ?_)
    · rintro j σ H _ ⟨v5, rfl, S⟩
      exact SqL.of (S.get (by wtm_at "pk"))
    · rintro j x σ H hx ⟨v5, rfl, S⟩
      obtain ⟨m, rfl⟩ : ∃ m : Int, x = .int m := by
        have := List.mem_of_getElem? hx
        simp only [List.mem_cons, List.not_mem_nil, or_false] at this
        rcases this with rfl | rfl | rfl <;> exact ⟨_, rfl⟩
      wtm_at "st"
      refine ⟨m, _, rfl, S, fun H S => ?_⟩
      wtm_at "st"
      exact ⟨_, rfl, S⟩
    rintro σ H ⟨v5, rfl, S⟩
    wtm_at "st"
    refine s_ixL S (by wtm_at "pk") er3 ?_
    wtm_at "st"
    refine s_ixL S (by wtm_at "pk") er4 ?_
    wtm_at "st"
    refine s_ixL S (by wtm_at "pk") er5 ?_
    wtm_at "st"
    refine ⟨_, 20, rfl, by decide, by decide, fun z0 hz0 => ?_⟩
    wtm_at "st"
    refine s_newL (by wtm_at "sz") S fun w2 H S => ?_
    wtm_at "st"
    refine s_ixL S (by wtm_at "pk") er2 ?_
    wtm_at "st"
    obtain ⟨v, e, hm, _⟩ := atI_lt (xs := [V.int 1, .int 9, .int 1, .int 60]) (i := r2 % 4) (Int.emod_nonneg _ (by decide)) (Int.emod_lt_of_pos _ (by decide))
    refine s_ixL S (by wtm_at "pk") e ?_
    have hg : ∃ v1 : Int, v = .int v1 ∧ 1 ≤ v1 ∧ v1 ≤ 60 := by
      simp only [List.mem_cons, List.not_mem_nil, or_false] at hm
      rcases hm with rfl | rfl | rfl | rfl <;> exact ⟨_, rfl, by decide, by decide⟩
    obtain ⟨kk, rfl, hk1, hk2⟩ := hg
    refine ⟨z0, kk, rfl, rfl, hk1, by omega, by rw [hz0.1]; decide, fun z1 hz1 => ?_⟩
    have l1 : z1.length ≤ 1200 := by
      rw [hz0.1] at hz1
      refine Nat.le_trans hz1 ?_
      show 20 * kk.toNat ≤ 1200
      omega
    wtm_at "st"
    refine s_newL (by wtm_at "sz") S fun w3 H S => ?_
    wtm_at "st"
    refine s_ixL S (by wtm_at "pk") er4 ?_
    wtm_at "st"
    obtain ⟨v, e, hm, _⟩ := atI_lt (xs := [V.int 21, .int 1200]) (i := r4 % 2) (Int.emod_nonneg _ (by decide)) (Int.emod_lt_of_pos _ (by decide))
    refine s_ixL S (by wtm_at "pk") e ?_
    obtain ⟨v1, rfl⟩ : ∃ v1 : Int, v = .int v1 := by
      simp only [List.mem_cons, List.not_mem_nil, or_false] at hm
      rcases hm with rfl | rfl <;> exact ⟨_, rfl⟩
    wtm_at "st"
    refine s_slS (Nat.le_trans l1 (by decide)) fun z2 l2 => ?_
    wtm_at "st"
    refine s_ixL S (by wtm_at "pk") er6 ?_
    wtm_at "st"
    refine s_slS (Nat.le_trans (Nat.le_trans l2 l1) (by decide)) fun z l3 => ?_
    have lz : z.length ≤ 1200 := Nat.le_trans l3 (Nat.le_trans l2 l1)
    wtm_at "st"
    refine s_ixL S (by wtm_at "pk") er7 ?_
    wtm_at "st"
    refine s_lenS (Nat.le_trans lz (by decide)) ?_
    wtm_at "st"
    generalize r7 % ((z.length : Int) + 1) = at_
    refine s_ixL S (by wtm_at "pk") er5 ?_
    wtm_at "st"
    refine s_lenS (by show sgn.cps.size ≤ sizeLine; rw [← Array.length_toList, sgn_len]; decide) ?_
    have sl : (sgn.length : Int) = 94 := by
      show ((sgn.cps.size : Nat) : Int) = _
      rw [← Array.length_toList, sgn_len]
      rfl
    rw [sl]
    wtm_at "st"
    obtain ⟨c, ec, _, _⟩ := atI_lt (xs := sgn.cps.toList) (i := r5 % 94) (Int.emod_nonneg _ (by decide)) (by rw [sgn_len]; exact Int.emod_lt_of_pos _ (by decide))
    refine s_ixS (by show sgn.cps.size ≤ sizeLine; rw [← Array.length_toList, sgn_len]; decide) ec ?_
    wtm_at "st"
    have l1c : (⟨#[c]⟩ : PySem.Str).length = 1 := rfl
    refine s_slS (Nat.le_trans lz (by decide)) fun z3 h3 => ?_
    wtm_at "st"
    refine s_addS (Nat.le_trans (show z3.length + (⟨#[c]⟩ : PySem.Str).length ≤ 1201 by omega) (by decide)) ?_
    wtm_at "st"
    refine s_slS (Nat.le_trans lz (by decide)) fun z4 h4 => ?_
    have l6 : (z3 ++ (⟨#[c]⟩ : PySem.Str)).length ≤ 1201 := by rw [app_len]; omega
    have l5 : (z3 ++ (⟨#[c]⟩ : PySem.Str) ++ z4).length ≤ 2401 := by rw [app_len]; omega
    refine s_addS (Nat.le_trans (show (z3 ++ (⟨#[c]⟩ : PySem.Str)).length + z4.length ≤ 2401 by omega) (by decide)) ?_
    generalize z3 ++ (⟨#[c]⟩ : PySem.Str) ++ z4 = sp at l5 ⊢
    wtm_at "st"
    refine s_slS (Nat.le_trans lz (by decide)) fun y1 g1' => ?_
    wtm_at "st"
    refine s_slS (Nat.le_trans lz (by decide)) fun y2 g2' => ?_
    wtm_at "st"
    refine s_slS (Nat.le_trans l5 (by decide)) fun y3 g3' => ?_
    wtm_at "st"
    refine s_addS (by show 1 + 1 ≤ sizeLine; decide) ?_
    wtm_at "st"
    refine s_newL (by wtm_at "sz") S fun tl_ H S => ?_
    wtm_at "st"
    have el : ∀ x ∈ [V.str "", .str ⟨#[c]⟩, .str y1, .str y2, .str y3, .str ((⟨#[c]⟩ : PySem.Str) ++ ⟨#[c]⟩)], ∃ t : PySem.Str, x = .str t ∧ t.length ≤ 3000 := by
      intro x hx
      simp only [List.mem_cons, List.not_mem_nil, or_false] at hx
      rcases hx with rfl | rfl | rfl | rfl | rfl | rfl
      · exact ⟨_, rfl, by decide +kernel⟩
      · exact ⟨_, rfl, by show 1 ≤ 3000; decide⟩
      · exact ⟨_, rfl, by omega⟩
      · exact ⟨_, rfl, by omega⟩
      · exact ⟨_, rfl, by omega⟩
      · exact ⟨_, rfl, by show 1 + 1 ≤ 3000; decide⟩
    generalize [V.str "", .str ⟨#[c]⟩, .str y1, .str y2, .str y3, .str ((⟨#[c]⟩ : PySem.Str) ++ ⟨#[c]⟩)] = tx at S el
    refine s_list S (by wtm_at "pk") (lp_list (xs := tx) (fun j σ H => ∃ v10, σ = [some (.ref a), some (.str sgn), some (.int i), some (.ref rp), some (.int gr), v5, some (.str z), some (.int at_), some (.str ⟨#[c]⟩), some (.str sp), v10, v11] ∧ Sep (pt tl_ (.lst tx) :: pt rp (.lst (row.map V.int)) :: sq K a (ns.map V.int) :: []) H) ⟨_, rfl, by wtm_at "wk"⟩ ?_ ?_ ?_)
    · rintro j σ H _ ⟨v10, rfl, S⟩
      exact SqL.of (S.get (by wtm_at "pk"))
    · rintro j x σ H hx ⟨v10, rfl, S⟩
      obtain ⟨t, rfl, ht⟩ := el x (List.mem_of_getElem? hx)
      wtm_at "st"
      refine ⟨t, _, rfl, by omega, S, fun H S => ?_⟩
      wtm_at "st"
      exact ⟨_, rfl, S⟩
    rintro σ H ⟨v10, rfl, S⟩
    wtm_at "st"
    refine s_ixL S (by wtm_at "pk") er1 ?_
    wtm_at "st"
    refine s_ixL S (by wtm_at "pk") er2 ?_
    wtm_at "st"
    refine ⟨_, _, rfl, by omega, by omega, fun ln hln => ?_⟩
    wtm_at "st"
    refine s_newL (by wtm_at "sz") S fun tm H S => ?_
    wtm_at "st"
    have el2 : ∀ x ∈ [V.str "", .str z, .str sp], ∃ t : PySem.Str, x = .str t ∧ t.length ≤ 3000 := by
      intro x hx
      simp only [List.mem_cons, List.not_mem_nil, or_false] at hx
      rcases hx with rfl | rfl | rfl
      · exact ⟨_, rfl, by decide +kernel⟩
      · exact ⟨_, rfl, by omega⟩
      · exact ⟨_, rfl, by omega⟩
    generalize [V.str "", .str z, .str sp] = ty at S el2
    refine s_list S (by wtm_at "pk") (lp_list (xs := ty) (fun j σ H => ∃ v10, σ = [some (.ref a), some (.str sgn), some (.int i), some (.ref rp), some (.int gr), v5, some (.str z), some (.int at_), some (.str ⟨#[c]⟩), some (.str sp), v10, some (.str ln)] ∧ Sep (pt tm (.lst ty) :: pt rp (.lst (row.map V.int)) :: sq K a (ns.map V.int) :: []) H) ⟨_, rfl, by wtm_at "wk"⟩ ?_ ?_ ?_)
    · rintro j σ H _ ⟨v10, rfl, S⟩
      exact SqL.of (S.get (by wtm_at "pk"))
    · rintro j x σ H hx ⟨v10, rfl, S⟩
      obtain ⟨t, rfl, ht⟩ := el2 x (List.mem_of_getElem? hx)
      wtm_at "st"
      refine ⟨_, ln, t, _, rfl, hln, ht, S, fun H S => ?_⟩
      wtm_at "st"
      exact ⟨_, rfl, S⟩
    rintro σ H ⟨v10, rfl, S⟩
    wtm_at "st"
    exact ⟨_, _, _, _, _, _, _, _, _, _, rfl, by wtm_at "wk"⟩
  · rintro σ H ⟨v2, v3, v4, v5, v6, v7, v8, v9, v10, v11, rfl, S⟩
    wtm_at "st"
    exact q H
end
end L2.Zs
namespace L2.Zs
open PySem PySem.Spec PyProof.Rows
theorem kit_not {K : PySem.W.Frag} {D C : Addr} (s : PySem.W.subIn K (.ref D) (.ref C) = some false) (sc : PySem.W.subIn K (.ref C) (.ref C) = some true) (i : PySem.W.isClsIn K C = true) (t : PySem.W.typeIn K (.ref C) = some (.type "type")) : PySem.W.kitOne K (.ref D) (.ref C) = some false :=
  kit_ref (fun h => by
    have e : D = C := by simpa using h
    subst e
    rw [s] at sc
    cases sc) i t s
set_option maxHeartbeats 8000000 in
theorem all_mk {l : PySem.W.OpenLaw} {w : World} {K : PySem.W.Frag} {h : Heap} {mg : PySem.Str → Option Value} {fa : Addr} (X : K.In h) (G : h.Ns mainGlobals mg) (hfa : mg "law" = some (.ref fa))
    {C_HallError C_NoFigure C_BadPlan C_NoText C_NoSwitch C_NoLine C_NotSo C_NoRow : Addr}
    {k_tk1 : Tok}
    {k_tk2 : Tok}
    {f_Lcell : Addr} {od_Lcell an_Lcell : Option Addr} {sl_Lcell : Array (Option Value)} {oc_Lcell kV_Lcell dc_Lcell pm_Lcell cd_Lcell ct_Lcell : Value}
    {f_Ldraws : Addr} {od_Ldraws an_Ldraws : Option Addr} {sl_Ldraws : Array (Option Value)} {oc_Ldraws kV_Ldraws dc_Ldraws pm_Ldraws cd_Ldraws ct_Ldraws : Value}
    {f_Lwhole : Addr} {od_Lwhole an_Lwhole : Option Addr} {sl_Lwhole : Array (Option Value)} {oc_Lwhole kV_Lwhole dc_Lwhole pm_Lwhole cd_Lwhole ct_Lwhole : Value}
    {f_Lnumber : Addr} {od_Lnumber an_Lnumber : Option Addr} {sl_Lnumber : Array (Option Value)} {oc_Lnumber kV_Lnumber dc_Lnumber pm_Lnumber cd_Lnumber ct_Lnumber : Value}
    {f_are_figures : Addr} {od_are_figures an_are_figures : Option Addr} {sl_are_figures : Array (Option Value)} {oc_are_figures kV_are_figures dc_are_figures pm_are_figures cd_are_figures ct_are_figures : Value}
    {f_figure_of : Addr} {od_figure_of an_figure_of : Option Addr} {sl_figure_of : Array (Option Value)} {oc_figure_of kV_figure_of dc_figure_of pm_figure_of cd_figure_of ct_figure_of : Value}
    {f_pulses_of : Addr} {od_pulses_of an_pulses_of : Option Addr} {sl_pulses_of : Array (Option Value)} {oc_pulses_of kV_pulses_of dc_pulses_of pm_pulses_of cd_pulses_of ct_pulses_of : Value}
    {f_dialled : Addr} {od_dialled an_dialled : Option Addr} {sl_dialled : Array (Option Value)} {oc_dialled kV_dialled dc_dialled pm_dialled cd_dialled ct_dialled : Value}
    {f_Ltold : Addr} {od_Ltold an_Ltold : Option Addr} {sl_Ltold : Array (Option Value)} {oc_Ltold kV_Ltold dc_Ltold pm_Ltold cd_Ltold ct_Ltold : Value}
    {f_Lnumbers_right : Addr} {od_Lnumbers_right an_Lnumbers_right : Option Addr} {sl_Lnumbers_right : Array (Option Value)} {oc_Lnumbers_right kV_Lnumbers_right dc_Lnumbers_right pm_Lnumbers_right cd_Lnumbers_right ct_Lnumbers_right : Value}
    {f_Ltext_right : Addr} {od_Ltext_right an_Ltext_right : Option Addr} {sl_Ltext_right : Array (Option Value)} {oc_Ltext_right kV_Ltext_right dc_Ltext_right pm_Ltext_right cd_Ltext_right ct_Ltext_right : Value}
    {f_Ldialled_right : Addr} {od_Ldialled_right an_Ldialled_right : Option Addr} {sl_Ldialled_right : Array (Option Value)} {oc_Ldialled_right kV_Ldialled_right dc_Ldialled_right pm_Ldialled_right cd_Ldialled_right ct_Ldialled_right : Value}
    {f_law : Addr} {od_law an_law : Option Addr} {sl_law : Array (Option Value)} {oc_law kV_law dc_law pm_law cd_law ct_law : Value}
    (b_len : PySem.W.nsIn K mainGlobals "len" = some none)
    (b_range : PySem.W.nsIn K mainGlobals "range" = some none)
    (b_isinstance : PySem.W.nsIn K mainGlobals "isinstance" = some none)
    (b_int : PySem.W.nsIn K mainGlobals "int" = some none)
    (b_str : PySem.W.nsIn K mainGlobals "str" = some none)
    (b_bool : PySem.W.nsIn K mainGlobals "bool" = some none)
    (b_list : PySem.W.nsIn K mainGlobals "list" = some none)
    (b_ValueError : PySem.W.nsIn K mainGlobals "ValueError" = some none)
    (g_SIGNS : PySem.W.nsIn K mainGlobals "SIGNS" = some (some (.str "0123456789" k_tk1)))
    (g_MOST_PULSES : PySem.W.nsIn K mainGlobals "MOST_PULSES" = some (some (.int 10 k_tk2)))
    (gx_HallError : PySem.W.nsIn K mainGlobals "HallError" = some (some (.ref C_HallError)))
    (ex_HallError : PySem.W.excIn K C_HallError [.type "ValueError", .type "Exception", .type "BaseException", .type "object"] "ValueError.__new__" = true)
    (kx_HallError : PySem.W.keepIn K (.ref C_HallError) = true)
    (bx_HallError : PySem.W.subIn K (.ref C_HallError) (.type "BaseException") = some true)
    (tx_HallError : PySem.W.typeIn K (.ref C_HallError) = some (.type "type"))
    (ix_HallError : PySem.W.isClsIn K C_HallError = true)
    (gx_NoFigure : PySem.W.nsIn K mainGlobals "NoFigure" = some (some (.ref C_NoFigure)))
    (ex_NoFigure : PySem.W.excIn K C_NoFigure [.type "ValueError", .type "Exception", .type "BaseException", .type "object"] "ValueError.__new__" = true)
    (kx_NoFigure : PySem.W.keepIn K (.ref C_NoFigure) = true)
    (bx_NoFigure : PySem.W.subIn K (.ref C_NoFigure) (.type "BaseException") = some true)
    (tx_NoFigure : PySem.W.typeIn K (.ref C_NoFigure) = some (.type "type"))
    (ix_NoFigure : PySem.W.isClsIn K C_NoFigure = true)
    (gx_BadPlan : PySem.W.nsIn K mainGlobals "BadPlan" = some (some (.ref C_BadPlan)))
    (ex_BadPlan : PySem.W.excIn K C_BadPlan [.type "ValueError", .type "Exception", .type "BaseException", .type "object"] "ValueError.__new__" = true)
    (kx_BadPlan : PySem.W.keepIn K (.ref C_BadPlan) = true)
    (bx_BadPlan : PySem.W.subIn K (.ref C_BadPlan) (.type "BaseException") = some true)
    (tx_BadPlan : PySem.W.typeIn K (.ref C_BadPlan) = some (.type "type"))
    (ix_BadPlan : PySem.W.isClsIn K C_BadPlan = true)
    (gx_NoText : PySem.W.nsIn K mainGlobals "NoText" = some (some (.ref C_NoText)))
    (ex_NoText : PySem.W.excIn K C_NoText [.type "ValueError", .type "Exception", .type "BaseException", .type "object"] "ValueError.__new__" = true)
    (kx_NoText : PySem.W.keepIn K (.ref C_NoText) = true)
    (bx_NoText : PySem.W.subIn K (.ref C_NoText) (.type "BaseException") = some true)
    (tx_NoText : PySem.W.typeIn K (.ref C_NoText) = some (.type "type"))
    (ix_NoText : PySem.W.isClsIn K C_NoText = true)
    (gx_NoSwitch : PySem.W.nsIn K mainGlobals "NoSwitch" = some (some (.ref C_NoSwitch)))
    (ex_NoSwitch : PySem.W.excIn K C_NoSwitch [.type "ValueError", .type "Exception", .type "BaseException", .type "object"] "ValueError.__new__" = true)
    (kx_NoSwitch : PySem.W.keepIn K (.ref C_NoSwitch) = true)
    (bx_NoSwitch : PySem.W.subIn K (.ref C_NoSwitch) (.type "BaseException") = some true)
    (tx_NoSwitch : PySem.W.typeIn K (.ref C_NoSwitch) = some (.type "type"))
    (ix_NoSwitch : PySem.W.isClsIn K C_NoSwitch = true)
    (gx_NoLine : PySem.W.nsIn K mainGlobals "NoLine" = some (some (.ref C_NoLine)))
    (ex_NoLine : PySem.W.excIn K C_NoLine [.type "ValueError", .type "Exception", .type "BaseException", .type "object"] "ValueError.__new__" = true)
    (kx_NoLine : PySem.W.keepIn K (.ref C_NoLine) = true)
    (bx_NoLine : PySem.W.subIn K (.ref C_NoLine) (.type "BaseException") = some true)
    (tx_NoLine : PySem.W.typeIn K (.ref C_NoLine) = some (.type "type"))
    (ix_NoLine : PySem.W.isClsIn K C_NoLine = true)
    (gx_NotSo : PySem.W.nsIn K mainGlobals "NotSo" = some (some (.ref C_NotSo)))
    (ex_NotSo : PySem.W.excIn K C_NotSo [.type "ValueError", .type "Exception", .type "BaseException", .type "object"] "ValueError.__new__" = true)
    (kx_NotSo : PySem.W.keepIn K (.ref C_NotSo) = true)
    (bx_NotSo : PySem.W.subIn K (.ref C_NotSo) (.type "BaseException") = some true)
    (tx_NotSo : PySem.W.typeIn K (.ref C_NotSo) = some (.type "type"))
    (ix_NotSo : PySem.W.isClsIn K C_NotSo = true)
    (gx_NoRow : PySem.W.nsIn K mainGlobals "NoRow" = some (some (.ref C_NoRow)))
    (ex_NoRow : PySem.W.excIn K C_NoRow [.type "ValueError", .type "Exception", .type "BaseException", .type "object"] "ValueError.__new__" = true)
    (kx_NoRow : PySem.W.keepIn K (.ref C_NoRow) = true)
    (bx_NoRow : PySem.W.subIn K (.ref C_NoRow) (.type "BaseException") = some true)
    (tx_NoRow : PySem.W.typeIn K (.ref C_NoRow) = some (.type "type"))
    (ix_NoRow : PySem.W.isClsIn K C_NoRow = true)
    (hg_NoFigure : PySem.W.findIn K (.ref C_NoFigure) "__getattribute__" = some (some (.builtin "BaseException.__getattribute__")))
    (hk_NoFigure : PySem.W.findIn K (.ref C_NoFigure) "__getattr__" = some none)
    (hd_NoFigure : PySem.W.hasDictIn K C_NoFigure = true)
    (ha_NoFigure : PySem.W.findIn K (.ref C_NoFigure) "__class__" = some (some (.builtin "object.__class__")))
    (hn_ : PySem.W.specialIn K (.builtin "object.__class__") "__get__" = some (some (.builtin "getset_descriptor.__get__")))
    (ht_ : PySem.W.takesIn K (.builtin "object.__class__") = some true)
    (hm_NoFigure : PySem.W.mroIn K C_NoFigure (.type "object") = some true)
    (ve_NoFigure : PySem.W.subIn K (.ref C_NoFigure) (.type "ValueError") = some true)
    (su_NoFigure_HallError : PySem.W.subIn K (.ref C_NoFigure) (.ref C_HallError) = some true)
    (su_NoFigure_NoFigure : PySem.W.subIn K (.ref C_NoFigure) (.ref C_NoFigure) = some true)
    (su_NoFigure_BadPlan : PySem.W.subIn K (.ref C_NoFigure) (.ref C_BadPlan) = some false)
    (su_BadPlan_BadPlan : PySem.W.subIn K (.ref C_BadPlan) (.ref C_BadPlan) = some true)
    (su_NoFigure_NoLine : PySem.W.subIn K (.ref C_NoFigure) (.ref C_NoLine) = some false)
    (su_NoLine_NoLine : PySem.W.subIn K (.ref C_NoLine) (.ref C_NoLine) = some true)
    (su_NoFigure_NoRow : PySem.W.subIn K (.ref C_NoFigure) (.ref C_NoRow) = some false)
    (su_NoRow_NoRow : PySem.W.subIn K (.ref C_NoRow) (.ref C_NoRow) = some true)
    (su_NoFigure_NoSwitch : PySem.W.subIn K (.ref C_NoFigure) (.ref C_NoSwitch) = some false)
    (su_NoSwitch_NoSwitch : PySem.W.subIn K (.ref C_NoSwitch) (.ref C_NoSwitch) = some true)
    (su_NoFigure_NoText : PySem.W.subIn K (.ref C_NoFigure) (.ref C_NoText) = some false)
    (su_NoText_NoText : PySem.W.subIn K (.ref C_NoText) (.ref C_NoText) = some true)
    (su_NoFigure_NotSo : PySem.W.subIn K (.ref C_NoFigure) (.ref C_NotSo) = some false)
    (su_NotSo_NotSo : PySem.W.subIn K (.ref C_NotSo) (.ref C_NotSo) = some true)
    (a_Lcell : PySem.W.nsIn K mainGlobals "_law_cell" = some (some (.ref f_Lcell)))
    (l_Lcell : K.lookup f_Lcell = some ⟨oc_Lcell, od_Lcell, .func (PySem.W.fnOf "_law_cell" "_law_cell" (defArgs s_Lcell) (defBody s_Lcell) (defScope s_Lcell) .none kV_Lcell dc_Lcell pm_Lcell an_Lcell cd_Lcell ct_Lcell), sl_Lcell⟩)
    (c_Lcell : PySem.W.codeIn K cd_Lcell "_law_cell" = true)
    (k_Lcell : PySem.W.keepIn K (.ref f_Lcell) = true)
    (a_Ldraws : PySem.W.nsIn K mainGlobals "_law_draws" = some (some (.ref f_Ldraws)))
    (l_Ldraws : K.lookup f_Ldraws = some ⟨oc_Ldraws, od_Ldraws, .func (PySem.W.fnOf "_law_draws" "_law_draws" (defArgs s_Ldraws) (defBody s_Ldraws) (defScope s_Ldraws) .none kV_Ldraws dc_Ldraws pm_Ldraws an_Ldraws cd_Ldraws ct_Ldraws), sl_Ldraws⟩)
    (c_Ldraws : PySem.W.codeIn K cd_Ldraws "_law_draws" = true)
    (k_Ldraws : PySem.W.keepIn K (.ref f_Ldraws) = true)
    (a_Lwhole : PySem.W.nsIn K mainGlobals "_law_whole" = some (some (.ref f_Lwhole)))
    (l_Lwhole : K.lookup f_Lwhole = some ⟨oc_Lwhole, od_Lwhole, .func (PySem.W.fnOf "_law_whole" "_law_whole" (defArgs s_Lwhole) (defBody s_Lwhole) (defScope s_Lwhole) .none kV_Lwhole dc_Lwhole pm_Lwhole an_Lwhole cd_Lwhole ct_Lwhole), sl_Lwhole⟩)
    (c_Lwhole : PySem.W.codeIn K cd_Lwhole "_law_whole" = true)
    (k_Lwhole : PySem.W.keepIn K (.ref f_Lwhole) = true)
    (a_Lnumber : PySem.W.nsIn K mainGlobals "_law_number" = some (some (.ref f_Lnumber)))
    (l_Lnumber : K.lookup f_Lnumber = some ⟨oc_Lnumber, od_Lnumber, .func (PySem.W.fnOf "_law_number" "_law_number" (defArgs s_Lnumber) (defBody s_Lnumber) (defScope s_Lnumber) .none kV_Lnumber dc_Lnumber pm_Lnumber an_Lnumber cd_Lnumber ct_Lnumber), sl_Lnumber⟩)
    (c_Lnumber : PySem.W.codeIn K cd_Lnumber "_law_number" = true)
    (k_Lnumber : PySem.W.keepIn K (.ref f_Lnumber) = true)
    (a_are_figures : PySem.W.nsIn K mainGlobals "are_figures" = some (some (.ref f_are_figures)))
    (l_are_figures : K.lookup f_are_figures = some ⟨oc_are_figures, od_are_figures, .func (PySem.W.fnOf "are_figures" "are_figures" (defArgs s_are_figures) (defBody s_are_figures) (defScope s_are_figures) .none kV_are_figures dc_are_figures pm_are_figures an_are_figures cd_are_figures ct_are_figures), sl_are_figures⟩)
    (c_are_figures : PySem.W.codeIn K cd_are_figures "are_figures" = true)
    (k_are_figures : PySem.W.keepIn K (.ref f_are_figures) = true)
    (a_figure_of : PySem.W.nsIn K mainGlobals "figure_of" = some (some (.ref f_figure_of)))
    (l_figure_of : K.lookup f_figure_of = some ⟨oc_figure_of, od_figure_of, .func (PySem.W.fnOf "figure_of" "figure_of" (defArgs s_figure_of) (defBody s_figure_of) (defScope s_figure_of) .none kV_figure_of dc_figure_of pm_figure_of an_figure_of cd_figure_of ct_figure_of), sl_figure_of⟩)
    (c_figure_of : PySem.W.codeIn K cd_figure_of "figure_of" = true)
    (k_figure_of : PySem.W.keepIn K (.ref f_figure_of) = true)
    (a_pulses_of : PySem.W.nsIn K mainGlobals "pulses_of" = some (some (.ref f_pulses_of)))
    (l_pulses_of : K.lookup f_pulses_of = some ⟨oc_pulses_of, od_pulses_of, .func (PySem.W.fnOf "pulses_of" "pulses_of" (defArgs s_pulses_of) (defBody s_pulses_of) (defScope s_pulses_of) .none kV_pulses_of dc_pulses_of pm_pulses_of an_pulses_of cd_pulses_of ct_pulses_of), sl_pulses_of⟩)
    (c_pulses_of : PySem.W.codeIn K cd_pulses_of "pulses_of" = true)
    (k_pulses_of : PySem.W.keepIn K (.ref f_pulses_of) = true)
    (a_dialled : PySem.W.nsIn K mainGlobals "dialled" = some (some (.ref f_dialled)))
    (l_dialled : K.lookup f_dialled = some ⟨oc_dialled, od_dialled, .func (PySem.W.fnOf "dialled" "dialled" (defArgs s_dialled) (defBody s_dialled) (defScope s_dialled) .none kV_dialled dc_dialled pm_dialled an_dialled cd_dialled ct_dialled), sl_dialled⟩)
    (c_dialled : PySem.W.codeIn K cd_dialled "dialled" = true)
    (k_dialled : PySem.W.keepIn K (.ref f_dialled) = true)
    (a_Ltold : PySem.W.nsIn K mainGlobals "_law_told" = some (some (.ref f_Ltold)))
    (l_Ltold : K.lookup f_Ltold = some ⟨oc_Ltold, od_Ltold, .func (PySem.W.fnOf "_law_told" "_law_told" (defArgs s_Ltold) (defBody s_Ltold) (defScope s_Ltold) .none kV_Ltold dc_Ltold pm_Ltold an_Ltold cd_Ltold ct_Ltold), sl_Ltold⟩)
    (c_Ltold : PySem.W.codeIn K cd_Ltold "_law_told" = true)
    (k_Ltold : PySem.W.keepIn K (.ref f_Ltold) = true)
    (a_Lnumbers_right : PySem.W.nsIn K mainGlobals "_law_numbers_right" = some (some (.ref f_Lnumbers_right)))
    (l_Lnumbers_right : K.lookup f_Lnumbers_right = some ⟨oc_Lnumbers_right, od_Lnumbers_right, .func (PySem.W.fnOf "_law_numbers_right" "_law_numbers_right" (defArgs s_Lnumbers_right) (defBody s_Lnumbers_right) (defScope s_Lnumbers_right) .none kV_Lnumbers_right dc_Lnumbers_right pm_Lnumbers_right an_Lnumbers_right cd_Lnumbers_right ct_Lnumbers_right), sl_Lnumbers_right⟩)
    (c_Lnumbers_right : PySem.W.codeIn K cd_Lnumbers_right "_law_numbers_right" = true)
    (k_Lnumbers_right : PySem.W.keepIn K (.ref f_Lnumbers_right) = true)
    (a_Ltext_right : PySem.W.nsIn K mainGlobals "_law_text_right" = some (some (.ref f_Ltext_right)))
    (l_Ltext_right : K.lookup f_Ltext_right = some ⟨oc_Ltext_right, od_Ltext_right, .func (PySem.W.fnOf "_law_text_right" "_law_text_right" (defArgs s_Ltext_right) (defBody s_Ltext_right) (defScope s_Ltext_right) .none kV_Ltext_right dc_Ltext_right pm_Ltext_right an_Ltext_right cd_Ltext_right ct_Ltext_right), sl_Ltext_right⟩)
    (c_Ltext_right : PySem.W.codeIn K cd_Ltext_right "_law_text_right" = true)
    (k_Ltext_right : PySem.W.keepIn K (.ref f_Ltext_right) = true)
    (a_Ldialled_right : PySem.W.nsIn K mainGlobals "_law_dialled_right" = some (some (.ref f_Ldialled_right)))
    (l_Ldialled_right : K.lookup f_Ldialled_right = some ⟨oc_Ldialled_right, od_Ldialled_right, .func (PySem.W.fnOf "_law_dialled_right" "_law_dialled_right" (defArgs s_Ldialled_right) (defBody s_Ldialled_right) (defScope s_Ldialled_right) .none kV_Ldialled_right dc_Ldialled_right pm_Ldialled_right an_Ldialled_right cd_Ldialled_right ct_Ldialled_right), sl_Ldialled_right⟩)
    (c_Ldialled_right : PySem.W.codeIn K cd_Ldialled_right "_law_dialled_right" = true)
    (k_Ldialled_right : PySem.W.keepIn K (.ref f_Ldialled_right) = true)
    (a_law : PySem.W.nsIn K mainGlobals "law" = some (some (.ref f_law)))
    (l_law : K.lookup f_law = some ⟨oc_law, od_law, .func (PySem.W.fnOf "law" "law" (defArgs s_law) (defBody s_law) (defScope s_law) .none kV_law dc_law pm_law an_law cd_law ct_law), sl_law⟩)
    (c_law : PySem.W.codeIn K cd_law "law" = true)
    (k_law : PySem.W.keepIn K (.ref f_law) = true)
    : ∃ fd : FuncData, (∀ (s : Shared) (v : Value), BindsTo s fd ⟨[v], []⟩ [("script", v)]) ∧ ∀ base : Heap, K.In base → base.Ns mainGlobals mg → FnOk l.prog w K mg base (L2.CX l.prog w) 7 fa fd ["script"] (spLawK K) := by
  have e := hfa.symm.trans (PySem.W.mg_of X G a_law)
  cases e
  have T : Txt K mg ⟨C_HallError, C_NoFigure, C_BadPlan, C_NoText, C_NoSwitch, C_NoLine, C_NotSo, C_NoRow⟩ k_tk1 k_tk2 := { b_len := PySem.W.mg_none_of X G b_len, b_range := PySem.W.mg_none_of X G b_range, b_isinstance := PySem.W.mg_none_of X G b_isinstance, b_int := PySem.W.mg_none_of X G b_int, b_str := PySem.W.mg_none_of X G b_str, b_bool := PySem.W.mg_none_of X G b_bool, b_list := PySem.W.mg_none_of X G b_list, b_ValueError := PySem.W.mg_none_of X G b_ValueError, g_SIGNS := PySem.W.mg_of X G g_SIGNS, g_MOST_PULSES := PySem.W.mg_of X G g_MOST_PULSES, x_HallError := ⟨ex_HallError, PySem.W.mg_of X G gx_HallError, kx_HallError, bx_HallError, tx_HallError, ix_HallError⟩, x_NoFigure := ⟨ex_NoFigure, PySem.W.mg_of X G gx_NoFigure, kx_NoFigure, bx_NoFigure, tx_NoFigure, ix_NoFigure⟩, x_BadPlan := ⟨ex_BadPlan, PySem.W.mg_of X G gx_BadPlan, kx_BadPlan, bx_BadPlan, tx_BadPlan, ix_BadPlan⟩, x_NoText := ⟨ex_NoText, PySem.W.mg_of X G gx_NoText, kx_NoText, bx_NoText, tx_NoText, ix_NoText⟩, x_NoSwitch := ⟨ex_NoSwitch, PySem.W.mg_of X G gx_NoSwitch, kx_NoSwitch, bx_NoSwitch, tx_NoSwitch, ix_NoSwitch⟩, x_NoLine := ⟨ex_NoLine, PySem.W.mg_of X G gx_NoLine, kx_NoLine, bx_NoLine, tx_NoLine, ix_NoLine⟩, x_NotSo := ⟨ex_NotSo, PySem.W.mg_of X G gx_NotSo, kx_NotSo, bx_NotSo, tx_NotSo, ix_NotSo⟩, x_NoRow := ⟨ex_NoRow, PySem.W.mg_of X G gx_NoRow, kx_NoRow, bx_NoRow, tx_NoRow, ix_NoRow⟩, i_NoFigure := ⟨⟨hg_NoFigure, hk_NoFigure, bx_NoFigure, hd_NoFigure, ha_NoFigure, hn_, ht_, hm_NoFigure⟩, ve_NoFigure⟩, e_NoFigure := exm_of' bx_HallError ix_HallError tx_HallError su_NoFigure_HallError, k_NoFigure := kit_ref (fun _ => rfl) ix_NoFigure tx_NoFigure su_NoFigure_NoFigure, n_NoFigure := List.forall_mem_cons.mpr ⟨kit_not su_NoFigure_BadPlan su_BadPlan_BadPlan ix_BadPlan tx_BadPlan, List.forall_mem_cons.mpr ⟨kit_not su_NoFigure_NoLine su_NoLine_NoLine ix_NoLine tx_NoLine, List.forall_mem_cons.mpr ⟨kit_not su_NoFigure_NoRow su_NoRow_NoRow ix_NoRow tx_NoRow, List.forall_mem_cons.mpr ⟨kit_not su_NoFigure_NoSwitch su_NoSwitch_NoSwitch ix_NoSwitch tx_NoSwitch, List.forall_mem_cons.mpr ⟨kit_not su_NoFigure_NoText su_NoText_NoText ix_NoText tx_NoText, List.forall_mem_cons.mpr ⟨kit_not su_NoFigure_NotSo su_NotSo_NotSo ix_NotSo tx_NotSo, fun _ z => nomatch z⟩⟩⟩⟩⟩⟩ }
  have F_Lcell := fun_mk (st := s_Lcell) l_Lcell c_Lcell k_Lcell
  have B_Lcell := F_Lcell.binds (ps := ["script", "k"]) fun _ _ _ _ _ _ us hl => match us, hl with | [_, _], _ => rfl
  have F_Ldraws := fun_mk (st := s_Ldraws) l_Ldraws c_Ldraws k_Ldraws
  have B_Ldraws := F_Ldraws.binds (ps := ["script", "k", "many", "base"]) fun _ _ _ _ _ _ us hl => match us, hl with | [_, _, _, _], _ => rfl
  have F_Lwhole := fun_mk (st := s_Lwhole) l_Lwhole c_Lwhole k_Lwhole
  have B_Lwhole := F_Lwhole.binds (ps := ["found"]) fun _ _ _ _ _ _ us hl => match us, hl with | [_], _ => rfl
  have F_Lnumber := fun_mk (st := s_Lnumber) l_Lnumber c_Lnumber k_Lnumber
  have B_Lnumber := F_Lnumber.binds (ps := ["draw", "long"]) fun _ _ _ _ _ _ us hl => match us, hl with | [_, _], _ => rfl
  have F_are_figures := fun_mk (st := s_are_figures) l_are_figures c_are_figures k_are_figures
  have B_are_figures := F_are_figures.binds (ps := ["text"]) fun _ _ _ _ _ _ us hl => match us, hl with | [_], _ => rfl
  have F_figure_of := fun_mk (st := s_figure_of) l_figure_of c_figure_of k_figure_of
  have B_figure_of := F_figure_of.binds (ps := ["many"]) fun _ _ _ _ _ _ us hl => match us, hl with | [_], _ => rfl
  have F_pulses_of := fun_mk (st := s_pulses_of) l_pulses_of c_pulses_of k_pulses_of
  have B_pulses_of := F_pulses_of.binds (ps := ["figure"]) fun _ _ _ _ _ _ us hl => match us, hl with | [_], _ => rfl
  have F_dialled := fun_mk (st := s_dialled) l_dialled c_dialled k_dialled
  have B_dialled := F_dialled.binds (ps := ["line", "figures"]) fun _ _ _ _ _ _ us hl => match us, hl with | [_, _], _ => rfl
  have F_Ltold := fun_mk (st := s_Ltold) l_Ltold c_Ltold k_Ltold
  have B_Ltold := F_Ltold.binds (ps := ["way", "one", "other"]) fun _ _ _ _ _ _ us hl => match us, hl with | [_, _, _], _ => rfl
  have F_Lnumbers_right := fun_mk (st := s_Lnumbers_right) l_Lnumbers_right c_Lnumbers_right k_Lnumbers_right
  have B_Lnumbers_right := F_Lnumbers_right.binds (ps := ["number"]) fun _ _ _ _ _ _ us hl => match us, hl with | [_], _ => rfl
  have F_Ltext_right := fun_mk (st := s_Ltext_right) l_Ltext_right c_Ltext_right k_Ltext_right
  have B_Ltext_right := F_Ltext_right.binds (ps := ["text"]) fun _ _ _ _ _ _ us hl => match us, hl with | [_], _ => rfl
  have F_Ldialled_right := fun_mk (st := s_Ldialled_right) l_Ldialled_right c_Ldialled_right k_Ldialled_right
  have B_Ldialled_right := F_Ldialled_right.binds (ps := ["line", "figures"]) fun _ _ _ _ _ _ us hl => match us, hl with | [_, _], _ => rfl
  have F_law := fun_mk (st := s_law) l_law c_law k_law
  refine ⟨PySem.W.fnOf "law" "law" (defArgs s_law) (defBody s_law) (defScope s_law) .none kV_law dc_law pm_law an_law cd_law ct_law, fun s v => .of_eq rfl, fun base KB GB => ?_⟩
  have c_Lcell : Cal l.prog w K mg base 1 "_law_cell" (spCell K) := ⟨_, _, _, ok_Lcell T F_Lcell, PySem.W.mg_of X G a_Lcell, k_Lcell, B_Lcell⟩
  have c_Ldraws : Cal l.prog w K mg base 2 "_law_draws" (spDraws K) := ⟨_, _, _, ok_Ldraws T c_Lcell F_Ldraws, PySem.W.mg_of X G a_Ldraws, k_Ldraws, B_Ldraws⟩
  have c_Lwhole : Cal l.prog w K mg base 1 "_law_whole" (spWhole) := ⟨_, _, _, ok_Lwhole T F_Lwhole, PySem.W.mg_of X G a_Lwhole, k_Lwhole, B_Lwhole⟩
  have c_Lnumber : Cal l.prog w K mg base 1 "_law_number" (spNumber) := ⟨_, _, _, ok_Lnumber T F_Lnumber, PySem.W.mg_of X G a_Lnumber, k_Lnumber, B_Lnumber⟩
  have c_are_figures : Cal l.prog w K mg base 1 "are_figures" (spFigs) := ⟨_, _, _, ok_are_figures T F_are_figures, PySem.W.mg_of X G a_are_figures, k_are_figures, B_are_figures⟩
  have c_figure_of : Cal l.prog w K mg base 1 "figure_of" (spFigOf C_NoFigure) := ⟨_, _, _, ok_figure_of T F_figure_of, PySem.W.mg_of X G a_figure_of, k_figure_of, B_figure_of⟩
  have c_pulses_of : Cal l.prog w K mg base 2 "pulses_of" (spPulOf C_NoFigure) := ⟨_, _, _, ok_pulses_of T c_are_figures F_pulses_of, PySem.W.mg_of X G a_pulses_of, k_pulses_of, B_pulses_of⟩
  have c_dialled : Cal l.prog w K mg base 3 "dialled" (spDialled C_NoFigure) := ⟨_, _, _, ok_dialled T c_pulses_of F_dialled, PySem.W.mg_of X G a_dialled, k_dialled, B_dialled⟩
  have c_Ltold : Cal l.prog w K mg base 4 "_law_told" (spTold) := ⟨_, _, _, ok_Ltold T c_figure_of c_pulses_of c_dialled F_Ltold, PySem.W.mg_of X G a_Ltold, k_Ltold, B_Ltold⟩
  have c_Lnumbers_right : Cal l.prog w K mg base 5 "_law_numbers_right" (spNumR) := ⟨_, _, _, ok_Lnumbers_right T c_Ltold c_Lwhole F_Lnumbers_right, PySem.W.mg_of X G a_Lnumbers_right, k_Lnumbers_right, B_Lnumbers_right⟩
  have c_Ltext_right : Cal l.prog w K mg base 5 "_law_text_right" (spTextR) := ⟨_, _, _, ok_Ltext_right T c_Ltold c_Lwhole F_Ltext_right, PySem.W.mg_of X G a_Ltext_right, k_Ltext_right, B_Ltext_right⟩
  have c_Ldialled_right : Cal l.prog w K mg base 5 "_law_dialled_right" (spDialR) := ⟨_, _, _, ok_Ldialled_right T c_Ltold c_dialled F_Ldialled_right, PySem.W.mg_of X G a_Ldialled_right, k_Ldialled_right, B_Ldialled_right⟩
  exact ok_law T c_Ldraws c_Lnumber c_Lnumbers_right c_Ltext_right c_Ldialled_right F_law
theorem walk {l : PySem.W.OpenLaw} {q : Program} {loose : List PySem.Str} {XP : (PySem.Str → Option Value) → Heap → Prop} {YP : World → Heap → Prop} {d : DefRec} {K : Params → PySem.W.Frag} (hn : l.most = some 63) (hdf : d.params.defaults = [])
    (hY : ∀ (w : World) (h : Heap), YP w h → (K w.params).In h)
    (F : ∀ (w : World) (mg : PySem.Str → Option Value) (fa : Addr) (h : Heap), (K w.params).In h → h.Ns mainGlobals mg → mg d.name = some (.ref fa) →
      ∃ fd : FuncData, (∀ (s : Shared) (u : Value), BindsTo s fd ⟨[u], []⟩ [("script", u)]) ∧ ∀ base : Heap, (K w.params).In base → base.Ns mainGlobals mg → FnOk l.prog w (K w.params) mg base (L2.CX l.prog w) 7 fa fd ["script"] (spLawK (K w.params))) :
    PySem.W.WalkO q loose XP YP l.row.toRowW d [] (fun f vs => PySem.call f vs) :=
  L2.walk_of (n := 63) (k := 7) (x := "script") (CX := fun w => L2.CX l.prog w) (sp := fun w => spLawK (K w.params)) hn (by decide) hdf ⟨rfl, by decide, by decide⟩ hY F (fun _ _ a ns hl _ hS => ⟨a, ns, rfl, hS, hl, fun _ => rfl⟩) fun _ _ _ _ _ ⟨_, _, _, _, _, _, _, _, _, _, _, _, z⟩ => z
end L2.Zs
open PySem PySem.W PyProof.Rows
set_option maxRecDepth 100000 in
set_option maxHeartbeats 0 in
theorem PySem.Challenge.cw_stephall_k01_figures_and_pulses_holds : PySem.Challenge.rw_stephall_k01_figures_and_pulses.Holds := by
  w_on; o_law; k_head; (case hw => w_witness2)
  k_fill
  refine L2.Zs.walk (l := PySem.Challenge.rw_stephall_k01_figures_and_pulses) rfl rfl (fun w h Y => PySem.W.kIn_of Y) ?F
  case F =>
    intro w mg fa h Y G hmg
    refine' L2.Zs.all_mk Y G hmg ?b_len ?b_range ?b_isinstance ?b_int ?b_str ?b_bool ?b_list ?b_ValueError ?g_SIGNS ?g_MOST_PULSES ?gx_HallError ?ex_HallError ?kx_HallError ?bx_HallError ?tx_HallError ?ix_HallError ?gx_NoFigure ?ex_NoFigure ?kx_NoFigure ?bx_NoFigure ?tx_NoFigure ?ix_NoFigure ?gx_BadPlan ?ex_BadPlan ?kx_BadPlan ?bx_BadPlan ?tx_BadPlan ?ix_BadPlan ?gx_NoText ?ex_NoText ?kx_NoText ?bx_NoText ?tx_NoText ?ix_NoText ?gx_NoSwitch ?ex_NoSwitch ?kx_NoSwitch ?bx_NoSwitch ?tx_NoSwitch ?ix_NoSwitch ?gx_NoLine ?ex_NoLine ?kx_NoLine ?bx_NoLine ?tx_NoLine ?ix_NoLine ?gx_NotSo ?ex_NotSo ?kx_NotSo ?bx_NotSo ?tx_NotSo ?ix_NotSo ?gx_NoRow ?ex_NoRow ?kx_NoRow ?bx_NoRow ?tx_NoRow ?ix_NoRow ?hg_NoFigure ?hk_NoFigure ?hd_NoFigure ?ha_NoFigure ?hn_ ?ht_ ?hm_NoFigure ?ve_NoFigure ?su_NoFigure_HallError ?su_NoFigure_NoFigure ?su_NoFigure_BadPlan ?su_BadPlan_BadPlan ?su_NoFigure_NoLine ?su_NoLine_NoLine ?su_NoFigure_NoRow ?su_NoRow_NoRow ?su_NoFigure_NoSwitch ?su_NoSwitch_NoSwitch ?su_NoFigure_NoText ?su_NoText_NoText ?su_NoFigure_NotSo ?su_NotSo_NotSo ?a_Lcell ?l_Lcell ?c_Lcell ?k_Lcell ?a_Ldraws ?l_Ldraws ?c_Ldraws ?k_Ldraws ?a_Lwhole ?l_Lwhole ?c_Lwhole ?k_Lwhole ?a_Lnumber ?l_Lnumber ?c_Lnumber ?k_Lnumber ?a_are_figures ?l_are_figures ?c_are_figures ?k_are_figures ?a_figure_of ?l_figure_of ?c_figure_of ?k_figure_of ?a_pulses_of ?l_pulses_of ?c_pulses_of ?k_pulses_of ?a_dialled ?l_dialled ?c_dialled ?k_dialled ?a_Ltold ?l_Ltold ?c_Ltold ?k_Ltold ?a_Lnumbers_right ?l_Lnumbers_right ?c_Lnumbers_right ?k_Lnumbers_right ?a_Ltext_right ?l_Ltext_right ?c_Ltext_right ?k_Ltext_right ?a_Ldialled_right ?l_Ldialled_right ?c_Ldialled_right ?k_Ldialled_right ?a_law ?l_law ?c_law ?k_law
    (case b_len => k_is)
    (case b_range => k_is)
    (case b_isinstance => k_is)
    (case b_int => k_is)
    (case b_str => k_is)
    (case b_bool => k_is)
    (case b_list => k_is)
    (case b_ValueError => k_is)
    (case g_SIGNS => k_is)
    (case g_MOST_PULSES => k_is)
    (case gx_HallError => k_is)
    (case ex_HallError => k_exc)
    (case kx_HallError => k_is)
    (case bx_HallError => k_is)
    (case tx_HallError => k_is)
    (case ix_HallError => k_is)
    (case gx_NoFigure => k_is)
    (case ex_NoFigure => k_exc)
    (case kx_NoFigure => k_is)
    (case bx_NoFigure => k_is)
    (case tx_NoFigure => k_is)
    (case ix_NoFigure => k_is)
    (case gx_BadPlan => k_is)
    (case ex_BadPlan => k_exc)
    (case kx_BadPlan => k_is)
    (case bx_BadPlan => k_is)
    (case tx_BadPlan => k_is)
    (case ix_BadPlan => k_is)
    (case gx_NoText => k_is)
    (case ex_NoText => k_exc)
    (case kx_NoText => k_is)
    (case bx_NoText => k_is)
    (case tx_NoText => k_is)
    (case ix_NoText => k_is)
    (case gx_NoSwitch => k_is)
    (case ex_NoSwitch => k_exc)
    (case kx_NoSwitch => k_is)
    (case bx_NoSwitch => k_is)
    (case tx_NoSwitch => k_is)
    (case ix_NoSwitch => k_is)
    (case gx_NoLine => k_is)
    (case ex_NoLine => k_exc)
    (case kx_NoLine => k_is)
    (case bx_NoLine => k_is)
    (case tx_NoLine => k_is)
    (case ix_NoLine => k_is)
    (case gx_NotSo => k_is)
    (case ex_NotSo => k_exc)
    (case kx_NotSo => k_is)
    (case bx_NotSo => k_is)
    (case tx_NotSo => k_is)
    (case ix_NotSo => k_is)
    (case gx_NoRow => k_is)
    (case ex_NoRow => k_exc)
    (case kx_NoRow => k_is)
    (case bx_NoRow => k_is)
    (case tx_NoRow => k_is)
    (case ix_NoRow => k_is)
    (case hg_NoFigure => k_is)
    (case hk_NoFigure => k_is)
    (case hd_NoFigure => k_is)
    (case ha_NoFigure => k_is)
    (case hn_ => k_is)
    (case ht_ => k_is)
    (case hm_NoFigure => k_is)
    (case ve_NoFigure => k_is)
    (case su_NoFigure_HallError => k_is)
    (case su_NoFigure_NoFigure => first | rfl | k_is)
    (case su_NoFigure_BadPlan => k_is)
    (case su_BadPlan_BadPlan => first | rfl | k_is)
    (case su_NoFigure_NoLine => k_is)
    (case su_NoLine_NoLine => first | rfl | k_is)
    (case su_NoFigure_NoRow => k_is)
    (case su_NoRow_NoRow => first | rfl | k_is)
    (case su_NoFigure_NoSwitch => k_is)
    (case su_NoSwitch_NoSwitch => first | rfl | k_is)
    (case su_NoFigure_NoText => k_is)
    (case su_NoText_NoText => first | rfl | k_is)
    (case su_NoFigure_NotSo => k_is)
    (case su_NotSo_NotSo => first | rfl | k_is)
    (case a_Lcell => k_is)
    (case l_Lcell => k_is)
    (case c_Lcell => k_is)
    (case k_Lcell => k_is)
    (case a_Ldraws => k_is)
    (case l_Ldraws => k_is)
    (case c_Ldraws => k_is)
    (case k_Ldraws => k_is)
    (case a_Lwhole => k_is)
    (case l_Lwhole => k_is)
    (case c_Lwhole => k_is)
    (case k_Lwhole => k_is)
    (case a_Lnumber => k_is)
    (case l_Lnumber => k_is)
    (case c_Lnumber => k_is)
    (case k_Lnumber => k_is)
    (case a_are_figures => k_is)
    (case l_are_figures => k_is)
    (case c_are_figures => k_is)
    (case k_are_figures => k_is)
    (case a_figure_of => k_is)
    (case l_figure_of => k_is)
    (case c_figure_of => k_is)
    (case k_figure_of => k_is)
    (case a_pulses_of => k_is)
    (case l_pulses_of => k_is)
    (case c_pulses_of => k_is)
    (case k_pulses_of => k_is)
    (case a_dialled => k_is)
    (case l_dialled => k_is)
    (case c_dialled => k_is)
    (case k_dialled => k_is)
    (case a_Ltold => k_is)
    (case l_Ltold => k_is)
    (case c_Ltold => k_is)
    (case k_Ltold => k_is)
    (case a_Lnumbers_right => k_is)
    (case l_Lnumbers_right => k_is)
    (case c_Lnumbers_right => k_is)
    (case k_Lnumbers_right => k_is)
    (case a_Ltext_right => k_is)
    (case l_Ltext_right => k_is)
    (case c_Ltext_right => k_is)
    (case k_Ltext_right => k_is)
    (case a_Ldialled_right => k_is)
    (case l_Ldialled_right => k_is)
    (case c_Ldialled_right => k_is)
    (case k_Ldialled_right => k_is)
    (case a_law => k_is)
    (case l_law => k_is)
    (case c_law => k_is)
    (case k_law => k_is)
