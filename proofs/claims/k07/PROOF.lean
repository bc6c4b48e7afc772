import PyProof.Rows.All
import Wide.All
import OpenK.AllK
import Wide.FinOn
import HandS.ForMost
import HandS.ForExc
import HandS.Wide
import HandS.Flow
import HandS.IsInst
import HandS.ExcIs
import HandS.Conv
import HandS.SetFor
import HandS.More
import PySem.Challenge.RW_stephall_k07_groups_taken
set_option Elab.async false
set_option maxRecDepth 100000
set_option linter.all false
namespace L2.Zs
open PySem
/-! ## separate pieces of the heap -/
abbrev As := Hp → Prop
def Imm : HO → Bool
  | .tup _ => true
  | _ => false
def Le (H1 H : Hp) : Prop := ∀ a o, H1 a = some o → H a = some o
def Dj (H1 H2 : Hp) : Prop := ∀ a o, H1 a = some o → ∀ o', H2 a = some o' → Imm o = true ∧ Imm o' = true
theorem Dj.symm {H1 H2 : Hp} (d : Dj H1 H2) : Dj H2 H1 := fun a o h o' h' => ⟨(d a o' h' o h).2, (d a o' h' o h).1⟩
theorem Le.refl (H : Hp) : Le H H := fun _ _ h => h
theorem Le.trans {H1 H2 H3 : Hp} (a : Le H1 H2) (b : Le H2 H3) : Le H1 H3 := fun x o h => b x o (a x o h)
theorem Dj.le {H1 H2 H1' H2' : Hp} (d : Dj H1 H2) (a : Le H1' H1) (b : Le H2' H2) : Dj H1' H2' := fun x o h o' h' => d x o (a x o h) o' (b x o' h')
def uni (H1 H2 : Hp) : Hp := fun a => (H1 a).or (H2 a)
theorem uni_or {H1 H2 : Hp} {a : Addr} {o : HO} (h : uni H1 H2 a = some o) : H1 a = some o ∨ H2 a = some o := by
  unfold uni at h
  cases e : H1 a with
  | none => rw [e] at h; exact .inr h
  | some u => rw [e] at h; exact .inl h
theorem uni_le {H1 H2 H : Hp} (a : Le H1 H) (b : Le H2 H) : Le (uni H1 H2) H := fun x o h => (uni_or h).elim (a x o) (b x o)
theorem le_uni1 {H1 H2 : Hp} : Le H1 (uni H1 H2) := fun x o h => by unfold uni; rw [h]; rfl
theorem le_uni2 {H1 H2 H : Hp} (a : Le H1 H) (b : Le H2 H) : Le H2 (uni H1 H2) := fun x o h => by
  unfold uni
  cases e : H1 x with
  | none => exact h
  | some u => have := (a x u e).symm.trans (b x o h); exact this
theorem dj_uni {H1 H2 H3 : Hp} (a : Dj H1 H3) (b : Dj H2 H3) : Dj (uni H1 H2) H3 := fun x o h o' h' => (uni_or h).elim (fun h => a x o h o' h') (fun h => b x o h o' h')
/-- the chunks stand apart (written tuples may be shared) -/
def Sep : List As → As
  | [] => fun _ => True
  | c :: cs => fun H => ∃ H1 H2, Le H1 H ∧ Le H2 H ∧ Dj H1 H2 ∧ c H1 ∧ Sep cs H2
theorem Sep.up {cs : List As} {H H' : Hp} (h : Sep cs H) (l : Le H H') : Sep cs H' := by
  cases cs with
  | nil => trivial
  | cons c cs =>
    obtain ⟨H1, H2, a, b, d, x, y⟩ := h
    exact ⟨H1, H2, a.trans l, b.trans l, d, x, y⟩
theorem Sep.swap {c d : As} {cs : List As} {H : Hp} (h : Sep (c :: d :: cs) H) : Sep (d :: c :: cs) H := by
  obtain ⟨H1, H2, a, b, e, x, H3, H4, a2, b2, e2, x2, y⟩ := h
  refine ⟨H3, uni H1 H4, a2.trans b, uni_le a (b2.trans b), ?_, x2, H1, H4, le_uni1, le_uni2 a (b2.trans b), e.le (Le.refl _) b2, x, y⟩
  exact (dj_uni (e.le (Le.refl _) a2) e2.symm).symm
theorem Sep.cons {c : As} {cs cs' : List As} (f : ∀ H, Sep cs H → Sep cs' H) {H : Hp} (h : Sep (c :: cs) H) : Sep (c :: cs') H := by
  obtain ⟨H1, H2, a, b, e, x, y⟩ := h
  exact ⟨H1, H2, a, b, e, x, f _ y⟩
theorem Sep.tail {c : As} {cs : List As} {H : Hp} (h : Sep (c :: cs) H) : Sep cs H := by
  obtain ⟨H1, H2, a, b, e, x, y⟩ := h
  exact y.up b
theorem Sep.imp {c c' : As} {cs : List As} {H : Hp} (h : Sep (c :: cs) H) (f : ∀ H, c H → c' H) : Sep (c' :: cs) H := by
  obtain ⟨H1, H2, a, b, e, x, y⟩ := h
  exact ⟨H1, H2, a, b, e, f _ x, y⟩
/-- c stands in cs, the others are ds -/
inductive Pick : As → List As → List As → Prop
  | here {c cs} : Pick c (c :: cs) cs
  | there {c d cs ds} : Pick c cs ds → Pick c (d :: cs) (d :: ds)
theorem Sep.pick {c : As} {cs ds : List As} (p : Pick c cs ds) {H : Hp} (h : Sep cs H) : Sep (c :: ds) H := by
  induction p generalizing H with
  | here => exact h
  | there p ih => exact Sep.swap (Sep.cons (fun _ => ih) h)
theorem Sep.unpick {c : As} {cs ds : List As} (p : Pick c cs ds) {H : Hp} (h : Sep (c :: ds) H) : Sep cs H := by
  induction p generalizing H with
  | here => exact h
  | there p ih => exact Sep.cons (fun _ => ih) (Sep.swap h)
/-- the chunks ps stand in cs, the others are F -/
inductive Sub : List As → List As → List As → Prop
  | nil {cs} : Sub cs [] cs
  | cons {c ps cs ds F} : Pick c cs ds → Sub ds ps F → Sub cs (c :: ps) F
theorem Sub.sep {cs ps F : List As} (s : Sub cs ps F) {H : Hp} (h : Sep cs H) : Sep (ps ++ F) H := by
  induction s generalizing H with
  | nil => exact h
  | cons p s ih => exact Sep.cons (fun _ => ih) (Sep.pick p h)
theorem Sub.unsep {cs ps F : List As} (s : Sub cs ps F) {H : Hp} (h : Sep (ps ++ F) H) : Sep cs H := by
  induction s generalizing H with
  | nil => exact h
  | cons p s ih => exact Sep.unpick p (Sep.cons (fun _ => ih) h)
theorem Sep.drop {ps F : List As} {H : Hp} (h : Sep (ps ++ F) H) : Sep F H := by
  induction ps generalizing H with
  | nil => exact h
  | cons c ps ih => exact ih h.tail
theorem Sep.left {ps F : List As} {H : Hp} (h : Sep (ps ++ F) H) : Sep ps H := by
  induction ps generalizing H with
  | nil => trivial
  | cons c ps ih => exact Sep.cons (fun _ => ih) h
theorem Sep.rot {ps F : List As} {H : Hp} (h : Sep (ps ++ F) H) : Sep (F ++ ps) H := by
  induction F generalizing ps H with
  | nil => rw [List.append_nil] at h; exact h
  | cons c F ih =>
    have p : Pick c (ps ++ c :: F) (ps ++ F) := by
      clear ih h
      induction ps with
      | nil => exact .here
      | cons d ps ih => exact .there ih
    exact Sep.cons (fun _ => ih) (Sep.pick p h)
/-- some chunks as one -/
def star (cs : List As) : As := fun H => Sep cs H
theorem Sep.flat {ps F : List As} {H : Hp} (h : Sep (star ps :: F) H) : Sep (ps ++ F) H := by
  obtain ⟨H1, H2, a, b, e, x, y⟩ := h
  induction ps generalizing H1 H with
  | nil => exact y.up b
  | cons c ps ih =>
    obtain ⟨H3, H4, a2, b2, e2, x2, y2⟩ := (show Sep (c :: ps) H1 from x)
    refine ⟨H3, uni H4 H2, a2.trans a, uni_le (b2.trans a) b, ?_, x2, ?_⟩
    · exact (dj_uni e2.symm (e.le a2 (Le.refl _)).symm).symm
    · exact ih H4 le_uni1 (le_uni2 (b2.trans a) b) (e.le b2 (Le.refl _)) y2
theorem Sep.unflat {ps F : List As} {H : Hp} (h : Sep (ps ++ F) H) : Sep (star ps :: F) H := by
  induction ps generalizing H with
  | nil => exact ⟨fun _ => none, H, (fun _ _ q => nomatch q), Le.refl _, (fun _ _ q => nomatch q), trivial, h⟩
  | cons c ps ih =>
    obtain ⟨H1, H2, a, b, e, x, y⟩ := h
    obtain ⟨H3, H4, a2, b2, e2, x2, y2⟩ := ih y
    refine ⟨uni H1 H3, H4, uni_le a (a2.trans b), b2.trans b, ?_, ?_, y2⟩
    · exact dj_uni (e.le (Le.refl _) b2) e2
    · exact ⟨H1, H3, le_uni1, le_uni2 a (a2.trans b), e.le (Le.refl _) a2, x, x2⟩
/-- a chunk with something unnamed in it -/
def ex {α : Type} (f : α → As) : As := fun H => ∃ x, f x H
theorem Sep.ex {α : Type} {f : α → As} {F : List As} {H : Hp} (h : Sep (Zs.ex f :: F) H) : ∃ x, Sep (f x :: F) H := by
  obtain ⟨H1, H2, a, b, e, ⟨x, q⟩, y⟩ := h
  exact ⟨x, H1, H2, a, b, e, q, y⟩
theorem Sep.exI {α : Type} {f : α → As} {F : List As} {H : Hp} (x : α) (h : Sep (f x :: F) H) : Sep (Zs.ex f :: F) H := by
  obtain ⟨H1, H2, a, b, e, q, y⟩ := h
  exact ⟨H1, H2, a, b, e, ⟨x, q⟩, y⟩
/-- a plain fact -/
def pu (p : Prop) : As := fun _ => p
theorem Sep.pu {p : Prop} {F : List As} {H : Hp} (h : Sep (Zs.pu p :: F) H) : p ∧ Sep F H := by
  obtain ⟨H1, H2, a, b, e, q, y⟩ := h
  exact ⟨q, y.up b⟩
theorem Sep.puI {p : Prop} {F : List As} {H : Hp} (q : p) (h : Sep F H) : Sep (Zs.pu p :: F) H :=
  ⟨fun _ => none, H, (fun _ _ q => nomatch q), Le.refl _, (fun _ _ q => nomatch q), q, h⟩
/-- one object -/
def pt (a : Addr) (o : HO) : As := fun H => H a = some o
theorem Sep.hd {a : Addr} {o : HO} {F : List As} {H : Hp} (h : Sep (pt a o :: F) H) : H a = some o := by
  obtain ⟨H1, H2, l, _, _, q, _⟩ := h
  exact l _ _ q
theorem Sep.get {a : Addr} {o : HO} {cs ds : List As} {H : Hp} (h : Sep cs H) (p : Pick (pt a o) cs ds) : H a = some o := (h.pick p).hd
theorem Sep.new {a : Addr} {o : HO} {cs : List As} {H : Hp} (h : Sep cs H) (n : H a = none) : Sep (pt a o :: cs) (upd H a o) := by
  refine ⟨upd (fun _ => none) a o, H, fun x u q => ?_, fun x u q => ?_, fun x u q u' q' => ?_, upd_same, h⟩
  · by_cases e : x = a
    · subst e; rw [upd_same] at q; rw [upd_same]; exact q
    · rw [upd_ne e] at q; cases q
  · rw [upd_ne (ne_of_none q n)]; exact q
  · by_cases e : x = a
    · subst e; rw [n] at q'; cases q'
    · rw [upd_ne e] at q; cases q
theorem Sep.setHd {a : Addr} {o o' : HO} {F : List As} {H : Hp} (h : Sep (pt a o :: F) H) (m : Imm o = false) : Sep (pt a o' :: F) (upd H a o') := by
  obtain ⟨H1, H2, l1, l2, d, q, y⟩ := h
  have n : H2 a = none := by
    cases e : H2 a with
    | none => rfl
    | some u => have z := (d a o q u e).1; rw [m] at z; cases z
  refine ⟨upd H1 a o', H2, fun x u q => ?_, fun x u q => ?_, fun x u q u' q' => ?_, upd_same, y⟩
  · by_cases e : x = a
    · subst e; rw [upd_same] at q; rw [upd_same]; exact q
    · rw [upd_ne e] at q; rw [upd_ne e]; exact l1 _ _ q
  · rw [upd_ne (ne_of_none q n)]; exact l2 _ _ q
  · by_cases e : x = a
    · subst e; rw [n] at q'; cases q'
    · rw [upd_ne e] at q; exact d x u q u' q'
/-- c in cs is c' in cs' -/
inductive Chg : As → As → List As → List As → Prop
  | here {c c' cs} : Chg c c' (c :: cs) (c' :: cs)
  | there {c c' d cs cs'} : Chg c c' cs cs' → Chg c c' (d :: cs) (d :: cs')
theorem Chg.pick {c c' : As} {cs cs' : List As} (g : Chg c c' cs cs') : ∃ ds, Pick c cs ds ∧ Pick c' cs' ds := by
  induction g with
  | here => exact ⟨_, .here, .here⟩
  | there g ih =>
    obtain ⟨ds, h1, h2⟩ := ih
    exact ⟨_, .there h1, .there h2⟩
theorem Sep.set {a : Addr} {o o' : HO} {cs cs' : List As} {H : Hp} (h : Sep cs H) (g : Chg (pt a o) (pt a o') cs cs') (m : Imm o = false) : Sep cs' (upd H a o') := by
  obtain ⟨ds, p1, p2⟩ := g.pick
  exact Sep.unpick p2 ((Sep.pick p1 h).setHd m)
theorem Sep.chg {c c' : As} {cs cs' : List As} {H : Hp} (h : Sep cs H) (g : Chg c c' cs cs') (f : ∀ H, c H → c' H) : Sep cs' H := by
  obtain ⟨ds, p1, p2⟩ := g.pick
  exact Sep.unpick p2 ((Sep.pick p1 h).imp f)
theorem Sep.dup {t : Addr} {xs : List V} {F : List As} {H : Hp} (h : Sep (pt t (.tup xs) :: F) H) : Sep (pt t (.tup xs) :: pt t (.tup xs) :: F) H := by
  obtain ⟨H1, H2, l1, l2, d, q, y⟩ := h
  let G : Hp := upd (fun _ => none) t (.tup xs)
  have hG : G t = some (.tup xs) := upd_same
  have lG : Le G H1 := fun x u e => by
    by_cases z : x = t
    · subst z; rw [hG] at e; cases e; exact q
    · rw [show G x = none from upd_ne z] at e; cases e
  have im : ∀ x u, G x = some u → Imm u = true := fun x u e => by
    by_cases z : x = t
    · subst z; rw [hG] at e; cases e; rfl
    · rw [show G x = none from upd_ne z] at e; cases e
  refine ⟨G, uni G H2, lG.trans l1, uni_le (lG.trans l1) l2, fun x u e u' e' => ?_, hG, G, H2, le_uni1, le_uni2 (lG.trans l1) l2, d.le lG (Le.refl _), hG, y⟩
  refine ⟨im x u e, ?_⟩
  rcases uni_or e' with e' | e'
  · exact im x u' e'
  · exact (d x u (lG x u e) u' e').2
/-- two chunks that are owned stand at two places -/
theorem Sep.ne {a b : Addr} {o u : HO} {F : List As} {H : Hp} (h : Sep (pt a o :: pt b u :: F) H) (m : Imm o = false) : a ≠ b := by
  obtain ⟨H1, H2, l1, l2, d, q, H3, H4, l3, l4, d2, q2, y⟩ := h
  intro e
  subst e
  have z := (d a o q u (l3 _ _ q2)).1
  rw [m] at z
  cases z
/-- the law's list, read alone -/
def sq (K : PySem.W.Frag) (a : Addr) (xs : List V) : As := fun H => SqL K H a xs
theorem Sep.sq {K : PySem.W.Frag} {a : Addr} {xs : List V} {cs ds : List As} {H : Hp} (h : Sep cs H) (p : Pick (Zs.sq K a xs) cs ds) : SqL K H a xs := by
  obtain ⟨H1, H2, l, _, _, q, _⟩ := h.pick p
  rcases q with (q | ⟨o, q⟩) | q
  · exact .inl (.inl (l _ _ q))
  · exact .inl (.inr ⟨o, l _ _ q⟩)
  · exact .inr q
/-- ds stands in cs, the rest is let go -/
inductive Wk : List As → List As → Prop
  | refl {cs} : Wk cs cs
  | pick {c cs ds es} : Pick c cs ds → Wk ds es → Wk cs (c :: es)
  | drop {c cs ds} : Wk cs ds → Wk (c :: cs) ds
theorem Wk.sep {cs ds : List As} (k : Wk cs ds) {H : Hp} (h : Sep cs H) : Sep ds H := by
  induction k generalizing H with
  | refl => exact h
  | pick p k ih => exact Sep.cons (fun _ => ih) (Sep.pick p h)
  | drop k ih => exact ih h.tail
theorem Sep.nil (H : Hp) : Sep [] H := trivial
end L2.Zs
namespace L2.Zs
open PySem PySem.Spec PyProof.Rows
/-! ## calls, whatever they let out is W's -/
section
variable {P : Program} {w : World} {K : PySem.W.Frag} {mg : Str → Option Value} {base : Heap}
/-- the def that the module calls x keeps sp -/
def Cal (P : Program) (w : World) (K : PySem.W.Frag) (mg : Str → Option Value) (base : Heap) (k : Nat) (x : Str) (sp : Sp) : Prop :=
  ∃ f fd ps, FnOk P w K mg base (L2.CX P w) k f fd ps sp ∧ mg x = some (.ref f) ∧ PySem.W.keepIn K (.ref f) = true ∧ Binds K fd ps []
/-- the method m of the class at C keeps sp -/
def Met (P : Program) (w : World) (K : PySem.W.Frag) (mg : Str → Option Value) (base : Heap) (k : Nat) (C : Addr) (m : Str) (sp : Sp) : Prop :=
  ∃ f fd ps, FnOk P w K mg base (L2.CX P w) k f fd ps sp ∧ Meth K C m f ∧ Cls K C ∧ Binds K fd ps []
/-- the class that the module calls x, at C, is made by sp -/
def Mak (P : Program) (w : World) (K : PySem.W.Frag) (mg : Str → Option Value) (base : Heap) (k : Nat) (x : Str) (C : Addr) (sp : Sp) : Prop :=
  ∃ f fd ps, FnOk P w K mg base (L2.CX P w) k f fd ps sp ∧ mg x = some (.ref C) ∧ Mk K C f ∧ Binds K fd ps []
end
def tMt (Cs : List Addr) (m : Str) (sp : Addr → Sp) (E : St → XK) (ta : TE) (t : TA) : TE := fun σ H Q => ta σ H fun x H1 => ∃ a C dx fs, x = .ref a ∧ H1 a = some (.ins C dx fs) ∧ C ∈ Cs ∧ fs.lookup m = none ∧
  t σ H1 fun vs H2 => sp C (x :: vs) H2 Q (E σ)
def tMk (C : Addr) (sp : Sp) (E : St → XK) (t : TA) : TE := fun σ H Q => t σ H fun vs H1 => ∀ x dx, H1 x = none → H1 dx = none → dx ≠ x →
  sp (.ref x :: vs) (upd (upd H1 dx (.own x)) x (.ins C dx [])) (fun v H2 => v = .non ∧ Q (.ref x) H2) (E σ)
section
variable {X : Cx} {W : WX} {k j : Nat} {f C : Addr} {fd : FuncData} {ps : List Str} {sp : Sp} {x m : Str} {p pos apos : Pos} {e o : Expr} {es : List Expr} {ta : TE} {t : TA}
theorem run_makeS {pins : List (Addr × Obj)} {σ : St} {H : Hp} {s : Shared} {Q : VK} {us : List Value} {vs : List V} {E : St → XK} (M : Mk X.K C f) (F : FnOk X.prog X.w X.K X.mg X.base (L2.CX X.prog X.w) k f fd ps sp) (hr : Room (k + 1) X.A) (hb : Binds X.K fd ps [])
    (hx : PassesAt (L2.CX X.prog X.w) X σ (E σ)) (I : Inv X pins σ H s) (r : Vals vs us)
    (h : ∀ x dx, H x = none → H dx = none → dx ≠ x → sp (.ref x :: vs) (upd (upd H dx (.own x)) x (.ins C dx [])) (fun v H2 => v = .non ∧ Q (.ref x) H2) (E σ)) :
    wpAny (model X.prog X.w) X.A (call (.ref C) us) (EP X pins σ Q) X.xe s := by
  have hq := h (s.heap.objs.size + 1) s.heap.objs.size (I.hok.fresh (Nat.le_succ _)) (I.hok.fresh (Nat.le_refl _)) (Nat.ne_of_lt (Nat.lt_succ_self _))
  have I2 := Inv.made (C := C) I
  have r2 : Vals (V.ref (s.heap.objs.size + 1) :: vs) (Value.ref (s.heap.objs.size + 1) :: us) := .cons rfl r
  have hl : (Value.ref (s.heap.objs.size + 1) :: us).length = ps.length := by
    have e := r2.length
    rw [F.len _ _ _ _ hq] at e
    exact e.symm
  have hb' := hb _ (Value.ref (s.heap.objs.size + 1) :: us) I2.kIn (by rw [List.append_nil]; exact hl)
  rw [List.append_nil] at hb'
  refine wpAny_call (make_map (f := f) I.kIn M.makes M.init (beq_iff_eq.mp M.fn) (codeAny_mono (F.run _ X.stack _ _ ⟨Value.ref (s.heap.objs.size + 1) :: us, []⟩ (Value.ref (s.heap.objs.size + 1) :: us) _ _ (E σ) (hr.make C us [])
    (I2.env0.make C us []) hb' r2 hq) fun r s' hq' => ?_))
  cases r with
  | error e => exact hx pins _ _ e s' I2 hq'
  | ok fl =>
    cases fl with
    | ret u =>
      obtain ⟨v, H', I3, rv, ev, q3⟩ := I2.after hq'
      subst ev
      exact ⟨rv, ⟨V.ref (s.heap.objs.size + 1), H', I3, rfl, q3⟩⟩
    | next => exact False.elim hq'
    | brk => exact False.elim hq'
    | cont => exact False.elim hq'
theorem z_call (c : Cal X.prog X.w X.K X.mg X.base k x sp) (tk : Takes X W) (hr : Room j X.A) (hk : k ≤ j) (hg : Gl X x) (ha : PA X (e :: es) t) (hdb : (x == ("__debug__" : Str)) = false := by decide)
    (he : starEach (e :: es) X.env = (false, eval e X.env) :: starEach es X.env := by rfl) (hpl : (backTo pos (starEach es X.env)).any (·.1) = false := by rfl) :
    PE X (.Call (.Name x p) (e :: es) [] pos) (tCallS sp (WE W) t) := by
  obtain ⟨f, fd, ps, F, hm, kp, hb⟩ := c
  exact pe_callS F (hr.mono hk) hg hm kp hb (passAt tk) ha hdb he hpl
theorem z_call0 (c : Cal X.prog X.w X.K X.mg X.base k x sp) (tk : Takes X W) (hr : Room j X.A) (hk : k ≤ j) (hg : Gl X x) (hdb : (x == ("__debug__" : Str)) = false := by decide) :
    PE X (.Call (.Name x p) [] [] pos) (tCallS sp (WE W) tNil) := by
  obtain ⟨f, fd, ps, F, hm, kp, hb⟩ := c
  refine ⟨fun pins s σ H Q I h => ?_⟩
  refine wpAny_Call_Name_kw (ld_glob I hg hm ?_ hdb)
  exact PySem.W.callWith_K0 I.kIn kp (run_fnS (us := []) F (hr.mono hk) hb (passAt tk σ) I .nil h)
theorem z_make (c : Mak X.prog X.w X.K X.mg X.base k x C sp) (tk : Takes X W) (hr : Room j X.A) (hk : k + 1 ≤ j) (hg : Gl X x) (ha : PA X (e :: es) t) (hdb : (x == ("__debug__" : Str)) = false := by decide)
    (he : starEach (e :: es) X.env = (false, eval e X.env) :: starEach es X.env := by rfl) (hpl : (backTo pos (starEach es X.env)).any (·.1) = false := by rfl) :
    PE X (.Call (.Name x p) (e :: es) [] pos) (tMk C sp (WE W) t) := by
  obtain ⟨f, fd, ps, F, hm, M, hb⟩ := c
  refine ⟨fun pins s σ H Q I h => ?_⟩
  refine wpAny_Call_Name_kw (ld_glob I hg hm ?_ hdb)
  refine PySem.W.callWith_K (h₀ := X.base) I.ok.mod.kin M.kp (thn (ha.run pos pins s σ H _ I h) fun us s1 ⟨vs, H1, I1, r, q⟩ => ⟨I1.kIn, ?_⟩) he hpl
  exact run_makeS M F (hr.mono hk) hb (passAt tk σ) I1 r q
theorem z_make0 (c : Mak X.prog X.w X.K X.mg X.base k x C sp) (tk : Takes X W) (hr : Room j X.A) (hk : k + 1 ≤ j) (hg : Gl X x) (hdb : (x == ("__debug__" : Str)) = false := by decide) :
    PE X (.Call (.Name x p) [] [] pos) (tMk C sp (WE W) tNil) := by
  obtain ⟨f, fd, ps, F, hm, M, hb⟩ := c
  refine ⟨fun pins s σ H Q I h => ?_⟩
  refine wpAny_Call_Name_kw (ld_glob I hg hm ?_ hdb)
  exact PySem.W.callWith_K0 I.kIn M.kp (run_makeS (us := []) M F (hr.mono hk) hb (passAt tk σ) I .nil h)
theorem z_meth {pl : Sem Bool} {Cs : List Addr} {sp : Addr → Sp} (he : PE X o ta) (c : ∀ C ∈ Cs, Met X.prog X.w X.K X.mg X.base k C m (sp C)) (tk : Takes X W) (hr : Room j X.A) (hk : k ≤ j) (ha : PA X (e :: es) t)
    (hst : starEach (e :: es) X.env = (false, eval e X.env) :: starEach es X.env := by rfl) (hpl : (backTo pos (starEach es X.env)).any (·.1) = false := by rfl)
    (ht : eval (.Call (.Attribute o m apos) (e :: es) [] pos) X.env = (do
      let ov ← eval o X.env
      standAt apos.atName
      let (f, first) ← holding [ov] (getMethod ov m pl)
      callWith pos f first (backTo pos (starEach (e :: es) X.env)) (backToKw pos (keywordEach [] X.env))) := by rfl) :
    PE X (.Call (.Attribute o m apos) (e :: es) [] pos) (tMt Cs m sp (WE W) ta t) := by
  refine ⟨fun pins s σ H Q I h => ?_⟩
  refine PySem.W.methodCall_KW (pl := pl) (thn (he.run pins s σ H _ I h) fun u s1 ⟨x, H1, I1, rx, a, C, dx, fs, ex, ea, hC, l, q⟩ => ?_) ht
  subst ex
  obtain rfl : u = Value.ref a := rx
  obtain ⟨f, fd, ps, F, hm, cl, hb⟩ := c C hC
  refine getmeth_ok I1 ea cl hm l ?_
  refine PySem.W.callWith_K (first := [.ref a]) (h₀ := X.base) I.ok.mod.kin hm.kp (thn (ha.run pos pins s1 σ H1 _ I1 q) fun us s2 ⟨vs, H2, I2, r, q2⟩ => ⟨I2.kIn, ?_⟩) hst hpl
  exact run_fnS (us := .ref a :: us) (vs := .ref a :: vs) F (hr.mono hk) hb (passAt tk σ) I2 (.cons rfl r) q2
theorem z_meth0 {pl : Sem Bool} {Cs : List Addr} {sp : Addr → Sp} (he : PE X o ta) (c : ∀ C ∈ Cs, Met X.prog X.w X.K X.mg X.base k C m (sp C)) (tk : Takes X W) (hr : Room j X.A) (hk : k ≤ j)
    (ht : eval (.Call (.Attribute o m apos) [] [] pos) X.env = (do
      let ov ← eval o X.env
      standAt apos.atName
      let (f, first) ← holding [ov] (getMethod ov m pl)
      callWith pos f first (backTo pos (starEach [] X.env)) (backToKw pos (keywordEach [] X.env))) := by rfl) :
    PE X (.Call (.Attribute o m apos) [] [] pos) (tMt Cs m sp (WE W) ta tNil) := by
  refine ⟨fun pins s σ H Q I h => ?_⟩
  refine PySem.W.methodCall_KW (pl := pl) (thn (he.run pins s σ H _ I h) fun u s1 ⟨x, H1, I1, rx, a, C, dx, fs, ex, ea, hC, l, q⟩ => ?_) ht
  subst ex
  obtain rfl : u = Value.ref a := rx
  obtain ⟨f, fd, ps, F, hm, cl, hb⟩ := c C hC
  refine getmeth_ok I1 ea cl hm l ?_
  exact PySem.W.callWith_K0 (first := [.ref a]) I1.kIn hm.kp (run_fnS (us := [.ref a]) (vs := [.ref a]) F (hr.mono hk) hb (passAt tk σ) I1 (.cons rfl .nil) q)
end
/-! ## operators of several kinds -/
theorem OpR.or {X : Cx} {f : Value → Value → Sem Value} {r r' : R2} (h : OpR X f r) (h' : OpR X f r') : OpR X f (fun x y H Q => r x y H Q ∨ r' x y H Q) := by
  intro pins s σ H x y v u Q I rx ry q
  rcases q with q | q
  · exact h pins s σ H x y v u Q I rx ry q
  · exact h' pins s σ H x y v u Q I rx ry q
def rAddS : R2 := fun x y H Q => ∃ i j, x = .str i ∧ y = .str j ∧ i.length + j.length ≤ sizeLine ∧ Q (.str (i ++ j)) H
def rAddZ : R2 := fun x y H Q => rI0 (fun i j => .int (i + j)) x y H Q ∨ rAddS x y H Q ∨ rCat x y H Q
def rMulZ : R2 := fun x y H Q => rI CMul (fun i j => .int (i * j)) x y H Q ∨ rRep x y H Q
def rMod : R2 := rI (fun _ j => 0 < j) fun i j => .int (i % j)
def rDiv : R2 := rI CDivW fun i j => .int (i / j)
def rSubI : R2 := rI0 fun i j => .int (i - j)
def rPow : R2 := rI CPow fun i j => .int (i ^ j.toNat)
def rLt : R2 := rI0 fun i j => .bl (decide (i < j))
def rLe : R2 := rI0 fun i j => .bl (decide (i ≤ j))
def rGt : R2 := rI0 fun i j => .bl (decide (j < i))
def rGe : R2 := rI0 fun i j => .bl (decide (j ≤ i))
def rEqZ (K : PySem.W.Frag) : R2 := fun x y H Q => rEq x y H Q ∨ rEqD K x y H Q
def rNeZ (K : PySem.W.Frag) : R2 := fun x y H Q => rNe x y H Q ∨ rNeD K x y H Q
def rIsN : R2 := fun x y H Q => y = .non ∧ Q (.bl (decide (x = .non))) H
def rNotN : R2 := fun x y H Q => y = .non ∧ Q (.bl (!decide (x = .non))) H
def rInS : R2 := fun x y H Q => ∃ (c : Nat) (z : Str), x = .str ⟨#[c]⟩ ∧ y = .str z ∧ Q (.bl (decide (c ∈ z.cps.toList))) H
def rNotInS : R2 := fun x y H Q => ∃ (c : Nat) (z : Str), x = .str ⟨#[c]⟩ ∧ y = .str z ∧ Q (.bl (!decide (c ∈ z.cps.toList))) H
section
variable {X : Cx}
theorem zo_add : OpR X (binaryOp .Add) rAddZ := OpR.or op_add (OpR.or op_add_str op_cat)
theorem zo_mul : OpR X (binaryOp .Mult) rMulZ := OpR.or op_mul op_rep
theorem zo_mod : OpR X (binaryOp .Mod) rMod := op_mod
theorem zo_div : OpR X (binaryOp .FloorDiv) rDiv := op_fdivW
theorem zo_sub : OpR X (binaryOp .Sub) rSubI := op_sub
theorem zo_pow : OpR X (binaryOp .Pow) rPow := op_pow
theorem zo_lt : OpR X (compareOp .Lt) rLt := op_lt
theorem zo_le : OpR X (compareOp .LtE) rLe := op_le
theorem zo_gt : OpR X (compareOp .Gt) rGt := op_gt
theorem zo_ge : OpR X (compareOp .GtE) rGe := op_ge
theorem zo_eq (hu : X.A.units + 64 < cLine) : OpR X (compareOp .Eq) (rEqZ X.K) := OpR.or op_eq (op_eqD hu)
theorem zo_ne (hu : X.A.units + 64 < cLine) : OpR X (compareOp .NotEq) (rNeZ X.K) := OpR.or op_ne (op_neD hu)
theorem zo_isN : OpR X (compareOp .Is) rIsN := op_isN
theorem zo_notN : OpR X (compareOp .IsNot) rNotN := op_notN
theorem zo_inS : OpR X (compareOp .In) rInS := op_in_sign
theorem zo_notInS : OpR X (compareOp .NotIn) rNotInS := op_notIn_sign
theorem zo_inQ : OpR X (compareOp .In) (rIn X.K false) := op_in_seq
theorem zo_notInQ : OpR X (compareOp .NotIn) (rIn X.K true) := op_notIn_seq
end
def tTru (K : PySem.W.Frag) (ta : TE) : TT := fun σ H Q => ta σ H fun x H' => ∃ k, TruV K x H' k ∧ Q k H'
theorem z_tru {X : Cx} {a : Expr} {ta : TE} (ha : PE X a ta) (he : ∀ whole, isTrue a X.env whole = (do let v ← whole; standAt a.pos; holding [v] (truthy v)) := by intro _; rfl) : PT X a (tTru X.K ta) := pt_truth ha he
end L2.Zs
namespace L2.Zs
open PySem PySem.Spec PyProof.Rows
/-! named tails -/
def NewTup (xs : List V) (Q : VK) (H : Hp) : Prop := xs.length ≤ sizeLine ∧ ∀ p, H p = none → Q (.ref p) (upd H p (.tup xs))
def NewLst (xs : List V) (Q : VK) (H : Hp) : Prop := xs.length ≤ sizeLine ∧ ∀ p, H p = none → Q (.ref p) (upd H p (.lst xs))
def FldGet (K : PySem.W.Frag) (f : Str) (x : V) (Q : VK) (H : Hp) : Prop := ∃ a C dx fs v, x = .ref a ∧ H a = some (.ins C dx fs) ∧ Cls K C ∧ NoAttr K C f ∧ fs.lookup f = some v ∧ Q v H
def FldSet (K : PySem.W.Frag) (f : Str) (x y : V) (R : Hp → Prop) (H : Hp) : Prop := ∃ a C dx fs, x = .ref a ∧ H a = some (.ins C dx fs) ∧ Cls K C ∧ NoAttr K C f ∧ fs.length < 1000 ∧ R (upd H a (.ins C dx (putF f y fs)))
def MtGo (Cs : List Addr) (m : Str) (x : V) (R : Addr → Hp → Prop) (H : Hp) : Prop := ∃ a C dx fs, x = .ref a ∧ H a = some (.ins C dx fs) ∧ C ∈ Cs ∧ fs.lookup m = none ∧ R C H
def MkGo (C : Addr) (sp : Sp) (E : XK) (vs : List V) (Q : VK) (H : Hp) : Prop := ∀ x dx, H x = none → H dx = none → dx ≠ x → sp (.ref x :: vs) (upd (upd H dx (.own x)) x (.ins C dx [])) (fun v H2 => v = .non ∧ Q (.ref x) H2) E
def rLen (K : PySem.W.Frag) : List V → Hp → VK → Prop := fun xs H Q => ∃ x n, xs = [x] ∧ LenV K x H n ∧ Q (.int n) H
def rStrI : List V → Hp → VK → Prop := fun xs H Q => ∃ i, xs = [.int i] ∧ i.natAbs.log2 < 1920 ∧ Q (.str (toString i)) H
def rInt1 : List V → Hp → VK → Prop := fun xs H Q => (∃ i, xs = [.int i] ∧ Q (.int i) H) ∨ ∃ k, xs = [.bl k] ∧ Q (.int (if k then 1 else 0)) H
def rIntS : List V → Hp → VK → Prop := fun xs H Q => ∃ a n, xs = [.str a] ∧ PySem.intText? a = some n ∧ a.length ≤ 640 ∧ Q (.int n) H
def rMin2 : List V → Hp → VK → Prop := fun xs H Q => ∃ i j, xs = [.int i, .int j] ∧ Q (.int (if j < i then j else i)) H
def rMax2 : List V → Hp → VK → Prop := fun xs H Q => ∃ i j, xs = [.int i, .int j] ∧ Q (.int (if j > i then j else i)) H
section
variable {X : Cx}
theorem z_len : CallR X (.builtin "len") (rLen X.K) := call_len
theorem z_strI : CallR X (.type "str") rStrI := call_str_int
theorem z_int1 : CallR X (.type "int") rInt1 := call_int1
theorem z_min2 (hc : X.calm = true) : CallR X (.builtin "min") rMin2 := call_min2 hc
theorem z_max2 (hc : X.calm = true) : CallR X (.builtin "max") rMax2 := call_max2 hc
theorem z_intS : CallR X (.type "int") rIntS := call_int_str
end
/-! ## readings, step by step -/
section
variable {K : PySem.W.Frag} {σ : St} {H : Hp} {Q : VK} {v x y : V} {ta tb tc te : TE} {t u : TT} {a b c p q C dx : Addr} {cs ds cs' : List As} {D : Ends} {t1 t2 : TS} {QA : List V → Hp → Prop} {QT : Bool → Hp → Prop} {tr : TA} {xs ys : List V} {i j : Int} {z z' : Str}
theorem s_var {i : Nat} (h : σ[i]? = some (some v)) (k : Q v H) : tVar i σ H Q := ⟨v, h, k⟩
theorem s_c (k : Q v H) : tC v σ H Q := k
theorem s_op {r : R2} (k : ta σ H fun x H1 => tb σ H1 fun y H2 => r x y H2 Q) : tOp r ta tb σ H Q := k
theorem s_un {r : V → Hp → VK → Prop} (k : ta σ H fun x H1 => r x H1 Q) : tUn r ta σ H Q := k
theorem s_addI (k : Q (.int (i + j)) H) : rAddZ (.int i) (.int j) H Q := .inl ⟨i, j, rfl, rfl, k⟩
theorem s_addS (h : z.length + z'.length ≤ sizeLine) (k : Q (.str (z ++ z')) H) : rAddZ (.str z) (.str z') H Q := .inr (.inl ⟨z, z', rfl, rfl, h, k⟩)
theorem s_addL (S : Sep cs H) (p1 : Pick (pt a (.lst xs)) cs ds) (p2 : Pick (pt b (.lst ys)) cs cs') (h : xs.length + ys.length ≤ sizeLine) (k : ∀ p H', Sep (pt p (.lst (xs ++ ys)) :: cs) H' → Q (.ref p) H') : rAddZ (.ref a) (.ref b) H Q :=
  .inr (.inr ⟨a, b, xs, ys, rfl, rfl, S.get p1, S.get p2, h, fun p n => k p _ (S.new n)⟩)
theorem s_mulI (h : CMul i j) (k : Q (.int (i * j)) H) : rMulZ (.int i) (.int j) H Q := .inl ⟨i, j, rfl, rfl, h, k⟩
theorem s_mulL (S : Sep cs H) (p1 : Pick (pt a (.lst xs)) cs ds) (h0 : -(2 ^ 63) ≤ j) (h1 : j < 2 ^ 63) (h : xs.length * j.toNat ≤ sizeLine) (k : ∀ p H', Sep (pt p (.lst (List.replicate j.toNat xs).flatten) :: cs) H' → Q (.ref p) H') : rMulZ (.ref a) (.int j) H Q := by
  refine .inr ⟨a, j, xs, rfl, rfl, S.get p1, h0, h1, h, fun p n => ?_⟩
  first
    | exact k p _ (S.new n)
    | (have := k p _ (S.new n); simpa using this)
theorem s_sub (k : Q (.int (i - j)) H) : rSubI (.int i) (.int j) H Q := ⟨i, j, rfl, rfl, k⟩
theorem s_mod (h : 0 < j) (k : Q (.int (i % j)) H) : rMod (.int i) (.int j) H Q := ⟨i, j, rfl, rfl, h, k⟩
theorem s_div (h : CDivW i j) (k : Q (.int (i / j)) H) : rDiv (.int i) (.int j) H Q := ⟨i, j, rfl, rfl, h, k⟩
theorem s_pow (h : CPow i j) (k : Q (.int (i ^ j.toNat)) H) : rPow (.int i) (.int j) H Q := ⟨i, j, rfl, rfl, h, k⟩
theorem s_lt (k : Q (.bl (decide (i < j))) H) : rLt (.int i) (.int j) H Q := ⟨i, j, rfl, rfl, k⟩
theorem s_le (k : Q (.bl (decide (i ≤ j))) H) : rLe (.int i) (.int j) H Q := ⟨i, j, rfl, rfl, k⟩
theorem s_gt (k : Q (.bl (decide (j < i))) H) : rGt (.int i) (.int j) H Q := ⟨i, j, rfl, rfl, k⟩
theorem s_ge (k : Q (.bl (decide (j ≤ i))) H) : rGe (.int i) (.int j) H Q := ⟨i, j, rfl, rfl, k⟩
theorem s_isN (k : Q (.bl (decide (x = .non))) H) : rIsN x .non H Q := ⟨rfl, k⟩
theorem s_notN (k : Q (.bl (!decide (x = .non))) H) : rNotN x .non H Q := ⟨rfl, k⟩
theorem s_eq (h : scal x y = true) (k : Q (.bl (decide (x = y))) H) : rEqZ K x y H Q := .inl ⟨h, k⟩
theorem s_ne (h : scal x y = true) (k : Q (.bl (!decide (x = y))) H) : rNeZ K x y H Q := .inl ⟨h, k⟩
theorem s_eqI (k : Q (.bl (decide (i = j))) H) : rEqZ K (.int i) (.int j) H Q := by
  refine .inl ⟨rfl, ?_⟩
  have e : decide (V.int i = V.int j) = decide (i = j) := by simp only [V.int.injEq]
  rw [e]
  exact k
theorem s_neI (k : Q (.bl (!decide (i = j))) H) : rNeZ K (.int i) (.int j) H Q := by
  refine .inl ⟨rfl, ?_⟩
  have e : decide (V.int i = V.int j) = decide (i = j) := by simp only [V.int.injEq]
  rw [e]
  exact k
theorem s_eqS (k : Q (.bl (decide (z = z'))) H) : rEqZ K (.str z) (.str z') H Q := by
  refine .inl ⟨rfl, ?_⟩
  have e : decide (V.str z = V.str z') = decide (z = z') := by simp only [V.str.injEq]
  rw [e]
  exact k
theorem s_neS (k : Q (.bl (!decide (z = z'))) H) : rNeZ K (.str z) (.str z') H Q := by
  refine .inl ⟨rfl, ?_⟩
  have e : decide (V.str z = V.str z') = decide (z = z') := by simp only [V.str.injEq]
  rw [e]
  exact k
theorem s_eqD {d e : PyData} (hd : Dp K H x d) (he : Dp K H y e) (h1 : SeqAt.shaped d = true) (h2 : SeqAt.shaped e = true) (k : Q (.bl (PyData.eqv d e)) H) : rEqZ K x y H Q := .inr ⟨d, e, hd, he, h1, h2, k⟩
theorem s_neD {d e : PyData} (hd : Dp K H x d) (he : Dp K H y e) (h1 : SeqAt.shaped d = true) (h2 : SeqAt.shaped e = true) (k : Q (.bl (!PyData.eqv d e)) H) : rNeZ K x y H Q := .inr ⟨d, e, hd, he, h1, h2, k⟩
theorem s_inS {c : Nat} (k : Q (.bl (decide (c ∈ z.cps.toList))) H) : rInS (.str ⟨#[c]⟩) (.str z) H Q := ⟨c, z, rfl, rfl, k⟩
theorem s_notInS {c : Nat} (k : Q (.bl (!decide (c ∈ z.cps.toList))) H) : rNotInS (.str ⟨#[c]⟩) (.str z) H Q := ⟨c, z, rfl, rfl, k⟩
theorem s_inL (S : Sep cs H) (p1 : Pick (pt a (.lst xs)) cs ds) (hx : flatV x = true) (hs : xs.all flatV = true) (k : Q (.bl (inV x xs)) H) : rIn K false x (.ref a) H Q := ⟨a, xs, rfl, .inl (SqL.of (S.get p1)), hx, hs, k⟩
theorem s_notInL (S : Sep cs H) (p1 : Pick (pt a (.lst xs)) cs ds) (hx : flatV x = true) (hs : xs.all flatV = true) (k : Q (.bl (!inV x xs)) H) : rIn K true x (.ref a) H Q := ⟨a, xs, rfl, .inl (SqL.of (S.get p1)), hx, hs, k⟩
theorem s_inT (S : Sep cs H) (p1 : Pick (pt a (.tup xs)) cs ds) (hx : flatV x = true) (hs : xs.all flatV = true) (k : Q (.bl (inV x xs)) H) : rIn K false x (.ref a) H Q := ⟨a, xs, rfl, .inr (SqT.of (S.get p1)), hx, hs, k⟩
theorem s_notInT (S : Sep cs H) (p1 : Pick (pt a (.tup xs)) cs ds) (hx : flatV x = true) (hs : xs.all flatV = true) (k : Q (.bl (!inV x xs)) H) : rIn K true x (.ref a) H Q := ⟨a, xs, rfl, .inr (SqT.of (S.get p1)), hx, hs, k⟩
/-- items by place -/
theorem s_ixL (S : Sep cs H) (p1 : Pick (pt a (.lst xs)) cs ds) (h : atI xs i = some v) (k : Q v H) : rIx K (.ref a) (.int i) H Q := .inl ⟨a, xs, i, v, rfl, rfl, SqL.of (S.get p1), h, k⟩
theorem s_ixQ (S : Sep cs H) (p1 : Pick (sq K a xs) cs ds) (h : atI xs i = some v) (k : Q v H) : rIx K (.ref a) (.int i) H Q := .inl ⟨a, xs, i, v, rfl, rfl, S.sq p1, h, k⟩
theorem s_ixT (S : Sep cs H) (p1 : Pick (pt a (.tup xs)) cs ds) (h : atI xs i = some v) (k : Q v H) : rIx K (.ref a) (.int i) H Q := .inr (.inl ⟨a, xs, i, v, rfl, rfl, SqT.of (S.get p1), h, k⟩)
theorem s_ixS {c : Nat} (h0 : z.length ≤ sizeLine) (h : atI z.cps.toList i = some c) (k : Q (.str ⟨#[c]⟩) H) : rIx K (.str z) (.int i) H Q := .inr (.inr ⟨z, i, c, rfl, rfl, h0, h, k⟩)
/-! tests -/
theorem s_test (k : te σ H fun x H' => ∃ k, x = .bl k ∧ QT k H') : tTest te σ H QT := k
theorem s_tB (k : te σ H fun x H' => ∃ k, x = .bl k ∧ QT k H') : tB te σ H QT := k
theorem s_bl {b : Bool} {R : Bool → Prop} (k : R b) : ∃ c, V.bl b = .bl c ∧ R c := ⟨b, rfl, k⟩
theorem s_tru (k : te σ H fun x H' => ∃ k, TruV K x H' k ∧ QT k H') : tTru K te σ H QT := k
theorem s_truB {b : Bool} {R : Bool → Prop} (k : R b) : ∃ c, TruV K (.bl b) H c ∧ R c := ⟨b, rfl, k⟩
theorem s_truN {R : Bool → Prop} (k : R false) : ∃ c, TruV K .non H c ∧ R c := ⟨false, rfl, k⟩
theorem s_truI {R : Bool → Prop} (k : R (i != 0)) : ∃ c, TruV K (.int i) H c ∧ R c := ⟨_, rfl, k⟩
theorem s_truS {R : Bool → Prop} (h : z.length ≤ sizeLine) (k : R ((z.length : Int) != 0)) : ∃ c, TruV K (.str z) H c ∧ R c := ⟨_, ⟨h, rfl⟩, k⟩
theorem s_truL {R : Bool → Prop} (S : Sep cs H) (p1 : Pick (pt a (.lst xs)) cs ds) (k : R (!xs.isEmpty)) : ∃ c, TruV K (.ref a) H c ∧ R c := ⟨_, .inl ⟨xs, SqL.of (S.get p1), rfl⟩, k⟩
theorem s_truT {R : Bool → Prop} (S : Sep cs H) (p1 : Pick (pt a (.tup xs)) cs ds) (k : R (!xs.isEmpty)) : ∃ c, TruV K (.ref a) H c ∧ R c := ⟨_, .inr (.inl ⟨xs, SqT.of (S.get p1), rfl⟩), k⟩
theorem s_and (k : t σ H fun c H1 => if c = true then u σ H1 QT else QT false H1) : tAnd t u σ H QT := k
theorem s_or (k : t σ H fun c H1 => if c = true then QT true H1 else u σ H1 QT) : tOr t u σ H QT := k
theorem s_not (k : t σ H fun c H1 => QT (!c) H1) : tNot t σ H QT := k
theorem s_andV (k : ta σ H fun x H1 => ∃ c, x = .bl c ∧ if c = true then tb σ H1 Q else Q (.bl false) H1) : tAndV ta tb σ H Q := k
theorem s_orV (k : ta σ H fun x H1 => ∃ c, x = .bl c ∧ if c = true then Q (.bl true) H1 else tb σ H1 Q) : tOrV ta tb σ H Q := k
theorem s_notV (k : ta σ H fun x H1 => ∃ c, x = .bl c ∧ Q (.bl (!c)) H1) : tNotV ta σ H Q := k
theorem s_if (k : t σ H fun c H1 => if c = true then ta σ H1 Q else tb σ H1 Q) : tIf t ta tb σ H Q := k
theorem s_orT (k : ta σ H fun x H1 => ∃ k, TruV K x H1 k ∧ if k = true then Q x H1 else tb σ H1 Q) : tOrT K ta tb σ H Q := k
theorem s_t {A B : Prop} (k : A) : if true = true then A else B := by rw [if_pos rfl]; exact k
theorem s_f {A B : Prop} (k : B) : if false = true then A else B := by rw [if_neg Bool.false_ne_true]; exact k
theorem s_ite {b : Bool} {A B : Prop} (h1 : b = true → A) (h2 : b = false → B) : if b = true then A else B := by
  cases b with
  | true => exact s_t (h1 rfl)
  | false => exact s_f (h2 rfl)
/-! arguments, displays -/
theorem s_nil (k : QA [] H) : tNil σ H QA := k
theorem s_cons (k : ta σ H fun x H1 => tr σ H1 fun xs H2 => QA (x :: xs) H2) : tCons ta tr σ H QA := k
theorem s_tup (k : tr σ H fun xs H1 => NewTup xs Q H1) : tTup tr σ H Q := k
theorem s_lst (k : tr σ H fun xs H1 => NewLst xs Q H1) : tLst tr σ H Q := k
theorem s_newT (h : xs.length ≤ sizeLine) (S : Sep cs H) (k : ∀ p H', Sep (pt p (.tup xs) :: cs) H' → Q (.ref p) H') : NewTup xs Q H := ⟨h, fun p n => k p _ (S.new n)⟩
theorem s_newL (h : xs.length ≤ sizeLine) (S : Sep cs H) (k : ∀ p H', Sep (pt p (.lst xs) :: cs) H' → Q (.ref p) H') : NewLst xs Q H := ⟨h, fun p n => k p _ (S.new n)⟩
/-! statements -/
theorem s_seq (k : t1 { D with nx := t2 D } σ H) : tSeq t1 t2 D σ H := k
theorem s_asg {g : TG} (k : te σ H fun x H1 => g x σ H1 D.nx) : tAsg te g D σ H := k
theorem s_ifS {c : TT} (k : c σ H fun b H1 => if b = true then t1 D σ H1 else t2 D σ H1) : tIfS c t1 t2 D σ H := k
theorem s_ret (k : te σ H D.rt) : tRet te D σ H := k
theorem s_retN (k : D.rt .non H) : tRetN D σ H := k
theorem s_next (k : D.nx σ H) : tNext D σ H := k
theorem s_drop (k : te σ H fun _ H1 => D.nx σ H1) : tDrop te D σ H := k
theorem s_break (k : D.bk σ H) : tBreak D σ H := k
theorem s_cont (k : D.ct σ H) : tCont D σ H := k
theorem s_ipAdd (k : Q (.int (i + j)) H) : ipI (fun i j => i + j) (.int i) (.int j) H Q := ⟨i, j, rfl, rfl, k⟩
/-! targets -/
theorem s_gtup {n : Nat} {g : TGs} {R : St → Hp → Prop} (S : Sep cs H) (p1 : Pick (pt a (.tup xs)) cs ds) (h : xs.length = n) (k : g xs σ H R) : gTup K n g (.ref a) σ H R := ⟨a, xs, rfl, SqT.of (S.get p1), h, k⟩
theorem s_gcons {g : TG} {gs : TGs} {R : St → Hp → Prop} (k : g v σ H fun σ' H' => gs xs σ' H' R) : gCons g gs (v :: xs) σ H R := ⟨v, xs, rfl, k⟩
theorem s_gnil {R : St → Hp → Prop} (k : R σ H) : gNil [] σ H R := ⟨rfl, k⟩
theorem s_gsub {to ti : TE} {r : TSet} {R : St → Hp → Prop} (k : to σ H fun o H1 => ti σ H1 fun i H2 => r o i v H2 fun H3 => R σ H3) : gSub to ti r v σ H R := k
theorem s_setL {n : Nat} {R : Hp → Prop} (S : Sep cs H) (p1 : ∀ cs', Chg (pt a (.lst xs)) (pt a (.lst (xs.set n v))) cs cs' → ∀ H', Sep cs' H' → R H') (g : Chg (pt a (.lst xs)) (pt a (.lst (xs.set n v))) cs cs') (h : ixN xs.length i = some n) : rSetL (.ref a) (.int i) v H R :=
  ⟨a, xs, i, n, rfl, rfl, (let ⟨_, p, _⟩ := g.pick; S.get p), h, p1 _ g _ (S.set g rfl)⟩
/-! fields -/
theorem s_fld {f : Str} (k : ta σ H fun x H1 => FldGet K f x Q H1) : tFld K ta f σ H Q := k
theorem s_fldR {fs : List (Str × V)} {f : Str} (S : Sep cs H) (p1 : Pick (pt a (.ins C dx fs)) cs ds) (hc : Cls K C) (hn : NoAttr K C f) (hl : fs.lookup f = some v) (k : Q v H) : FldGet K f (.ref a) Q H := ⟨a, C, dx, fs, v, rfl, S.get p1, hc, hn, hl, k⟩
theorem s_sfld {tv : TE} {f : Str} (k : tv σ H fun y H1 => ta σ H1 fun x H2 => FldSet K f x y (fun H3 => D.nx σ H3) H2) : sFld K ta tv f D σ H := k
theorem s_sfldR {fs : List (Str × V)} {f : Str} {R : Hp → Prop} (S : Sep cs H) (g : Chg (pt a (.ins C dx fs)) (pt a (.ins C dx (putF f v fs))) cs cs') (hc : Cls K C) (hn : NoAttr K C f) (hl : fs.length < 1000) (k : ∀ H', Sep cs' H' → R H') : FldSet K f (.ref a) v R H :=
  ⟨a, C, dx, fs, rfl, (let ⟨_, p, _⟩ := g.pick; S.get p), hc, hn, hl, k _ (S.set g rfl)⟩
/-! calls -/
theorem s_call {sp : Sp} {E : St → XK} (k : tr σ H fun vs H1 => sp vs H1 Q (E σ)) : tCallS sp E tr σ H Q := k
theorem s_cb {r : List V → Hp → VK → Prop} (k : tr σ H fun vs H1 => r vs H1 Q) : tCB r tr σ H Q := k
theorem s_mt {Cs : List Addr} {m : Str} {sp : Addr → Sp} {E : St → XK} (k : ta σ H fun x H1 => MtGo Cs m x (fun C H1 => tr σ H1 fun vs H2 => sp C (x :: vs) H2 Q (E σ)) H1) : tMt Cs m sp E ta tr σ H Q := k
theorem s_mtR {Cs : List Addr} {m : Str} {fs : List (Str × V)} {R : Addr → Hp → Prop} (S : Sep cs H) (p1 : Pick (pt a (.ins C dx fs)) cs ds) (hC : C ∈ Cs) (hl : fs.lookup m = none) (k : R C H) : MtGo Cs m (.ref a) R H := ⟨a, C, dx, fs, rfl, S.get p1, hC, hl, k⟩
theorem s_mk {sp : Sp} {E : St → XK} (k : tr σ H fun vs H1 => MkGo C sp (E σ) vs Q H1) : tMk C sp E tr σ H Q := k
theorem s_mkR {sp : Sp} {E : XK} {vs : List V} (S : Sep cs H) (k : ∀ x dx H', Sep (pt x (.ins C dx []) :: cs) H' → sp (.ref x :: vs) H' (fun v H2 => v = .non ∧ Q (.ref x) H2) E) : MkGo C sp E vs Q H := fun x dx hx hd ne => by
  refine k x dx _ ((S.new (o := .own x) hd).tail.new ?_)
  rw [upd_ne (Ne.symm ne)]
  exact hx
/-! built-in calls -/
theorem s_lenL (S : Sep cs H) (p1 : Pick (pt a (.lst xs)) cs ds) (k : Q (.int xs.length) H) : rLen K [.ref a] H Q := ⟨_, _, rfl, .inl ⟨xs, SqL.of (S.get p1), rfl⟩, k⟩
theorem s_lenQ (S : Sep cs H) (p1 : Pick (sq K a xs) cs ds) (k : Q (.int xs.length) H) : rLen K [.ref a] H Q := ⟨_, _, rfl, .inl ⟨xs, S.sq p1, rfl⟩, k⟩
theorem s_lenT (S : Sep cs H) (p1 : Pick (pt a (.tup xs)) cs ds) (k : Q (.int xs.length) H) : rLen K [.ref a] H Q := ⟨_, _, rfl, .inr ⟨xs, SqT.of (S.get p1), rfl⟩, k⟩
theorem s_lenS (h : z.length ≤ sizeLine) (k : Q (.int z.length) H) : rLen K [.str z] H Q := ⟨_, _, rfl, ⟨h, rfl⟩, k⟩
theorem s_strI (h : i.natAbs.log2 < 1920) (k : Q (.str (toString i)) H) : rStrI [.int i] H Q := ⟨i, rfl, h, k⟩
theorem s_intI (k : Q (.int i) H) : rInt1 [.int i] H Q := .inl ⟨i, rfl, k⟩
theorem s_intB {b : Bool} (k : Q (.int (if b then 1 else 0)) H) : rInt1 [.bl b] H Q := .inr ⟨b, rfl, k⟩
theorem s_intS (h : PySem.intText? z = some i) (h2 : z.length ≤ 640) (k : Q (.int i) H) : rIntS [.str z] H Q := ⟨z, i, rfl, h, h2, k⟩
/-! methods of built-in types -/
theorem s_bm {T : String} {r : V → List V → Hp → VK → Prop} (k : ta σ H fun x H1 => tyV K T x H1 ∧ tr σ H1 fun xs H2 => r x xs H2 Q) : tBM K T r ta tr σ H Q := k
theorem s_bm0 {T : String} {r : V → List V → Hp → VK → Prop} (k : ta σ H fun x H1 => tyV K T x H1 ∧ r x [] H1 Q) : tBM0 K T r ta σ H Q := k
theorem s_tyL {R : Prop} (S : Sep cs H) (p1 : Pick (pt a (.lst xs)) cs ds) (k : R) : tyV K "list" (.ref a) H ∧ R := ⟨.inl ⟨rfl, _, SqL.of (S.get p1)⟩, k⟩
theorem s_append (S : Sep cs H) (g : Chg (pt a (.lst xs)) (pt a (.lst (xs ++ [v]))) cs cs') (h : xs.length < sizeLine) (k : ∀ H', Sep cs' H' → Q .non H') : rAppend (.ref a) [v] H Q :=
  ⟨a, xs, v, rfl, rfl, (let ⟨_, p, _⟩ := g.pick; S.get p), h, k _ (S.set g rfl)⟩
theorem s_extend (S : Sep cs H) (g : Chg (pt a (.lst xs)) (pt a (.lst (xs ++ ys))) cs cs') (p1 : Pick (pt b (.lst ys)) cs ds) (h : xs.length + ys.length ≤ sizeLine) (k : ∀ H', Sep cs' H' → Q .non H') : rExtend (.ref a) [.ref b] H Q :=
  ⟨a, b, xs, ys, rfl, rfl, (let ⟨_, p, _⟩ := g.pick; S.get p), S.get p1, h, k _ (S.set g rfl)⟩
end
end L2.Zs
namespace L2.Zs
open PySem PySem.Spec PyProof.Rows
inductive SetAt : St → Nat → V → St → Prop
  | here {x σ v} : SetAt (x :: σ) 0 v (some v :: σ)
  | there {x σ i v σ'} : SetAt σ i v σ' → SetAt (x :: σ) (i + 1) v (x :: σ')
theorem SetAt.eq {σ σ' : St} {i : Nat} {v : V} (h : SetAt σ i v σ') : σ.set i (some v) = σ' := by
  induction h with
  | here => rfl
  | there h ih => simp only [List.set_cons_succ, ih]
section
variable {K : PySem.W.Frag} {σ σ' : St} {H : Hp} {Q : VK} {v x y : V} {ta tb tc te : TE} {t u : TT} {a b c p q C dx : Addr} {cs ds cs' : List As} {D : Ends} {t1 t2 tB : TS} {QA : List V → Hp → Prop} {QT : Bool → Hp → Prop} {tr : TA} {xs ys : List V} {i j : Int} {z z' : Str} {g : TG}
theorem s_name {i : Nat} {R : St → Hp → Prop} (h : SetAt σ i v σ') (k : R σ' H) : gName i v σ H R := by
  show R (σ.set i (some v)) H
  rw [h.eq]
  exact k
theorem s_aug {i : Nat} {ti : TIp} (h : σ[i]? = some (some x)) (k : te σ H fun y H1 => ti x y H1 fun z H2 => gName i z σ H2 D.nx) : tAug i te ti D σ H := ⟨x, h, k⟩
theorem s_neg (k : Q (.int (-i)) H) : rU (fun i => .int (-i)) (.int i) H Q := ⟨i, rfl, k⟩
theorem cmul_l (h : -(2 ^ 64) < i ∧ i < 2 ^ 64) : CMul i j := .inl h
theorem cmul_r (h : -(2 ^ 64) < j ∧ j < 2 ^ 64) : CMul i j := .inr h
theorem cdiv_of (h : 0 < j) (h2 : j.natAbs.log2 < 9000) : CDivW i j := ⟨h, h2⟩
theorem cpow_of (h : 0 ≤ j) (h1 : j ≤ 1000000) (h2 : i.natAbs < 2 ^ 64) : CPow i j := ⟨h, h1, h2⟩
/-- a loop by its turns -/
def Lp (J : It) (g : TG) (tb : TS) (D : Ends) (σ : St) (H : Hp) : Prop := ∃ W : Nat → Nat → St → Hp → Prop, (∃ m, W 0 m σ H) ∧ ∀ i m σ H, W i m σ H →
  (J.stop i H ∧ D.nx σ H) ∨ (J.go i H ∧ ∃ N : St → Hp → Prop, (∀ σ' H', N σ' H' → ∃ m', m' < m ∧ W (i + 1) m' σ' H') ∧ ∀ x H', J.yld i H x H' → g x σ H' fun σ2 H2 => tb { D with nx := N, ct := N, bk := D.nx } σ2 H2)
theorem s_forR1 (k : tr σ H fun vs H1 => ∃ j : Int, vs = [.int j] ∧ -(2 ^ 62) ≤ j ∧ j < 2 ^ 62 ∧ Lp (Itr 0 j.toNat) g tB D σ H1) : tFor (iRng1 tr) g tB D σ H := k
theorem s_rng1 (h0 : 0 ≤ j) (h1 : j < 2 ^ 62) (k : Lp (Itr 0 j.toNat) g tB D σ H) : ∃ j' : Int, [V.int j] = [.int j'] ∧ -(2 ^ 62) ≤ j' ∧ j' < 2 ^ 62 ∧ Lp (Itr 0 j'.toNat) g tB D σ H := ⟨j, rfl, by omega, h1, k⟩
theorem s_forL (k : te σ H fun x H1 => ∃ a, x = .ref a ∧ (∃ xs, SqL K H1 a xs) ∧ Lp (Itl K a) g tB D σ H1) : tFor (iList K te) g tB D σ H := k
theorem s_list (S : Sep cs H) (p : Pick (pt a (.lst xs)) cs ds) (k : Lp (Itl K a) g tB D σ H) : ∃ a', V.ref a = .ref a' ∧ (∃ xs, SqL K H a' xs) ∧ Lp (Itl K a') g tB D σ H := ⟨a, rfl, ⟨xs, SqL.of (S.get p)⟩, k⟩
theorem lp_range {n : Nat} (Pv : Nat → St → Hp → Prop) (h0 : Pv 0 σ H) (hs : ∀ i σ H, i < n → Pv i σ H → g (.int (i : Nat)) σ H fun σ2 H2 => tB { D with nx := Pv (i + 1), ct := Pv (i + 1), bk := D.nx } σ2 H2) (hd : ∀ σ H, Pv n σ H → D.nx σ H) :
    Lp (Itr 0 n) g tB D σ H := for_range Pv h0 (fun i σ H hi p => by
      have := hs i σ H hi p
      rw [Int.zero_add]
      exact this) hd
theorem lp_list (Pv : Nat → St → Hp → Prop) (h0 : Pv 0 σ H) (hl : ∀ i σ H, i ≤ xs.length → Pv i σ H → SqL K H a xs)
    (hs : ∀ i x σ H, xs[i]? = some x → Pv i σ H → g x σ H fun σ2 H2 => tB { D with nx := Pv (i + 1), ct := Pv (i + 1), bk := D.nx } σ2 H2) (hd : ∀ σ H, Pv xs.length σ H → D.nx σ H) :
    Lp (Itl K a) g tB D σ H := for_list Pv h0 hl hs hd
theorem s_start {t : TS} {σ0 : St} (h : σ0 = σ) (k : t D σ H) : t D σ0 H := by rw [h]; exact k
/-- a new instance, its fields to come -/
theorem atI_of {α : Type} {xs : List α} {i : Int} {v : α} (h0 : 0 ≤ i) (h : xs[i.toNat]? = some v) : atI xs i = some v := by
  have := atI_nat h
  rwa [Int.toNat_of_nonneg h0] at this
theorem ixN_of {n : Nat} {i : Int} (h0 : 0 ≤ i) (h1 : i < n) : ixN n i = some i.toNat := by
  unfold ixN
  rw [if_pos h0, if_pos h1]
theorem atI_lt {α : Type} {xs : List α} {i : Int} (h0 : 0 ≤ i) (h1 : i < xs.length) : ∃ v, atI xs i = some v ∧ v ∈ xs ∧ xs[i.toNat]? = some v := by
  have h : i.toNat < xs.length := by omega
  exact ⟨xs[i.toNat], atI_of h0 (List.getElem?_eq_getElem h), List.getElem_mem h, List.getElem?_eq_getElem h⟩
end
/-! ## draws -/
/-- what the law's cells are -/
def spCell (K : PySem.W.Frag) : Sp := fun vs H Q _ => ∃ (a : Addr) (ns : List Int) (k : Int) (cs : List As), vs = [.ref a, .int k] ∧ Sep (sq K a (ns.map V.int) :: cs) H ∧ 0 ≤ k ∧ ∀ z, Q (.int z) H
theorem len_cell {K vs H Q E} (h : spCell K vs H Q E) : vs.length = 2 := by obtain ⟨a, ns, k, cs, rfl, _⟩ := h; rfl
/-- a row of draws below base -/
def spDraws (K : PySem.W.Frag) : Sp := fun vs H Q _ => ∃ (a : Addr) (ns : List Int) (k many base : Int) (cs : List As), vs = [.ref a, .int k, .int many, .int base] ∧ Sep (sq K a (ns.map V.int) :: cs) H ∧ 0 ≤ k ∧ k < 1000000 ∧ 0 ≤ many ∧ many < 1000000 ∧ CDivW 0 base ∧
  ∀ (row : List Int) (p : Addr) (H' : Hp), (row.length : Int) = many → (∀ r ∈ row, 0 ≤ r ∧ r < base) → Sep (pt p (.lst (row.map V.int)) :: sq K a (ns.map V.int) :: cs) H' → Q (.ref p) H'
theorem len_draws {K vs H Q E} (h : spDraws K vs H Q E) : vs.length = 4 := by obtain ⟨a, ns, k, many, base, cs, rfl, _⟩ := h; rfl

theorem s_ifd {p A B : Prop} [Decidable p] (h1 : p → A) (h2 : ¬ p → B) : if decide p = true then A else B := by
  by_cases h : p
  · rw [decide_eq_true h]; exact s_t (h1 h)
  · rw [decide_eq_false h]; exact s_f (h2 h)
theorem s_ifn {p A B : Prop} [Decidable p] (h1 : ¬ p → A) (h2 : p → B) : if (!decide p) = true then A else B := by
  by_cases h : p
  · rw [decide_eq_true h]; exact s_f (h2 h)
  · rw [decide_eq_false h]; exact s_t (h1 h)

theorem atI_int {ns : List Int} {i : Int} (h0 : 0 ≤ i) (h1 : i < ns.length) : ∃ z, z ∈ ns ∧ atI (ns.map V.int) i = some (.int z) ∧ ns[i.toNat]? = some z := by
  have h : i.toNat < ns.length := by omega
  refine ⟨ns[i.toNat], List.getElem_mem h, atI_of h0 ?_, List.getElem?_eq_getElem h⟩
  rw [List.getElem?_map, List.getElem?_eq_getElem h]
  rfl
def prL : List Int := [2147483647, 2147483629, 2147483587, 2147483579, 2147483563, 2147483549, 2147483543, 2147483497]
theorem prL_ok : ∀ p ∈ prL, 0 < p ∧ p < 2147483648 := by decide
theorem prL_at (i : Int) : ∃ z, (0 < z ∧ z < 2147483648) ∧ atI (prL.map V.int) (i % 8) = some (.int z) := by
  obtain ⟨z, h, e, _⟩ := atI_int (ns := prL) (i := i % 8) (Int.emod_nonneg _ (by decide)) (Int.emod_lt_of_pos _ (by decide))
  exact ⟨z, prL_ok z h, e⟩
theorem emod_in (x : Int) {p : Int} (h : 0 < p) : 0 ≤ x % p ∧ x % p < p := ⟨Int.emod_nonneg _ (by omega), Int.emod_lt_of_pos _ h⟩

/-- two ways meet: M holds where they meet -/
theorem s_cut {t1 t2 : TS} {D : Ends} {σ : St} {H : Hp} (M : St → Hp → Prop) (h2 : ∀ σ H, M σ H → t2 D σ H) (h1 : ∀ N : St → Hp → Prop, (∀ σ H, M σ H → N σ H) → t1 { D with nx := N } σ H) : tSeq t1 t2 D σ H := h1 _ h2

section
variable {t2 : TS} {D : Ends} {σ : St} {H : Hp} {te ta tv : TE} {g : TG} {wi : TI} {tb : TS} {K : PySem.W.Frag} {f : Str}
theorem s_seqA (k : tAsg te g { D with nx := t2 D } σ H) : tSeq (tAsg te g) t2 D σ H := k
theorem s_seqD (k : tDrop te { D with nx := t2 D } σ H) : tSeq (tDrop te) t2 D σ H := k
theorem s_seqF (k : tFor wi g tb { D with nx := t2 D } σ H) : tSeq (tFor wi g tb) t2 D σ H := k
theorem s_seqS (k : sFld K ta tv f { D with nx := t2 D } σ H) : tSeq (sFld K ta tv f) t2 D σ H := k
theorem s_nxI {f : St → Hp → Prop} {rt : VK} {bk ct : St → Hp → Prop} (k : f σ H) : (Ends.mk f rt bk ct).nx σ H := k
theorem s_ctI {f : St → Hp → Prop} {rt : VK} {bk ct : St → Hp → Prop} (k : ct σ H) : (Ends.mk f rt bk ct).ct σ H := k
theorem s_bkI {f : St → Hp → Prop} {rt : VK} {bk ct : St → Hp → Prop} (k : bk σ H) : (Ends.mk f rt bk ct).bk σ H := k
theorem s_seqR (k : tRet te { D with nx := t2 D } σ H) : tSeq (tRet te) t2 D σ H := k
end
end L2.Zs
namespace L2.Zs
open PySem PySem.Spec PyProof.Rows
/-- a follows from b, by a reading's shape -/
class Stp (a : Prop) (b : outParam Prop) : Prop where
  go : b → a
class AtS (σ : St) (i : Nat) (v : outParam V) : Prop where
  at_ : σ[i]? = some (some v)
instance {σ : St} {v : V} : AtS (some v :: σ) 0 v := ⟨rfl⟩
instance {σ : St} {x : Option V} {i : Nat} {v : V} [h : AtS σ i v] : AtS (x :: σ) (i + 1) v := ⟨h.at_⟩
class PutS (σ : St) (i : Nat) (v : V) (σ' : outParam St) : Prop where
  put : SetAt σ i v σ'
instance {σ : St} {v : V} {x : Option V} : PutS (x :: σ) 0 v (some v :: σ) := ⟨.here⟩
instance {σ σ' : St} {x : Option V} {i : Nat} {v : V} [h : PutS σ i v σ'] : PutS (x :: σ) (i + 1) v (x :: σ') := ⟨.there h.put⟩
section
variable {K : PySem.W.Frag} {σ σ' : St} {H : Hp} {Q : VK} {v x y : V} {ta tb tc te tv : TE} {t u : TT} {a b c p q C dx : Addr} {cs ds cs' : List As} {D : Ends} {t1 t2 tBd : TS} {QA : List V → Hp → Prop} {QT : Bool → Hp → Prop} {tr : TA} {xs ys : List V} {i j : Int} {z z' : Str} {g : TG}
instance : Stp (tSeq (tAsg te g) t2 D σ H) (tAsg te g { D with nx := t2 D } σ H) := ⟨id⟩
instance : Stp (tSeq (tDrop te) t2 D σ H) (tDrop te { D with nx := t2 D } σ H) := ⟨id⟩
instance {wi : TI} : Stp (tSeq (tFor wi g tBd) t2 D σ H) (tFor wi g tBd { D with nx := t2 D } σ H) := ⟨id⟩
instance {f : PySem.Str} : Stp (tSeq (sFld K ta tv f) t2 D σ H) (sFld K ta tv f { D with nx := t2 D } σ H) := ⟨id⟩
instance : Stp (tSeq (tRet te) t2 D σ H) (tRet te { D with nx := t2 D } σ H) := ⟨id⟩
instance {i : Nat} {ti : TIp} : Stp (tSeq (tAug i te ti) t2 D σ H) (tAug i te ti { D with nx := t2 D } σ H) := ⟨id⟩
instance {tk : TE} : Stp (tSeq (sDPut ta tk tv) t2 D σ H) (sDPut ta tk tv { D with nx := t2 D } σ H) := ⟨id⟩
instance {tk : TE} {rd : V → V → Hp → VK → Prop} : Stp (tSeq (sDAug ta tk tv rd) t2 D σ H) (sDAug ta tk tv rd { D with nx := t2 D } σ H) := ⟨id⟩
instance {to ti : TE} {tg : V → V → Hp → VK → Prop} {tip : TIp} {ts : TSet} : Stp (tSeq (tAugS to ti te tg tip ts) t2 D σ H) (tAugS to ti te tg tip ts { D with nx := t2 D } σ H) := ⟨id⟩
instance {f : St → Hp → Prop} {rt : VK} {bk ct : St → Hp → Prop} : Stp ((Ends.mk f rt bk ct).nx σ H) (f σ H) := ⟨id⟩
instance {f : St → Hp → Prop} {rt : VK} {bk ct : St → Hp → Prop} : Stp ((Ends.mk f rt bk ct).ct σ H) (ct σ H) := ⟨id⟩
instance {f : St → Hp → Prop} {rt : VK} {bk ct : St → Hp → Prop} : Stp ((Ends.mk f rt bk ct).bk σ H) (bk σ H) := ⟨id⟩
instance {f : St → Hp → Prop} {rt : VK} {bk ct : St → Hp → Prop} : Stp ((Ends.mk f rt bk ct).rt v H) (rt v H) := ⟨id⟩
instance : Stp (tAsg te g D σ H) (te σ H fun x H1 => g x σ H1 D.nx) := ⟨id⟩
instance {i : Nat} {R : St → Hp → Prop} [h : PutS σ i v σ'] : Stp (gName i v σ H R) (R σ' H) := ⟨s_name h.put⟩
instance {i : Nat} [h : AtS σ i v] : Stp (tVar i σ H Q) (Q v H) := ⟨s_var h.at_⟩
instance : Stp (tC v σ H Q) (Q v H) := ⟨id⟩
instance {r : R2} : Stp (tOp r ta tb σ H Q) (ta σ H fun x H1 => tb σ H1 fun y H2 => r x y H2 Q) := ⟨id⟩
instance {r : V → Hp → VK → Prop} : Stp (tUn r ta σ H Q) (ta σ H fun x H1 => r x H1 Q) := ⟨id⟩
instance : Stp (rAddZ (.int i) (.int j) H Q) (Q (.int (i + j)) H) := ⟨s_addI⟩
instance : Stp (rSubI (.int i) (.int j) H Q) (Q (.int (i - j)) H) := ⟨s_sub⟩
instance : Stp (rLt (.int i) (.int j) H Q) (Q (.bl (decide (i < j))) H) := ⟨s_lt⟩
instance : Stp (rLe (.int i) (.int j) H Q) (Q (.bl (decide (i ≤ j))) H) := ⟨s_le⟩
instance : Stp (rGt (.int i) (.int j) H Q) (Q (.bl (decide (j < i))) H) := ⟨s_gt⟩
instance : Stp (rGe (.int i) (.int j) H Q) (Q (.bl (decide (j ≤ i))) H) := ⟨s_ge⟩
instance : Stp (rIsN x .non H Q) (Q (.bl (decide (x = .non))) H) := ⟨s_isN⟩
instance : Stp (rNotN x .non H Q) (Q (.bl (!decide (x = .non))) H) := ⟨s_notN⟩
instance : Stp (rEqZ K (.int i) (.int j) H Q) (Q (.bl (decide (i = j))) H) := ⟨s_eqI⟩
instance : Stp (rNeZ K (.int i) (.int j) H Q) (Q (.bl (!decide (i = j))) H) := ⟨s_neI⟩
instance : Stp (rEqZ K (.str z) (.str z') H Q) (Q (.bl (decide (z = z'))) H) := ⟨s_eqS⟩
instance : Stp (rNeZ K (.str z) (.str z') H Q) (Q (.bl (!decide (z = z'))) H) := ⟨s_neS⟩
instance {c : Nat} : Stp (rInS (.str ⟨#[c]⟩) (.str z) H Q) (Q (.bl (decide (c ∈ z.cps.toList))) H) := ⟨s_inS⟩
instance {c : Nat} : Stp (rNotInS (.str ⟨#[c]⟩) (.str z) H Q) (Q (.bl (!decide (c ∈ z.cps.toList))) H) := ⟨s_notInS⟩
instance : Stp (rU (fun i => .int (-i)) (.int i) H Q) (Q (.int (-i)) H) := ⟨s_neg⟩
instance {c : TT} : Stp (tIfS c t1 t2 D σ H) (c σ H fun b H1 => if b = true then t1 D σ H1 else t2 D σ H1) := ⟨id⟩
instance : Stp (tTest te σ H QT) (te σ H fun x H' => ∃ k, x = .bl k ∧ QT k H') := ⟨id⟩
instance : Stp (tB te σ H QT) (te σ H fun x H' => ∃ k, x = .bl k ∧ QT k H') := ⟨id⟩
instance : Stp (tTru K te σ H QT) (te σ H fun x H' => ∃ k, TruV K x H' k ∧ QT k H') := ⟨id⟩
instance {b : Bool} {R : Bool → Prop} : Stp (∃ c, V.bl b = .bl c ∧ R c) (R b) := ⟨s_bl⟩
instance {b : Bool} {R : Bool → Prop} : Stp (∃ c, TruV K (.bl b) H c ∧ R c) (R b) := ⟨s_truB⟩
instance {R : Bool → Prop} : Stp (∃ c, TruV K .non H c ∧ R c) (R false) := ⟨s_truN⟩
instance {R : Bool → Prop} : Stp (∃ c, TruV K (.int i) H c ∧ R c) (R (i != 0)) := ⟨s_truI⟩
instance : Stp (tAnd t u σ H QT) (t σ H fun c H1 => if c = true then u σ H1 QT else QT false H1) := ⟨id⟩
instance : Stp (tOr t u σ H QT) (t σ H fun c H1 => if c = true then QT true H1 else u σ H1 QT) := ⟨id⟩
instance : Stp (tNot t σ H QT) (t σ H fun c H1 => QT (!c) H1) := ⟨id⟩
instance : Stp (tAndV ta tb σ H Q) (ta σ H fun x H1 => ∃ c, x = .bl c ∧ if c = true then tb σ H1 Q else Q (.bl false) H1) := ⟨id⟩
instance : Stp (tOrV ta tb σ H Q) (ta σ H fun x H1 => ∃ c, x = .bl c ∧ if c = true then Q (.bl true) H1 else tb σ H1 Q) := ⟨id⟩
instance : Stp (tNotV ta σ H Q) (ta σ H fun x H1 => ∃ c, x = .bl c ∧ Q (.bl (!c)) H1) := ⟨id⟩
instance : Stp (tNotT K ta σ H Q) (ta σ H fun x H1 => ∃ k, TruV K x H1 k ∧ Q (.bl (!k)) H1) := ⟨id⟩
instance : Stp (tIf t ta tb σ H Q) (t σ H fun c H1 => if c = true then ta σ H1 Q else tb σ H1 Q) := ⟨id⟩
instance : Stp (tOrT K ta tb σ H Q) (ta σ H fun x H1 => ∃ k, TruV K x H1 k ∧ if k = true then Q x H1 else tb σ H1 Q) := ⟨id⟩
instance : Stp (tAndT K ta tb σ H Q) (ta σ H fun x H1 => ∃ k, TruV K x H1 k ∧ if k = true then tb σ H1 Q else Q x H1) := ⟨id⟩
instance {A B : Prop} : Stp (if true = true then A else B) A := ⟨s_t⟩
instance {A B : Prop} : Stp (if false = true then A else B) B := ⟨s_f⟩
instance : Stp (tNil σ H QA) (QA [] H) := ⟨id⟩
instance : Stp (tCons ta tr σ H QA) (ta σ H fun x H1 => tr σ H1 fun xs H2 => QA (x :: xs) H2) := ⟨id⟩
instance : Stp (tTup tr σ H Q) (tr σ H fun xs H1 => NewTup xs Q H1) := ⟨id⟩
instance : Stp (tLst tr σ H Q) (tr σ H fun xs H1 => NewLst xs Q H1) := ⟨id⟩
instance : Stp (tRet te D σ H) (te σ H D.rt) := ⟨id⟩
instance : Stp (tRetN D σ H) (D.rt .non H) := ⟨id⟩
instance : Stp (tNext D σ H) (D.nx σ H) := ⟨id⟩
instance : Stp (tDrop te D σ H) (te σ H fun _ H1 => D.nx σ H1) := ⟨id⟩
instance : Stp (tCont D σ H) (D.ct σ H) := ⟨id⟩
instance : Stp (tBreak D σ H) (D.bk σ H) := ⟨id⟩
instance {r : List V → Hp → VK → Prop} : Stp (tCB r tr σ H Q) (tr σ H fun vs H1 => r vs H1 Q) := ⟨id⟩
instance {sp : Sp} {E : St → XK} : Stp (tCallS sp E tr σ H Q) (tr σ H fun vs H1 => sp vs H1 Q (E σ)) := ⟨id⟩
instance {Cs : List Addr} {m : PySem.Str} {sp : Addr → Sp} {E : St → XK} : Stp (tMt Cs m sp E ta tr σ H Q) (ta σ H fun x H1 => MtGo Cs m x (fun C H1 => tr σ H1 fun vs H2 => sp C (x :: vs) H2 Q (E σ)) H1) := ⟨id⟩
instance {sp : Sp} {E : St → XK} : Stp (tMk C sp E tr σ H Q) (tr σ H fun vs H1 => MkGo C sp (E σ) vs Q H1) := ⟨id⟩
instance {T : String} {r : V → List V → Hp → VK → Prop} : Stp (tBM K T r ta tr σ H Q) (ta σ H fun x H1 => tyV K T x H1 ∧ tr σ H1 fun xs H2 => r x xs H2 Q) := ⟨id⟩
instance {T : String} {r : V → List V → Hp → VK → Prop} : Stp (tBM0 K T r ta σ H Q) (ta σ H fun x H1 => tyV K T x H1 ∧ r x [] H1 Q) := ⟨id⟩
instance {to ti : TE} {r : TSet} {R : St → Hp → Prop} : Stp (gSub to ti r v σ H R) (to σ H fun o H1 => ti σ H1 fun i H2 => r o i v H2 fun H3 => R σ H3) := ⟨id⟩
instance {gs : TGs} {R : St → Hp → Prop} : Stp (gCons g gs (v :: xs) σ H R) (g v σ H fun σ' H' => gs xs σ' H' R) := ⟨s_gcons⟩
instance {R : St → Hp → Prop} : Stp (gNil [] σ H R) (R σ H) := ⟨s_gnil⟩
instance {i : Nat} {ti : TIp} [h : AtS σ i x] : Stp (tAug i te ti D σ H) (te σ H fun y H1 => ti x y H1 fun z H2 => gName i z σ H2 D.nx) := ⟨s_aug h.at_⟩
instance : Stp (ipI (fun i j => i + j) (.int i) (.int j) H Q) (Q (.int (i + j)) H) := ⟨s_ipAdd⟩
instance {f : PySem.Str} : Stp (tFld K ta f σ H Q) (ta σ H fun x H1 => FldGet K f x Q H1) := ⟨id⟩
instance {f : PySem.Str} : Stp (sFld K ta tv f D σ H) (tv σ H fun y H1 => ta σ H1 fun x H2 => FldSet K f x y (fun H3 => D.nx σ H3) H2) := ⟨id⟩
instance : Stp (tFor (iRng1 tr) g tBd D σ H) (tr σ H fun vs H1 => ∃ j : Int, vs = [.int j] ∧ -(2 ^ 62) ≤ j ∧ j < 2 ^ 62 ∧ Lp (Itr 0 j.toNat) g tBd D σ H1) := ⟨id⟩
instance : Stp (tFor (iList K te) g tBd D σ H) (te σ H fun x H1 => ∃ a, x = .ref a ∧ (∃ xs, SqL K H1 a xs) ∧ Lp (Itl K a) g tBd D σ H1) := ⟨id⟩
instance : Stp (rInt1 [.int i] H Q) (Q (.int i) H) := ⟨s_intI⟩
instance {b : Bool} : Stp (rInt1 [.bl b] H Q) (Q (.int (if b then 1 else 0)) H) := ⟨s_intB⟩
instance {to ti : TE} {tg : V → V → Hp → VK → Prop} {tip : TIp} {ts : TSet} : Stp (tAugS to ti te tg tip ts D σ H) (to σ H fun o H1 => ti σ H1 fun i H2 => tg o i H2 fun x H3 => te σ H3 fun y H4 => tip x y H4 fun z H5 => ts o i z H5 fun H6 => D.nx σ H6) := ⟨id⟩
end
end L2.Zs
namespace L2.Zs
open PySem PySem.Spec PyProof.Rows
/-! ## the rules that name the written part -/
section
variable {X : Cx} {K : PySem.W.Frag}
theorem k_eq (hK : X.K = K) (hu : X.A.units + 64 < cLine) : OpR X (compareOp .Eq) (rEqZ K) := hK ▸ zo_eq hu
theorem k_ne (hK : X.K = K) (hu : X.A.units + 64 < cLine) : OpR X (compareOp .NotEq) (rNeZ K) := hK ▸ zo_ne hu
theorem k_inQ (hK : X.K = K) : OpR X (compareOp .In) (rIn K false) := hK ▸ zo_inQ
theorem k_notInQ (hK : X.K = K) : OpR X (compareOp .NotIn) (rIn K true) := hK ▸ zo_notInQ
theorem k_ix (hK : X.K = K) : IxR X (rIx K) := hK ▸ ix_seq
theorem k_len (hK : X.K = K) : CallR X (.builtin "len") (rLen K) := hK ▸ z_len
theorem k_isi (hK : X.K = K) : CallR X (.builtin "isinstance") (rIsi K) := hK ▸ call_isi
theorem k_isiT (hK : X.K = K) : CallR X (.builtin "isinstance") (rIsiT K) := hK ▸ call_isiT
theorem k_slL (hK : X.K = K) : SlR X (rSlL K) := hK ▸ sl_list
theorem k_slT (hK : X.K = K) : SlR X (rSlT K) := hK ▸ sl_tup
def rListOf (K : PySem.W.Frag) : List V → Hp → VK → Prop := fun xs H Q => ∃ p ys, xs = [.ref p] ∧ (SqL K H p ys ∨ SqT K H p ys) ∧ ∀ l, H l = none → Q (.ref l) (upd H l (.lst ys))
theorem k_listOf (hK : X.K = K) : CallR X (.type "list") (rListOf K) := hK ▸ call_list_of
theorem k_tru {a : Expr} {ta : TE} (hK : X.K = K) (ha : PE X a ta) (he : ∀ whole, isTrue a X.env whole = (do let v ← whole; standAt a.pos; holding [v] (truthy v)) := by intro _; rfl) : PT X a (tTru K ta) := hK ▸ pt_truth ha he
theorem k_fld {e : Expr} {ta : TE} {f : PySem.Str} {pos : Pos} (hK : X.K = K) (he : PE X e ta) (hb : attributeBase e f X.env (eval e X.env) = eval e X.env) : PE X (.Attribute e f pos) (tFld K ta f) := hK ▸ pe_fld he hb
theorem k_sfld {o value : Expr} {ta tv : TE} {f : PySem.Str} {pos pos' : Pos} (hK : X.K = K) (ha : PE X o ta) (hv : PE X value tv) (hs : swapsWith value (some (.Attribute o f pos')) pos.line X.env = pure false) : PS X (.Assign [.Attribute o f pos'] value pos) (sFld K ta tv f) := hK ▸ ps_fld ha hv hs
theorem k_fldaug {o value : Expr} {ta tv : TE} {f : PySem.Str} {pos tpos : Pos} {op : Operator} {rd : V → V → Hp → VK → Prop} (hK : X.K = K) (ha : PE X o ta) (hv : PE X value tv) (hop : InOp X op rd) : PS X (.AugAssign (.Attribute o f tpos) op value pos) (sFldAug K ta tv rd f) := hK ▸ ps_fldaug ha hv hop
theorem k_list {tg l : Expr} {tl : TE} (hK : X.K = K) (hl : PE X l tl) : PI X tg l (iList K tl) := hK ▸ pi_list hl
theorem k_tup {tg l : Expr} {tl : TE} (hK : X.K = K) (hl : PE X l tl) : PI X tg l (iTup K tl) := hK ▸ pi_tup hl
theorem k_enum {e : Expr} {ta : TA} {p pos tpos : Pos} {elts : List Expr} {kk : Nat} (hK : X.K = K) (hg : Gl X "enumerate") (hm : X.mg "enumerate" = none) (ha : PA X [e] ta) (hs : starEach [e] X.env = [(false, eval e X.env)] := by rfl) :
    PI X (.Tuple elts kk tpos) (.Call (.Name "enumerate" p) [e] [] pos) (iEnum K ta) := hK ▸ pi_enum hg hm ha hs
theorem k_zip {e e2 : Expr} {ta : TA} {p pos tpos : Pos} {elts : List Expr} {kk : Nat} (hK : X.K = K) (hg : Gl X "zip") (hm : X.mg "zip" = none) (ha : PA X [e, e2] ta)
    (hs : starEach [e, e2] X.env = (false, eval e X.env) :: starEach [e2] X.env := by rfl) (hpl : (backTo pos (starEach [e2] X.env)).any (·.1) = false := by rfl) :
    PI X (.Tuple elts kk tpos) (.Call (.Name "zip" p) [e, e2] [] pos) (iZip K ta) := hK ▸ pi_zip hg hm ha hs hpl
theorem k_gtup {es : List Expr} {kk : Nat} {t : TGs} {n : Nat} {pos : Pos} (hK : X.K = K) (hc : X.calm = true) (h : PGs X es t)
    (hn : (assignEach es X.env).length = n := by rfl) (hst : (assignEach es X.env).findIdx? (·.1) = none := by rfl) : PG X (.Tuple es kk pos) (gTup K n t) := hK ▸ pg_tup hc h hn hst
theorem k_tupleOf {a : Expr} {ta : TE} {p pos : Pos} (hK : X.K = K) (hg : Gl X "tuple") (hm : X.mg "tuple" = none) (ha : PE X a ta) (na : starEach [a] X.env = (false, eval a X.env) :: starEach [] X.env := by rfl) :
    PE X (.Call (.Name "tuple" p) [a] [] pos) (tThen ta (kTup K)) := hK ▸ pe_tupleOf hg hm ha na
theorem k_orT {a b : Expr} {rest : List Expr} {ta tb : TE} {pos : Pos} (hK : X.K = K) (ha : PE X a ta) (hb : PE X (.BoolOp .Or (b :: rest) pos) tb) : PE X (.BoolOp .Or (a :: b :: rest) pos) (tOrT K ta tb) := hK ▸ pe_orT ha hb
theorem k_andT {a b : Expr} {rest : List Expr} {ta tb : TE} {pos : Pos} (hK : X.K = K) (ha : PE X a ta) (hb : PE X (.BoolOp .And (b :: rest) pos) tb) : PE X (.BoolOp .And (a :: b :: rest) pos) (tAndT K ta tb) := hK ▸ pe_andT ha hb
theorem k_notT {a : Expr} {ta : TE} {pos : Pos} (hK : X.K = K) (ha : PE X a ta) : PE X (.UnaryOp .Not a pos) (tNotT K ta) := hK ▸ pe_notT ha
section
variable {T id : String} {name : PySem.Str} {r : V → List V → Hp → VK → Prop} {o e : Expr} {es : List Expr} {to : TE} {t : TA} {apos cpos : Pos}
theorem k_bm0 (hK : X.K = K) (pa : PlainAttrs T) (slot : Slot T name id) (hty : typeOf (.builtin id) = pure (.type "method_descriptor")) (hm : MtR X id r) (ho : PE X o to)
    (hbase : attributeBase o name X.env (eval o X.env) = eval o X.env := by rfl) (hline : (apos.endLine == cpos.line) = true := by rfl) : PE X (.Call (.Attribute o name apos) [] [] cpos) (tBM0 K T r to) := hK ▸ pe_bm0 pa slot hty hm ho hbase hline
theorem k_bm (hK : X.K = K) (pa : PlainAttrs T) (slot : Slot T name id) (hty : typeOf (.builtin id) = pure (.type "method_descriptor")) (hm : MtR X id r) (ho : PE X o to) (ha : PA X (e :: es) t)
    (hbase : attributeBase o name X.env (eval o X.env) = eval o X.env := by rfl)
    (hfew : ((backTo cpos (starEach (e :: es) X.env)).all (fun x => !x.1) && (backToKw cpos (keywordEach [] X.env)).all (fun x => x.1.isSome)
      && decide ((e :: es).length + ([] : List Keyword).length + (if ([] : List Keyword).isEmpty then 0 else 1) < 30)) = true := by rfl)
    (hline : (apos.endLine == cpos.line) = true := by rfl) (hs : starEach (e :: es) X.env = (false, eval e X.env) :: starEach es X.env := by rfl) (hplain : (backTo cpos (starEach es X.env)).any (·.1) = false := by rfl) :
    PE X (.Call (.Attribute o name apos) (e :: es) [] cpos) (tBM K T r to t) := hK ▸ pe_bm pa slot hty hm ho ha hbase hfew hline hs hplain
end
theorem z_append : MtR X "list.append" rAppend := mt_append
theorem z_extend : MtR X "list.extend" rExtend := mt_extend
theorem z_pop : MtR X "list.pop" rPop := mt_pop
theorem z_popAt : MtR X "list.pop" rPopAt := mt_popAt
theorem z_remove : MtR X "list.remove" rRemI := mt_remove
theorem k_index (hK : X.K = K) : MtR X "list.index" (rIndex K) := hK ▸ mt_index
/-! ### xs[i] += e -/
theorem k_get (hK : X.K = K) : PGet X (rIxL K) := by
  subst hK
  intro pins s σ H o i ov iv Q I ro ri h
  obtain ⟨p, xs, k, z, rfl, rfl, hq, he, q⟩ := h
  cases ro
  obtain ⟨t, rfl⟩ := ri
  obtain ⟨its, r, pl, hz⟩ := I.list hq
  obtain ⟨j, h1, h2, h3, h4, h5⟩ := atI_get he
  obtain ⟨w, ew, rw'⟩ := r.get h2
  have hl := r.length
  have hn := line63
  have fin : EP X pins σ Q w s := ⟨z, H, I, rw', q⟩
  by_cases h0 : 0 ≤ k
  · have hj : k.toNat = j := by
      rw [seqIndex_of h0 h5] at h1
      exact Option.some.inj h1
    exact wpAny_getItem_list pl.isList h0 (by omega) (by rw [hj]; simpa using ew) fin
  · have hj : (k + (its.toArray.size : Int)).toNat = j := by
      rw [seqIndex_neg (by omega) h4] at h1
      rw [List.size_toArray, ← hl]
      exact Option.some.inj h1
    exact wpAny_getItem_list_neg pl.isList (by omega) (by rw [List.size_toArray] <;> omega) (by omega) (by rw [hj]; simpa using ew) fin
end
end L2.Zs
namespace L2.Zs
open PySem PySem.Spec PyProof.Rows
/-! ## own errors -/
/-- the own error class at C, called x -/
structure XC (K : PySem.W.Frag) (mg : PySem.Str → Option Value) (x : PySem.Str) (C : Addr) : Prop where
  exc : PySem.W.excIn K C [.type "ValueError", .type "Exception", .type "BaseException", .type "object"] "ValueError.__new__" = true
  g : mg x = some (.ref C)
  kp : PySem.W.keepIn K (.ref C) = true
  b : PySem.W.subIn K (.ref C) (.type "BaseException") = some true
  ty : PySem.W.typeIn K (.ref C) = some (.type "type")
  ic : PySem.W.isClsIn K C = true
/-- what isinstance asks of its instances, besides -/
structure XI (K : PySem.W.Frag) (D : Addr) : Prop where
  c : ExcC K D
  ve : PySem.W.subIn K (.ref D) (.type "ValueError") = some true
def tRaise (C : Addr) (W : WX) : TS := fun _ σ H => W (.ref C) none σ H
section
variable {X : Cx} {W : WX} {x m : PySem.Str} {C : Addr} {p p2 pos pos2 : Pos} {j : Nat}
theorem z_raise (hc : X.calm = true) (tk : Takes X W) (T : XC X.K X.mg x C) (hg : Gl X x) (hdb : (x == ("__debug__" : PySem.Str)) = false := by decide) :
    PS X (.Raise (some (.Call (.Name x p) [.Constant (.str m) j p2] [] pos)) none pos2) (tRaise C W) :=
  ps_raise hc tk (pmk_own PySem.F.excBase_ValueError T.exc T.g T.kp (raises_own T.b T.ty) hg hdb)
end
instance {C : Addr} {W : WX} {D : Ends} {σ : St} {H : Hp} : Stp (tRaise C W D σ H) (W (.ref C) none σ H) := ⟨id⟩
instance {C : Addr} {W : WX} {D : Ends} {σ : St} {H : Hp} {t2 : TS} : Stp (tSeq (tRaise C W) t2 D σ H) (W (.ref C) none σ H) := ⟨id⟩
/-- an error of the class at D is an instance of the class at C, or not -/
theorem kit_ref {K : PySem.W.Frag} {D C : Addr} {b : Bool} (h : (Value.ref D == Value.ref C) = true → b = true) (i : PySem.W.isClsIn K C = true) (t : PySem.W.typeIn K (.ref C) = some (.type "type")) (s : PySem.W.subIn K (.ref D) (.ref C) = some b) :
    PySem.W.kitOne K (.ref D) (.ref C) = some b := by
  unfold PySem.W.kitOne
  split
  · rename_i e; rw [h e]
  · have i' : (PySem.W.clsIn K C).isSome = true := i
    show (if ((PySem.W.clsIn K C).isSome && PySem.W.typeIn K (.ref C) == some (.type "type")) = true then PySem.W.subIn K (.ref D) (.ref C) else none) = some b
    rw [i', t, if_pos (by rfl)]
    exact s
theorem kit_ve {K : PySem.W.Frag} {D : Addr} (T : XI K D) : PySem.W.kitOne K (.ref D) (.type "ValueError") = some true := by
  unfold PySem.W.kitOne
  rw [if_neg (by intro q; cases q)]
  show (if PySem.W.kitMeta "ValueError" = true then PySem.W.subIn K (.ref D) (.type "ValueError") else none) = some true
  rw [if_pos (show PySem.W.kitMeta "ValueError" = true by decide +kernel)]
  exact T.ve
theorem kitAny_no {K : PySem.W.Frag} {t : Value} : ∀ {cs : List Value}, (∀ c ∈ cs, PySem.W.kitOne K t c = some false) → PySem.W.kitAny K t cs = some false
  | [], _ => rfl
  | c :: cs, h => by
    unfold PySem.W.kitAny
    rw [h c List.mem_cons_self]
    exact kitAny_no fun d hd => h d (List.mem_cons_of_mem _ hd)
/-- isinstance of the error that the suite holds -/
def rIsEZ (K : PySem.W.Frag) (a : Addr) (cls : Value) (dd : Option Addr) : List V → Hp → VK → Prop := fun xs H Q => ∃ D, cls = .ref D ∧ dd = none ∧ ExcC K D ∧ rIsE K D a xs H Q
def rIsETZ (K : PySem.W.Frag) (a : Addr) (cls : Value) (dd : Option Addr) : List V → Hp → VK → Prop := fun xs H Q => ∃ D tp cs us b, cls = .ref D ∧ dd = none ∧ ExcC K D ∧ xs = [.ref a, .ref tp] ∧ H tp = some (.tup cs) ∧ Paired ClsV cs us ∧ PySem.W.kitAny K (.ref D) us = some b ∧ Q (.bl b) H
section
variable {X : Cx} {a : Addr} {cls : Value} {dd : Option Addr} {oe : Obj} {pn : List (Addr × Obj)}
theorem z_isE (hz : Zc cls dd oe) (hf : ∃ vs, oe.data = .fields vs) : CallR (X.suite a ((a, oe) :: pn)) (.builtin "isinstance") (rIsEZ X.K a cls dd) := by
  intro pins s σ H xs us Q I r h
  obtain ⟨D, rfl, rfl, c, h⟩ := h
  exact call_isE c hz hf pins s σ H xs us Q I r h
theorem z_isET (hz : Zc cls dd oe) (hf : ∃ vs, oe.data = .fields vs) : CallR (X.suite a ((a, oe) :: pn)) (.builtin "isinstance") (rIsETZ X.K a cls dd) := by
  intro pins s σ H xs us Q I r h
  obtain ⟨D, tp, cs, ws, b, rfl, rfl, C, rfl, hT, k, e, q⟩ := h
  obtain ⟨u1, u2, rfl, r1, r2⟩ := vals2 r
  cases (show u1 = Value.ref a from r1)
  cases (show u2 = Value.ref tp from r2)
  obtain ⟨_, its, rv, o, h1, h2, n, h3⟩ := (show ObjOk _ _ H s.heap tp (.tup cs) from I.hok tp _ hT)
  have e3 := ClsV.all k rv
  subst e3
  obtain ⟨oc, od, dt, sl⟩ := o
  simp only at h2 h3
  subst h2 h3
  obtain ⟨hget, _⟩ := I.pin (a, oe) (List.mem_append.mpr (.inl List.mem_cons_self))
  obtain ⟨vs, hv⟩ := hf
  have J : PySem.W.InstAt s.heap a oe D none := by
    obtain ⟨oc, od, oda, osl⟩ := oe
    obtain ⟨h1, h2⟩ := hz
    dsimp only at h1 h2 hv
    subst h1 h2 hv
    exact ⟨hget, rfl, rfl, trivial⟩
  exact PySem.W.kia_tup (PySem.W.handS_kitx_exc C.hg C.hk C.hs C.hd C.ha C.hn C.ht C.hm) I.kIn J h1 e (fun z => nomatch z) fun tk => ⟨.bl b, H, I.kept (t' := tk) fun _ _ z => z, rfl, q⟩
end
section
variable {K : PySem.W.Frag} {H : Hp} {Q : VK} {a D C tp : Addr} {cs : List As} {ds : List As}
theorem s_isE {b : Bool} (T : XI K D) (k1 : PySem.W.kitOne K (.ref D) (.ref C) = some b) (k : Q (.bl b) H) : rIsEZ K a (.ref D) none [.ref a, .ref C] H Q :=
  ⟨D, rfl, rfl, T.c, .ref C, .ref C, b, rfl, (fun u r => r), k1, k⟩
theorem s_isVE (T : XI K D) (k : Q (.bl true) H) : rIsEZ K a (.ref D) none [.ref a, .ty "ValueError"] H Q :=
  ⟨D, rfl, rfl, T.c, .ty "ValueError", .type "ValueError", true, rfl, (fun u r => r), kit_ve T, k⟩
theorem pairedCls : ∀ l : List Addr, Paired ClsV (l.map V.ref) (l.map Value.ref)
  | [] => .nil
  | c :: l => .cons (.own c) (pairedCls l)
theorem s_isET {l : List Addr} {xs : List V} (T : XI K D) (S : Sep cs H) (p : Pick (pt tp (.tup xs)) cs ds) (e : xs = l.map V.ref) (h : ∀ c ∈ l, PySem.W.kitOne K (.ref D) (.ref c) = some false) (k : Q (.bl false) H) : rIsETZ K a (.ref D) none [.ref a, .ref tp] H Q :=
  ⟨D, tp, _, _, false, rfl, rfl, T.c, rfl, S.get p, e ▸ pairedCls l, kitAny_no fun c hc => by obtain ⟨x, hx, rfl⟩ := List.mem_map.mp hc; exact h x hx, k⟩
end
/-- try: .. except x as n: .. -/
def tTry (K : PySem.W.Frag) (c : Value) (i : Nat) (tb : WX → TS) (ts : Addr → Value → Option Addr → TS) (Wout : WX) : TS := fun D σ H => tb (wAs K c i ts Wout D) D σ H
section
variable {X : Cx} {x n : PySem.Str} {c : Value} {i : Nat} {body suite : List Stmt} {b₀ : Stmt} {np pos pos' : Pos} {tb : WX → TS} {ts : Addr → Value → Option Addr → TS} {Wout : WX}
theorem z_try_as (hs : X.stack = X.env :: X.outer) (hf : X.env.frame = some X.env.locals) (hN : X.N.Nodup) (hi : X.N[i]? = some n) (hln : X.env.kindOf n = some .local) (hc : Names X x c) (tk : Takes X Wout)
    (hb : ∀ (W : WX) (pn : List (Addr × Obj)) (xe : Value → Shared → Prop), Takes (X.tr pn xe) W → PassesOwn (model X.prog X.w) X.A X.env xe → PSs (X.tr pn xe) body (tb W))
    (hsu : ∀ (a : Addr) (oe : Obj) (cls : Value) (d : Option Addr) (pn : List (Addr × Obj)), Zc cls d oe → (∃ vs, oe.data = .fields vs) → PSs (X.suite a ((a, oe) :: pn)) (b₀ :: suite) (ts a cls d)) :
    PS X (.Try body [.ExceptHandler (some (.Name x np)) (some n) (b₀ :: suite) pos'] [] [] pos) (tTry X.K c i tb ts Wout) := ps_try_as hs hf hN hi hln hc tk hb hsu
end
theorem s_try {K : PySem.W.Frag} {c : Value} {i : Nat} {tb : WX → TS} {ts : Addr → Value → Option Addr → TS} {Wout : WX} {D : Ends} {σ : St} {H : Hp} (M : Value → St → Hp → Prop) (hs : ∀ cls σ H, M cls σ H → wAs K c i ts Wout D cls none σ H)
    (hb : ∀ W : WX, (∀ cls σ H, M cls σ H → W cls none σ H) → tb W D σ H) : tTry K c i tb ts Wout D σ H := hb _ hs
/-- the clause takes it -/
theorem s_caught {K : PySem.W.Frag} {c cls : Value} {d : Option Addr} {i : Nat} {ts : Addr → Value → Option Addr → TS} {Wout : WX} {D : Ends} {σ : St} {H : Hp} (h : PySem.W.exmOne K cls c = some true)
    (k : ∀ a, ts a cls d { nx := fun σ' H' => D.nx (σ'.set i none) H', rt := D.rt, bk := fun σ' H' => D.bk (σ'.set i none) H', ct := fun σ' H' => D.ct (σ'.set i none) H' } (σ.set i (some (.ref a))) H) : wAs K c i ts Wout D cls d σ H :=
  ⟨true, h, fun _ a _ => k a, fun q => nomatch q⟩
theorem exm_of' {K : PySem.W.Frag} {D C : Addr} (h1 : PySem.W.subIn K (.ref C) (.type "BaseException") = some true) (h2 : PySem.W.isClsIn K C = true) (h3 : PySem.W.typeIn K (.ref C) = some (.type "type")) (h4 : PySem.W.subIn K (.ref D) (.ref C) = some true) :
    PySem.W.exmOne K (.ref D) (.ref C) = some true := by
  have e1 : (PySem.W.subIn K (.ref C) (.type "BaseException") == some true) = true := by rw [h1] <;> rfl
  have e2 : ((PySem.W.clsIn K C).isSome && PySem.W.typeIn K (.ref C) == some (.type "type")) = true := by
    have h2' : (PySem.W.clsIn K C).isSome = true := h2
    rw [h2', h3] <;> rfl
  show (if (PySem.W.subIn K (.ref C) (.type "BaseException") == some true) = true then (if ((PySem.W.clsIn K C).isSome && PySem.W.typeIn K (.ref C) == some (.type "type")) = true then PySem.W.subIn K (.ref D) (.ref C) else none) else none) = some true
  rw [if_pos e1, if_pos e2]
  exact h4
/-! ## fields by name -/
theorem lk_hd {f : PySem.Str} {v : V} {fs : List (PySem.Str × V)} : List.lookup f ((f, v) :: fs) = some v := by simp [List.lookup]
theorem lk_tl {f g : PySem.Str} {v : V} {fs : List (PySem.Str × V)} {r : Option V} (h : (f == g) = false) (k : List.lookup f fs = r) : List.lookup f ((g, v) :: fs) = r := by simp [List.lookup, h, k]
theorem lk_nil {f : PySem.Str} : List.lookup f ([] : List (PySem.Str × V)) = none := rfl
theorem pf_nil {f : PySem.Str} {v : V} : putF f v [] = [(f, v)] := rfl
theorem pf_tl {f g : PySem.Str} {v w : V} {fs r : List (PySem.Str × V)} (h : (f == g) = false) (k : putF f v fs = r) : putF f v ((g, w) :: fs) = (g, w) :: r := by
  show (if g = f then _ else _) = _
  rw [if_neg (by intro e; subst e; simp at h), k]
theorem pf_hd {f : PySem.Str} {v w : V} {fs : List (PySem.Str × V)} : putF f v ((f, w) :: fs) = (f, v) :: fs := by
  show (if f = f then _ else _) = _
  rw [if_pos rfl]
/-! ## figures -/
/-- a text of n figures -/
def figs (n : Nat) (z : PySem.Str) : Prop := z.length = n ∧ ∀ c ∈ z.cps.toList, 48 ≤ c ∧ c ≤ 57
def spNumber : Sp := fun vs H Q _ => ∃ (d n : Int), vs = [.int d, .int n] ∧ 0 ≤ n ∧ n < 100000 ∧ ∀ z, figs n.toNat z → Q (.str z) H
theorem len_number {vs H Q E} (h : spNumber vs H Q E) : vs.length = 2 := by obtain ⟨d, n, rfl, _⟩ := h; rfl
theorem app_codes (a b : PySem.Str) : (a ++ b).cps.toList = a.cps.toList ++ b.cps.toList := by
  show (a.cps ++ b.cps).toList = _
  simp
theorem app_len (a b : PySem.Str) : (a ++ b).length = a.length + b.length := by
  show (a.cps ++ b.cps).size = _
  simp [PySem.Str.length]
theorem digits_codes : (PySem.Str.ofString "0123456789").cps.toList = [48, 49, 50, 51, 52, 53, 54, 55, 56, 57] := by decide +kernel
theorem digit_at (i : Int) : ∃ c, atI (PySem.Str.ofString "0123456789").cps.toList (i % 10) = some c ∧ 48 ≤ c ∧ c ≤ 57 := by
  have h := emod_in i (p := 10) (by decide)
  obtain ⟨c, h1, h2, _⟩ := atI_lt (xs := (PySem.Str.ofString "0123456789").cps.toList) h.1 (by rw [digits_codes]; exact h.2)
  refine ⟨c, h1, ?_⟩
  rw [digits_codes] at h2
  simp only [List.mem_cons, List.not_mem_nil, or_false] at h2
  omega
/-- whether it is a whole number -/
def spWhole : Sp := fun vs H Q _ => (∃ i, vs = [.int i] ∧ Q (.bl true) H) ∨ (vs = [.non] ∧ Q (.bl false) H)
theorem len_whole {vs H Q E} (h : spWhole vs H Q E) : vs.length = 1 := by rcases h with ⟨i, rfl, _⟩ | ⟨rfl, _⟩ <;> rfl
end L2.Zs
namespace L2.Zs
open PySem PySem.Spec PyProof.Rows
section
variable {K : PySem.W.Frag} {H : Hp} {Q : VK} {v : V} {a : Addr} {cs cs' ds : List As} {xs : List V} {i : Int} {R : Hp → Prop}
theorem s_ixG (S : Sep cs H) (p1 : Pick (pt a (.lst xs)) cs ds) (h : atI xs i = some v) (k : Q v H) : rIxL K (.ref a) (.int i) H Q := ⟨a, xs, i, v, rfl, rfl, SqL.of (S.get p1), h, k⟩
theorem s_stL (S : Sep cs H) {n : Nat} (g : Chg (pt a (.lst xs)) (pt a (.lst (xs.set n v))) cs cs') (h : ixN xs.length i = some n) (k : ∀ H', Sep cs' H' → R H') : rSetL (.ref a) (.int i) v H R :=
  ⟨a, xs, i, n, rfl, rfl, (let ⟨_, p, _⟩ := g.pick; S.get p), h, k _ (S.set g rfl)⟩
end
/-! ## built-in classes as values, isinstance -/
theorem z_ty {X : Cx} {x : PySem.Str} {T : String} {pos : Pos} (hg : Gl X x) (hm : X.mg x = none) (hv : bootBuiltins x = some (.type T)) (hd : (x == ("__debug__" : PySem.Str)) = false := by decide) (hn : x ≠ "__name__" := by decide) : PE X (.Name x pos) (tC (.ty T)) :=
  pe_bltn hg hm hv rfl (hn := hn) (hd := hd)
theorem z_cls {X : Cx} {x : PySem.Str} {C : Addr} {pos : Pos} (hg : Gl X x) (hm : X.mg x = some (.ref C)) (hd : (x == ("__debug__" : PySem.Str)) = false := by decide) : PE X (.Name x pos) (tC (.ref C)) :=
  pe_glob hg hm rfl (hd := hd)
theorem isi_b {K : PySem.W.Frag} {H : Hp} {Q : VK} {x : V} {A T : String} {b : Bool} (h : TyX K H x (.type A)) (k : kitB A T = some b) (q : Q (.bl b) H) : rIsi K [x, .ty T] H Q := ⟨x, .ty T, .type A, .type T, b, rfl, .ty T, h, kit_ty k, q⟩
section
variable {K : PySem.W.Frag} {H : Hp} {Q : VK} {i : Int} {b : Bool} {z : PySem.Str} {a : Addr} {xs : List V} {cs ds : List As}
instance : Stp (rIsi K [.int i, .ty "int"] H Q) (Q (.bl true) H) := ⟨isi_b (.base (.int i)) (by decide +kernel)⟩
instance : Stp (rIsi K [.int i, .ty "bool"] H Q) (Q (.bl false) H) := ⟨isi_b (.base (.int i)) (by decide +kernel)⟩
instance : Stp (rIsi K [.int i, .ty "str"] H Q) (Q (.bl false) H) := ⟨isi_b (.base (.int i)) (by decide +kernel)⟩
instance : Stp (rIsi K [.bl b, .ty "int"] H Q) (Q (.bl true) H) := ⟨isi_b (.base (.bl b)) (by decide +kernel)⟩
instance : Stp (rIsi K [.bl b, .ty "bool"] H Q) (Q (.bl true) H) := ⟨isi_b (.base (.bl b)) (by decide +kernel)⟩
instance : Stp (rIsi K [.non, .ty "int"] H Q) (Q (.bl false) H) := ⟨isi_b (.base .non) (by decide +kernel)⟩
instance : Stp (rIsi K [.non, .ty "str"] H Q) (Q (.bl false) H) := ⟨isi_b (.base .non) (by decide +kernel)⟩
instance : Stp (rIsi K [.non, .ty "list"] H Q) (Q (.bl false) H) := ⟨isi_b (.base .non) (by decide +kernel)⟩
instance : Stp (rIsi K [.non, .ty "tuple"] H Q) (Q (.bl false) H) := ⟨isi_b (.base .non) (by decide +kernel)⟩
instance : Stp (rIsi K [.str z, .ty "str"] H Q) (Q (.bl true) H) := ⟨isi_b (.base (.str z)) (by decide +kernel)⟩
instance : Stp (rIsi K [.str z, .ty "int"] H Q) (Q (.bl false) H) := ⟨isi_b (.base (.str z)) (by decide +kernel)⟩
theorem s_isL (S : Sep cs H) (p : Pick (pt a (.lst xs)) cs ds) (k : Q (.bl true) H) : rIsi K [.ref a, .ty "list"] H Q := isi_b (.base (.lst (S.get p))) (by decide +kernel) k
theorem s_isT (S : Sep cs H) (p : Pick (pt a (.tup xs)) cs ds) (k : Q (.bl true) H) : rIsi K [.ref a, .ty "tuple"] H Q := isi_b (.base (.tup (S.get p))) (by decide +kernel) k
theorem s_isTL (S : Sep cs H) (p : Pick (pt a (.tup xs)) cs ds) (k : Q (.bl false) H) : rIsi K [.ref a, .ty "list"] H Q := isi_b (.base (.tup (S.get p))) (by decide +kernel) k
theorem s_isTS (S : Sep cs H) (p : Pick (pt a (.tup xs)) cs ds) (k : Q (.bl false) H) : rIsi K [.ref a, .ty "str"] H Q := isi_b (.base (.tup (S.get p))) (by decide +kernel) k
theorem s_isLS (S : Sep cs H) (p : Pick (pt a (.lst xs)) cs ds) (k : Q (.bl false) H) : rIsi K [.ref a, .ty "str"] H Q := isi_b (.base (.lst (S.get p))) (by decide +kernel) k
end
/-! list(xs), tuple(xs), max -/
section
variable {K : PySem.W.Frag} {H : Hp} {Q : VK} {i j : Int} {a : Addr} {xs : List V} {cs ds : List As} {D : Ends} {σ : St} {ta : TE} {R : List V → Prop}
theorem s_listL (S : Sep cs H) (p : Pick (pt a (.lst xs)) cs ds) (k : ∀ q H', Sep (pt q (.lst xs) :: cs) H' → Q (.ref q) H') : rListOf K [.ref a] H Q := ⟨a, xs, rfl, .inl (SqL.of (S.get p)), fun l hl => k l _ (S.new hl)⟩
theorem s_listT (S : Sep cs H) (p : Pick (pt a (.tup xs)) cs ds) (k : ∀ q H', Sep (pt q (.lst xs) :: cs) H' → Q (.ref q) H') : rListOf K [.ref a] H Q := ⟨a, xs, rfl, .inr (SqT.of (S.get p)), fun l hl => k l _ (S.new hl)⟩
theorem s_tupL (S : Sep cs H) (p : Pick (pt a (.lst xs)) cs ds) (k : ∀ q H', Sep (pt q (.tup xs) :: cs) H' → Q (.ref q) H') : kTup K (.ref a) H Q := .inl ⟨a, xs, rfl, SqL.of (S.get p), fun l hl => k l _ (S.new hl)⟩
instance : Stp (tThen ta (kTup K) σ H Q) (ta σ H fun x H1 => kTup K x H1 Q) := ⟨id⟩
instance : Stp (rMax2 [.int i, .int j] H Q) (Q (.int (if j > i then j else i)) H) := ⟨fun k => ⟨i, j, rfl, k⟩⟩
instance : Stp (rMin2 [.int i, .int j] H Q) (Q (.int (if j < i then j else i)) H) := ⟨fun k => ⟨i, j, rfl, k⟩⟩
end
/-! ## racks -/
structure Rk where
  held : List V
  brk : List Bool
  tak : List Int
structure Rk.ok (r : Rk) : Prop where
  b : r.brk.length = r.held.length
  t : r.tak.length = r.held.length
  n : r.held.length ≤ 60
def Rk.rdy (r : Rk) (i : Nat) : Bool := decide (r.held[i]? = some .non) && !(r.brk.getD i true)
def Rk.give (r : Rk) (i : Nat) (v : V) : Rk := { r with held := r.held.set i v, tak := r.tak.set i (r.tak.getD i 0 + 1) }
def Rk.free (r : Rk) (i : Nat) : Rk := { r with held := r.held.set i .non }
def Rk.brkAt (r : Rk) (i : Nat) (b : Bool) : Rk := { r with brk := r.brk.set i b }
theorem Rk.ok.give {r : Rk} (h : r.ok) (i : Nat) (v : V) : (r.give i v).ok := ⟨by simp [Rk.give, h.b], by simp [Rk.give, h.t], by simp [Rk.give, h.n]⟩
theorem Rk.ok.free {r : Rk} (h : r.ok) (i : Nat) : (r.free i).ok := ⟨by simp [Rk.free, h.b], by simp [Rk.free, h.t], by simp [Rk.free, h.n]⟩
theorem Rk.ok.brkAt {r : Rk} (h : r.ok) (i : Nat) (b : Bool) : (r.brkAt i b).ok := ⟨by simp [Rk.brkAt, h.b], by simp [Rk.brkAt, h.t], by simp [Rk.brkAt, h.n]⟩
/-- where a rack stands -/
structure RL where
  C : Addr
  dx : Addr
  p : Addr
  l1 : Addr
  l2 : Addr
  l3 : Addr
  more : List (PySem.Str × V)
def rkF (l1 l2 l3 : Addr) (more : List (PySem.Str × V)) : List (PySem.Str × V) := ("held_by", .ref l1) :: ("broken", .ref l2) :: ("taken", .ref l3) :: more
@[reducible] def rkC (L : RL) (r : Rk) (F : List As) : List As := pt L.p (.ins L.C L.dx (rkF L.l1 L.l2 L.l3 L.more)) :: pt L.l1 (.lst r.held) :: pt L.l2 (.lst (r.brk.map .bl)) :: pt L.l3 (.lst (r.tak.map .int)) :: F
def rackMeths : List PySem.Str := ["need", "is_ready", "given", "free", "stick", "mend", "shares", "take", "paper", "holders", "stuck", "mark", "steps"]
structure RL.good (L : RL) (Cs : List Addr) : Prop where
  c : L.C ∈ Cs
  nm : ∀ m ∈ rackMeths, L.more.lookup m = none
theorem rkF_held {l1 l2 l3 : Addr} {m : List (PySem.Str × V)} : (rkF l1 l2 l3 m).lookup ("held_by" : PySem.Str) = some (V.ref l1) := lk_hd
theorem rkF_brk {l1 l2 l3 : Addr} {m : List (PySem.Str × V)} : (rkF l1 l2 l3 m).lookup ("broken" : PySem.Str) = some (V.ref l2) := lk_tl (by decide +kernel) lk_hd
theorem rkF_tak {l1 l2 l3 : Addr} {m : List (PySem.Str × V)} : (rkF l1 l2 l3 m).lookup ("taken" : PySem.Str) = some (V.ref l3) := lk_tl (by decide +kernel) (lk_tl (by decide +kernel) lk_hd)
theorem rkF_m : ∀ m ∈ rackMeths, ((m == ("held_by" : PySem.Str)) = false ∧ (m == ("broken" : PySem.Str)) = false ∧ (m == ("taken" : PySem.Str)) = false) := by decide +kernel
theorem rkF_no {l1 l2 l3 : Addr} {more : List (PySem.Str × V)} {m : PySem.Str} (hm : m ∈ rackMeths) (h : ∀ m ∈ rackMeths, more.lookup m = none) : (rkF l1 l2 l3 more).lookup m = none :=
  lk_tl (rkF_m m hm).1 (lk_tl (rkF_m m hm).2.1 (lk_tl (rkF_m m hm).2.2 (h m hm)))
/-- what the racks' classes say -/
structure RT (K : PySem.W.Frag) (Cs : List Addr) : Prop where
  cls : ∀ C ∈ Cs, Cls K C
  n1 : ∀ C ∈ Cs, NoAttr K C "held_by"
  n2 : ∀ C ∈ Cs, NoAttr K C "broken"
  n3 : ∀ C ∈ Cs, NoAttr K C "taken"
section
variable {K : PySem.W.Frag} {Cs : List Addr} {σ : St} {H : Hp} {Q : VK} {L : RL} {r : Rk} {cs ds : List As}
theorem s_held (T : RT K Cs) (g : L.good Cs) (S : Sep cs H) (p : Pick (pt L.p (.ins L.C L.dx (rkF L.l1 L.l2 L.l3 L.more))) cs ds) (k : Q (.ref L.l1) H) : FldGet K "held_by" (.ref L.p) Q H := s_fldR S p (T.cls _ g.c) (T.n1 _ g.c) rkF_held k
theorem s_brk (T : RT K Cs) (g : L.good Cs) (S : Sep cs H) (p : Pick (pt L.p (.ins L.C L.dx (rkF L.l1 L.l2 L.l3 L.more))) cs ds) (k : Q (.ref L.l2) H) : FldGet K "broken" (.ref L.p) Q H := s_fldR S p (T.cls _ g.c) (T.n2 _ g.c) rkF_brk k
theorem s_tak (T : RT K Cs) (g : L.good Cs) (S : Sep cs H) (p : Pick (pt L.p (.ins L.C L.dx (rkF L.l1 L.l2 L.l3 L.more))) cs ds) (k : Q (.ref L.l3) H) : FldGet K "taken" (.ref L.p) Q H := s_fldR S p (T.cls _ g.c) (T.n3 _ g.c) rkF_tak k
theorem s_rm {m : PySem.Str} {R : Addr → Hp → Prop} (g : L.good Cs) (S : Sep cs H) (hm : m ∈ rackMeths) (p : Pick (pt L.p (.ins L.C L.dx (rkF L.l1 L.l2 L.l3 L.more))) cs ds) (k : R L.C H) : MtGo Cs m (.ref L.p) R H := s_mtR S p g.c (rkF_no hm g.nm) k
end
/-! ### what each def of a rack is worth -/
section
variable (Cs : List Addr) (XS : Addr)
def spNeed (C : Addr) : Sp := fun vs H Q E => ∃ (L : RL) (r : Rk) (k : Int) (F : List As), vs = [.ref L.p, .int k] ∧ L.good Cs ∧ Sep (rkC L r F) H ∧ (0 ≤ k ∧ k < r.held.length → Q .non H) ∧ (¬ (0 ≤ k ∧ k < r.held.length) → E (.ref XS) none H)
def spReady (C : Addr) : Sp := fun vs H Q E => ∃ (L : RL) (r : Rk) (k : Int) (F : List As), vs = [.ref L.p, .int k] ∧ L.good Cs ∧ r.ok ∧ Sep (rkC L r F) H ∧ 0 ≤ k ∧ k < r.held.length ∧ Q (.bl (r.rdy k.toNat)) H
def spGiven (C : Addr) : Sp := fun vs H Q E => ∃ (L : RL) (r : Rk) (k : Int) (v : V) (F : List As), vs = [.ref L.p, .int k, v] ∧ L.good Cs ∧ r.ok ∧ Sep (rkC L r F) H ∧ 0 ≤ k ∧ k < r.held.length ∧ ∀ H', Sep (rkC L (r.give k.toNat v) F) H' → Q .non H'
def spFree (C : Addr) : Sp := fun vs H Q E => ∃ (L : RL) (r : Rk) (k : Int) (F : List As), vs = [.ref L.p, .int k] ∧ L.good Cs ∧ Sep (rkC L r F) H ∧
  (0 ≤ k → k < r.held.length → r.held[k.toNat]? ≠ some .non → ∀ H', Sep (rkC L (r.free k.toNat) F) H' → Q .non H') ∧ (¬ (0 ≤ k ∧ k < r.held.length ∧ r.held[k.toNat]? ≠ some .non) → E (.ref XS) none H)
def spStick (b : Bool) (C : Addr) : Sp := fun vs H Q E => ∃ (L : RL) (r : Rk) (k : Int) (F : List As), vs = [.ref L.p, .int k] ∧ L.good Cs ∧ r.ok ∧ Sep (rkC L r F) H ∧
  (0 ≤ k → k < r.held.length → ∀ H', Sep (rkC L (r.brkAt k.toNat b) F) H' → Q .non H') ∧ (¬ (0 ≤ k ∧ k < r.held.length) → E (.ref XS) none H)
def spShares (C : Addr) : Sp := fun vs H Q E => ∃ (L : RL) (r : Rk) (F : List As), vs = [.ref L.p] ∧ L.good Cs ∧ Sep (rkC L r F) H ∧ ∀ q H', Sep (pt q (.lst (r.tak.map .int)) :: (rkC L r F)) H' → Q (.ref q) H'
/-- a new rack of many things -/
def Rk.new (n : Nat) : Rk := ⟨List.replicate n .non, List.replicate n false, List.replicate n 0⟩
theorem Rk.new_ok {n : Nat} (h : n ≤ 60) : (Rk.new n).ok := ⟨by simp [Rk.new], by simp [Rk.new], by simp [Rk.new, h]⟩
def spRack (C : Addr) : Sp := fun vs H Q E => ∃ (p dx : Addr) (n : Int) (F : List As), vs = [.ref p, .int n] ∧ C ∈ Cs ∧ 0 ≤ n ∧ n ≤ 60 ∧ Sep (pt p (.ins C dx []) :: F) H ∧
  ∀ l1 l2 l3 H', Sep (rkC ⟨C, dx, p, l1, l2, l3, []⟩ (Rk.new n.toNat) F) H' → Q .non H'
/-- the first that is neither held nor stuck -/
def Rk.first (r : Rk) : Option Nat := (List.range r.held.length).find? r.rdy
def spTake (C : Addr) : Sp := fun vs H Q E => ∃ (L : RL) (r : Rk) (v : V) (F : List As), vs = [.ref L.p, v] ∧ L.good Cs ∧ r.ok ∧ Sep (rkC L r F) H ∧
  (r.first = none → ∀ H', Sep (rkC L r F) H' → Q .non H') ∧ (∀ k, r.first = some k → k < r.held.length → ∀ H', Sep (rkC L (r.give k v) F) H' → Q (.int k) H')
def Rk.said (r : Rk) (i : Nat) : V := match r.held.getD i .non with
  | .non => if r.brk.getD i false then .str "stuck" else .str "free"
  | v => v
def Rk.paper (r : Rk) : List V := (List.range r.held.length).map r.said
def spPaper (C : Addr) : Sp := fun vs H Q E => ∃ (L : RL) (r : Rk) (F : List As), vs = [.ref L.p] ∧ L.good Cs ∧ r.ok ∧ Sep (rkC L r F) H ∧ ∀ q H', Sep (pt q (.tup r.paper) :: (rkC L r F)) H' → Q (.ref q) H'
end
section
variable {Cs : List Addr} {XS C : Addr} {vs : List V} {H : Hp} {Q : VK} {E : XK}
theorem len_need (h : spNeed Cs XS C vs H Q E) : vs.length = 2 := by obtain ⟨L, r, k, F, rfl, _⟩ := h; rfl
theorem len_ready (h : spReady Cs C vs H Q E) : vs.length = 2 := by obtain ⟨L, r, k, F, rfl, _⟩ := h; rfl
theorem len_given (h : spGiven Cs C vs H Q E) : vs.length = 3 := by obtain ⟨L, r, k, v, F, rfl, _⟩ := h; rfl
theorem len_free (h : spFree Cs XS C vs H Q E) : vs.length = 2 := by obtain ⟨L, r, k, F, rfl, _⟩ := h; rfl
theorem len_stick {b : Bool} (h : spStick Cs XS b C vs H Q E) : vs.length = 2 := by obtain ⟨L, r, k, F, rfl, _⟩ := h; rfl
theorem len_shares (h : spShares Cs C vs H Q E) : vs.length = 1 := by obtain ⟨L, r, F, rfl, _⟩ := h; rfl
theorem len_rack (h : spRack Cs C vs H Q E) : vs.length = 2 := by obtain ⟨p, dx, n, F, rfl, _⟩ := h; rfl
theorem len_take (h : spTake Cs C vs H Q E) : vs.length = 2 := by obtain ⟨L, r, v, F, rfl, _⟩ := h; rfl
theorem len_paper (h : spPaper Cs C vs H Q E) : vs.length = 1 := by obtain ⟨L, r, F, rfl, _⟩ := h; rfl
end
end L2.Zs
namespace L2.Zs
open PySem PySem.Spec PyProof.Rows
open PySem PySem.Spec PyProof.Rows
instance {A B : Prop} : Stp (if (!true) = true then A else B) B := ⟨s_f⟩
instance {A B : Prop} : Stp (if (!false) = true then A else B) A := ⟨s_t⟩
/-! ## flat data compared -/
def dV : V → PyData
  | .bl b => .bool b
  | .int i => .int i
  | .str z => .str z
  | _ => .none
def okV : V → Bool
  | .non => true
  | .bl _ => true
  | .int _ => true
  | .str z => PyData.canLay0 (.str z)
  | _ => false
theorem okV_flat {v : V} (h : okV v = true) : flatV v = true := by cases v <;> first | rfl | cases h
theorem dp_flat {K : PySem.W.Frag} {H : Hp} {v : V} (h : okV v = true) : Dp K H v (dV v) := by
  cases v <;> first | cases h | skip
  · exact .non
  · exact .bl _
  · exact .int _
  · exact .str _
theorem dpAll_flat {K : PySem.W.Frag} {H : Hp} : ∀ {xs : List V}, (∀ v ∈ xs, okV v = true) → DpAll K H xs (xs.map dV)
  | [], _ => .nil
  | x :: xs, h => .cons (dp_flat (h x List.mem_cons_self)) (dpAll_flat fun v hv => h v (List.mem_cons_of_mem _ hv))
theorem can_dV {v : V} (h : okV v = true) : (dV v).canLay0 = true := by
  cases v <;> first | rfl | exact h
theorem dep_dV (v : V) : (dV v).depth = 0 := by cases v <;> rfl
theorem canAll_flat : ∀ {xs : List V}, (∀ v ∈ xs, okV v = true) → PyData.canLayAll0 (xs.map dV) = true
  | [], _ => rfl
  | x :: xs, h => by
    show (PyData.canLay0 (dV x) && PyData.canLayAll0 (xs.map dV)) = true
    rw [can_dV (h x List.mem_cons_self), canAll_flat fun v hv => h v (List.mem_cons_of_mem _ hv)]
    rfl
theorem depAll_flat : ∀ (xs : List V), PyData.depthAll (xs.map dV) = 0
  | [] => rfl
  | x :: xs => by
    show max (PyData.depth (dV x)) (PyData.depthAll (xs.map dV)) = 0
    rw [dep_dV, depAll_flat xs]
    rfl
theorem shaped_lst {xs : List V} (h : ∀ v ∈ xs, okV v = true) : SeqAt.shaped (.list (xs.map dV)) = true := by
  show (PyData.canLayAll0 (xs.map dV) && decide (PyData.depthAll (xs.map dV) + 1 ≤ 64)) = true
  rw [canAll_flat h, depAll_flat]
  rfl
theorem shaped_tup {xs : List V} (h : ∀ v ∈ xs, okV v = true) : SeqAt.shaped (.tuple (xs.map dV)) = true := by
  show (PyData.canLayAll0 (xs.map dV) && decide (PyData.depthAll (xs.map dV) + 1 ≤ 64)) = true
  rw [canAll_flat h, depAll_flat]
  rfl
theorem eqv_same {d : PyData} (h : SeqAt.shaped d = true) : PyData.eqv d d = true := SeqAt.eqv_refl d (SeqAt.canLay_of_shaped h)
section
variable {K : PySem.W.Frag} {H : Hp} {Q : VK} {a b : Addr} {xs ys : List V} {cs ds es : List As}
theorem s_eqLL (S : Sep cs H) (p : Pick (pt a (.lst xs)) cs ds) (q : Pick (pt b (.lst xs)) cs es) (h : ∀ v ∈ xs, okV v = true) (k : Q (.bl true) H) : rEqZ K (.ref a) (.ref b) H Q := by
  refine s_eqD (.lst (SqL.of (S.get p)) (dpAll_flat h)) (.lst (SqL.of (S.get q)) (dpAll_flat h)) (shaped_lst h) (shaped_lst h) ?_
  rw [eqv_same (shaped_lst h)]
  exact k
theorem s_neLL (S : Sep cs H) (p : Pick (pt a (.lst xs)) cs ds) (q : Pick (pt b (.lst xs)) cs es) (h : ∀ v ∈ xs, okV v = true) (k : Q (.bl false) H) : rNeZ K (.ref a) (.ref b) H Q := by
  refine s_neD (.lst (SqL.of (S.get p)) (dpAll_flat h)) (.lst (SqL.of (S.get q)) (dpAll_flat h)) (shaped_lst h) (shaped_lst h) ?_
  rw [eqv_same (shaped_lst h)]
  exact k
theorem s_neTT (S : Sep cs H) (p : Pick (pt a (.tup xs)) cs ds) (q : Pick (pt b (.tup xs)) cs es) (h : ∀ v ∈ xs, okV v = true) (k : Q (.bl false) H) : rNeZ K (.ref a) (.ref b) H Q := by
  refine s_neD (.tup (SqT.of (S.get p)) (dpAll_flat h)) (.tup (SqT.of (S.get q)) (dpAll_flat h)) (shaped_tup h) (shaped_tup h) ?_
  rw [eqv_same (shaped_tup h)]
  exact k
theorem s_eqTT (S : Sep cs H) (p : Pick (pt a (.tup xs)) cs ds) (q : Pick (pt b (.tup xs)) cs es) (h : ∀ v ∈ xs, okV v = true) (k : Q (.bl true) H) : rEqZ K (.ref a) (.ref b) H Q := by
  refine s_eqD (.tup (SqT.of (S.get p)) (dpAll_flat h)) (.tup (SqT.of (S.get q)) (dpAll_flat h)) (shaped_tup h) (shaped_tup h) ?_
  rw [eqv_same (shaped_tup h)]
  exact k
theorem s_eqNil (S : Sep cs H) (p : Pick (pt a (.lst xs)) cs ds) (q : Pick (pt b (.lst [])) cs es) (h : ∀ v ∈ xs, okV v = true) (k : Q (.bl (decide (xs = []))) H) : rEqZ K (.ref a) (.ref b) H Q := by
  refine s_eqD (.lst (SqL.of (S.get p)) (dpAll_flat h)) (.lst (SqL.of (S.get q)) .nil) (shaped_lst h) (shaped_lst (xs := []) (fun _ h => nomatch h)) ?_
  have e : PyData.eqv (.list (xs.map dV)) (.list []) = decide (xs = []) := by cases xs <;> rfl
  rw [e]
  exact k
theorem s_neNil (S : Sep cs H) (p : Pick (pt a (.lst xs)) cs ds) (q : Pick (pt b (.lst [])) cs es) (h : ∀ v ∈ xs, okV v = true) (k : Q (.bl (!decide (xs = []))) H) : rNeZ K (.ref a) (.ref b) H Q := by
  refine s_neD (.lst (SqL.of (S.get p)) (dpAll_flat h)) (.lst (SqL.of (S.get q)) .nil) (shaped_lst h) (shaped_lst (xs := []) (fun _ h => nomatch h)) ?_
  have e : PyData.eqv (.list (xs.map dV)) (.list []) = decide (xs = []) := by cases xs <;> rfl
  rw [e]
  exact k
end
theorem okI (ns : List Int) : ∀ v ∈ ns.map V.int, okV v = true := fun v hv => by obtain ⟨i, _, rfl⟩ := List.mem_map.mp hv; rfl
theorem okB (ns : List Bool) : ∀ v ∈ ns.map V.bl, okV v = true := fun v hv => by obtain ⟨i, _, rfl⟩ := List.mem_map.mp hv; rfl
theorem flatI (ns : List Int) : (ns.map V.int).all flatV = true := List.all_eq_true.mpr fun v hv => okV_flat (okI ns v hv)
theorem inV_int (k : Int) : ∀ ns : List Int, inV (.int k) (ns.map V.int) = decide (k ∈ ns)
  | [] => by simp [inV]
  | n :: ns => by
    have ih := inV_int k ns
    unfold inV at ih ⊢
    rw [List.map_cons, List.any_cons, ih]
    show ((n == k) || _) = _
    by_cases e : n = k
    · subst e; simp
    · have : ¬ k = n := fun z => e z.symm
      simp [e, this]
theorem figs_ok {n : Nat} {z : PySem.Str} (h : figs n z) : PyData.canLay0 (.str z) = true := by
  show z.cps.all (· < 0x110000) = true
  rw [← Array.all_toList, List.all_eq_true]
  intro c hc
  have := h.2 c hc
  exact decide_eq_true (by omega)
/-- list.remove -/
theorem s_remove {K : PySem.W.Frag} {H : Hp} {Q : VK} {a : Addr} {ns : List Int} {k : Int} {cs cs' : List As} (S : Sep cs H) (h : k ∈ ns) (g : Chg (pt a (.lst (ns.map V.int))) (pt a (.lst ((ns.erase k).map V.int))) cs cs') (c : ∀ H', Sep cs' H' → Q .non H') : rRemI (.ref a) [.int k] H Q := by
  have hi : ns.idxOf k < ns.length := List.idxOf_lt_length_of_mem h
  have e : ns.eraseIdx (ns.idxOf k) = ns.erase k := (List.erase_eq_eraseIdx_of_idxOf rfl).symm
  refine ⟨a, ns, k, ns.idxOf k, rfl, rfl, (let ⟨_, p, _⟩ := g.pick; S.get p), ?_, fun m hm => ?_, ?_⟩
  · rw [List.getElem?_eq_getElem hi, List.getElem_idxOf hi]
  · intro q
    obtain ⟨h1, h2⟩ := List.getElem?_eq_some_iff.mp q
    have := List.not_of_lt_findIdx (p := (· == k)) (xs := ns) (i := m) hm
    simp [h2] at this
  · rw [e]
    exact c _ (S.set g rfl)
end L2.Zs
namespace L2.Zs
open PySem PySem.Spec PyProof.Rows
/-! ## list comprehensions -/
def LcGo (J : It) (g : TG) (tt : TT) (te : TE) (vs : List Nat) (σ : St) (Q : VK) (H1 : Hp) : Prop := ∀ D, H1 D = none → ∃ W : Nat → Nat → Hp → Prop, (∃ m, W 0 m (upd H1 D (.lst []))) ∧ ∀ i m H, W i m H →
  (J.stop i H ∧ Q (.ref D) H) ∨ (J.go i H ∧ ∃ Nx : Hp → Prop, (∀ H', Nx H' → ∃ m', m' < m ∧ W (i + 1) m' H') ∧ ∀ x H', J.yld i H x H' → g x (wipe σ vs) H' fun σ2 H2 => wipe σ2 vs = wipe σ vs ∧ tt σ2 H2 fun b H3 =>
    if b = true then te σ2 H3 fun y H4 => ∃ acc, H4 D = some (.lst acc) ∧ acc.length < sizeLine ∧ Nx (upd H4 D (.lst (acc ++ [y]))) else Nx H3)
def LcPut (D : Addr) (y : V) (N : Hp → Prop) (H4 : Hp) : Prop := ∃ acc, H4 D = some (.lst acc) ∧ acc.length < sizeLine ∧ N (upd H4 D (.lst (acc ++ [y])))
section
variable {K : PySem.W.Frag} {H : Hp} {Q : VK} {a b D : Addr} {xs ys : List V} {cs ds es : List As} {wi : TI} {g : TG} {tt : TT} {te : TE} {tr : TA} {vs : List Nat} {σ : St} {R : It → Hp → Prop} {y : V} {N : Hp → Prop}
instance : Stp (tLc wi g tt te vs σ H Q) (wi σ H fun J H1 => LcGo J g tt te vs σ Q H1) := ⟨id⟩
instance : Stp (iRng1 tr σ H R) (tr σ H fun vs H1 => ∃ j : Int, vs = [.int j] ∧ -(2 ^ 62) ≤ j ∧ j < 2 ^ 62 ∧ R (Itr 0 j.toNat) H1) := ⟨id⟩
instance : Stp (iList K te σ H R) (te σ H fun x H1 => ∃ a, x = .ref a ∧ (∃ xs, SqL K H1 a xs) ∧ R (Itl K a) H1) := ⟨id⟩
theorem s_lcput (S : Sep cs H) (g : Chg (pt D (.lst xs)) (pt D (.lst (xs ++ [y]))) cs ds) (h : xs.length < sizeLine) (k : ∀ H', Sep ds H' → N H') : LcPut D y N H :=
  ⟨xs, (let ⟨_, p, _⟩ := g.pick; S.get p), h, k _ (S.set g rfl)⟩
theorem s_lcR {lo : Int} {n : Nat} (S : Sep cs H) (Pv : Addr → Nat → Hp → Prop) (h0 : ∀ D H', Sep (pt D (.lst []) :: cs) H' → Pv D 0 H')
    (hs : ∀ D i H', i < n → Pv D i H' → g (.int (lo + i)) (wipe σ vs) H' fun σ2 H2 => wipe σ2 vs = wipe σ vs ∧ tt σ2 H2 fun b H3 => if b = true then te σ2 H3 fun y H4 => LcPut D y (Pv D (i + 1)) H4 else Pv D (i + 1) H3)
    (hd : ∀ D H', Pv D n H' → Q (.ref D) H') : LcGo (Itr lo n) g tt te vs σ Q H :=
  fun D hD => lc_range (Pv D) (h0 D _ (S.new hD)) (fun i H' hi p => hs D i H' hi p) (fun H' p => hd D H' p)
theorem s_lcL (S : Sep cs H) (Pv : Addr → Nat → Hp → Prop) (h0 : ∀ D H', Sep (pt D (.lst []) :: cs) H' → Pv D 0 H') (hl : ∀ D i H', i ≤ xs.length → Pv D i H' → SqL K H' a xs)
    (hs : ∀ D i x H', xs[i]? = some x → Pv D i H' → g x (wipe σ vs) H' fun σ2 H2 => wipe σ2 vs = wipe σ vs ∧ tt σ2 H2 fun b H3 => if b = true then te σ2 H3 fun y H4 => LcPut D y (Pv D (i + 1)) H4 else Pv D (i + 1) H3)
    (hd : ∀ D H', Pv D xs.length H' → Q (.ref D) H') : LcGo (Itl K a) g tt te vs σ Q H :=
  fun D hD => lc_list (Pv D) (h0 D _ (S.new hD)) (hl D) (fun i x H' e p => hs D i x H' e p) (fun H' p => hd D H' p)
end
/-! ## a pair with a list in it -/
section
variable {K : PySem.W.Frag} {H : Hp} {Q : VK} {a b t1 t2 : Addr} {xs ys : List V} {x : V} {cs ds es ds2 es2 : List As}
theorem shaped_tl {xs : List V} {x : V} (hx : okV x = true) (h : ∀ v ∈ xs, okV v = true) : SeqAt.shaped (.tuple [dV x, .list (xs.map dV)]) = true := by
  show (((dV x).canLay0 && ((PyData.canLayAll0 (xs.map dV)) && true)) && decide (max (PyData.depth (dV x)) (max (PyData.depthAll (xs.map dV) + 1) 0) + 1 ≤ 64)) = true
  rw [can_dV hx, canAll_flat h, dep_dV, depAll_flat]
  rfl
theorem s_neTL (S : Sep cs H) (p1 : Pick (pt t1 (.tup [x, .ref a])) cs ds) (p2 : Pick (pt a (.lst xs)) cs es) (q1 : Pick (pt t2 (.tup [x, .ref b])) cs ds2) (q2 : Pick (pt b (.lst xs)) cs es2) (hx : okV x = true) (h : ∀ v ∈ xs, okV v = true) (k : Q (.bl false) H) : rNeZ K (.ref t1) (.ref t2) H Q := by
  refine s_neD (.tup (SqT.of (S.get p1)) (.cons (dp_flat hx) (.cons (.lst (SqL.of (S.get p2)) (dpAll_flat h)) .nil))) (.tup (SqT.of (S.get q1)) (.cons (dp_flat hx) (.cons (.lst (SqL.of (S.get q2)) (dpAll_flat h)) .nil))) (shaped_tl hx h) (shaped_tl hx h) ?_
  rw [eqv_same (shaped_tl hx h)]
  exact k
end
section
variable {H : Hp} {Q : VK} {i j : Int} {te : TE} {σ : St}
instance : Stp (rMax2 [.int i, .int j] H Q) (Q (.int (if j > i then j else i)) H) := ⟨fun k => ⟨i, j, rfl, k⟩⟩
instance : Stp (rMin2 [.int i, .int j] H Q) (Q (.int (if j < i then j else i)) H) := ⟨fun k => ⟨i, j, rfl, k⟩⟩
/-- one value by many ways -/
theorem s_val (v : V) (h : ∀ Q : VK, Q v H → te σ H Q) (k : Q v H) : te σ H Q := h Q k
end
/-- what a law is to do -/
def spLawK (K : PySem.W.Frag) : Sp := fun vs H Q _ => ∃ (a : Addr) (ns : List Int), vs = [.ref a] ∧ SqL K H a (ns.map V.int) ∧ ns.length ≤ 63 ∧ ∀ H', Q (.bl true) H'
theorem len_law {K vs H Q E} (h : spLawK K vs H Q E) : vs.length = 1 := by obtain ⟨a, ns, rfl, _⟩ := h; rfl
theorem sep_law {K : PySem.W.Frag} {H : Hp} {a : Addr} {xs : List V} (h : SqL K H a xs) : Sep [sq K a xs] H := ⟨H, fun _ => none, Le.refl _, (fun _ _ q => nomatch q), (fun _ _ _ _ q => nomatch q), h, trivial⟩
end L2.Zs
namespace L2.Zs
open PySem PySem.Spec PyProof.Rows
local macro_rules | `(tactic| wtm_at "pk") => `(tactic| (repeat (first | with_reducible exact Pick.here | with_reducible apply Pick.there)))
local macro_rules | `(tactic| wtm_at "cg") => `(tactic| (repeat (first | with_reducible exact Chg.here | with_reducible apply Chg.there)))
local macro_rules | `(tactic| wtm_at "sa") => `(tactic| (repeat (first | with_reducible exact SetAt.here | with_reducible apply SetAt.there)))
local macro_rules | `(tactic| wtm_at "wk1") => `(tactic| (repeat (first | with_reducible exact Wk.refl | (with_reducible apply Wk.pick; focus (wtm_at "pk"; done)) | with_reducible apply Wk.drop)))
local macro_rules | `(tactic| wtm_at "wk") => `(tactic| (refine Wk.sep ?_ (by assumption); wtm_at "wk1"))
local macro_rules | `(tactic| wtm_at "sz") => `(tactic| first | exact Nat.le_of_ble_eq_true rfl | assumption | omega)
local macro_rules | `(tactic| wtm_at "s1") => `(tactic| first
  | refine Stp.go ?_
  | with_reducible refine s_mod (by first | decide | assumption | omega) ?_
  | with_reducible refine s_mulI (by first | exact cmul_l (by decide) | exact cmul_r (by decide) | (exact cmul_l (by omega)) | (exact cmul_r (by omega))) ?_
  | with_reducible refine s_div (cdiv_of (by decide) (by decide)) ?_
  | with_reducible refine s_pow (cpow_of (by decide) (by decide) (by decide)) ?_
  | with_reducible refine s_lenL (by assumption) (by wtm_at "pk") ?_
  | with_reducible refine s_lenQ (by assumption) (by wtm_at "pk") ?_
  | with_reducible refine s_lenT (by assumption) (by wtm_at "pk") ?_
  | with_reducible refine s_tyL (by assumption) (by wtm_at "pk") ?_)
local macro_rules | `(tactic| wtm_at "st") => `(tactic| (repeat (first | wtm_at "s1" | with_reducible refine s_seq ?_)))
local macro_rules | `(tactic| wtm_at "stc") => `(tactic| (repeat wtm_at "s1"))

def top (i : Nat) : Stmt := PySem.Challenge.pw_stephall_k07_groups_taken.main.body.getD i (.Pass ⟨0, 0, 0, 0⟩)
structure Ad where
  HallError : Addr
  NoFigure : Addr
  BadPlan : Addr
  NoText : Addr
  NoSwitch : Addr
  NoLine : Addr
  NotSo : Addr
  NoRow : Addr
  Group : Addr
structure Txt (K : PySem.W.Frag) (mg : PySem.Str → Option Value) (ad : Ad) : Prop where
  b_len : mg "len" = none
  b_range : mg "range" = none
  b_list : mg "list" = none
  b_tuple : mg "tuple" = none
  b_isinstance : mg "isinstance" = none
  b_int : mg "int" = none
  b_bool : mg "bool" = none
  b_max : mg "max" = none
  b_ValueError : mg "ValueError" = none
  x_HallError : XC K mg "HallError" ad.HallError
  x_NoFigure : XC K mg "NoFigure" ad.NoFigure
  x_BadPlan : XC K mg "BadPlan" ad.BadPlan
  x_NoText : XC K mg "NoText" ad.NoText
  x_NoSwitch : XC K mg "NoSwitch" ad.NoSwitch
  x_NoLine : XC K mg "NoLine" ad.NoLine
  x_NotSo : XC K mg "NotSo" ad.NotSo
  x_NoRow : XC K mg "NoRow" ad.NoRow
  i_NoSwitch : XI K ad.NoSwitch
  e_NoSwitch : PySem.W.exmOne K (.ref ad.NoSwitch) (.ref ad.HallError) = some true
  k_NoSwitch : PySem.W.kitOne K (.ref ad.NoSwitch) (.ref ad.NoSwitch) = some true
  n_NoSwitch : ∀ c ∈ [ad.BadPlan, ad.NoFigure, ad.NoLine, ad.NoRow, ad.NoText, ad.NotSo], PySem.W.kitOne K (.ref ad.NoSwitch) (.ref c) = some false
abbrev s_Lcell : Stmt := top 14
abbrev N_Lcell : List Str := ["script", "k"]
theorem sc_Lcell : FnScope N_Lcell ["script", "k"] (defScope s_Lcell) := ⟨rfl, rfl, rfl, by decide +kernel, rfl, by decide +kernel, by decide +kernel⟩
abbrev s_Ldraws : Stmt := top 15
abbrev N_Ldraws : List Str := ["script", "k", "many", "base", "primes", "cell", "rest", "row", "j", "mash"]
theorem sc_Ldraws : FnScope N_Ldraws ["script", "k", "many", "base"] (defScope s_Ldraws) := ⟨rfl, rfl, rfl, by decide +kernel, rfl, by decide +kernel, by decide +kernel⟩
abbrev s_Lnumber : Stmt := top 17
abbrev N_Lnumber : List Str := ["draw", "long", "figures", "k"]
theorem sc_Lnumber : FnScope N_Lnumber ["draw", "long"] (defScope s_Lnumber) := ⟨rfl, rfl, rfl, by decide +kernel, rfl, by decide +kernel, by decide +kernel⟩
abbrev s_Lwhole : Stmt := top 16
abbrev N_Lwhole : List Str := ["found"]
theorem sc_Lwhole : FnScope N_Lwhole ["found"] (defScope s_Lwhole) := ⟨rfl, rfl, rfl, by decide +kernel, rfl, by decide +kernel, by decide +kernel⟩
abbrev s_RackQ_initQ : Stmt := inClass (top 10) 0
abbrev N_RackQ_initQ : List Str := ["self", "many"]
theorem sc_RackQ_initQ : FnScope N_RackQ_initQ ["self", "many"] (defScope s_RackQ_initQ) := ⟨rfl, rfl, rfl, by decide +kernel, rfl, by decide +kernel, by decide +kernel⟩
abbrev s_Rack_is_ready : Stmt := inClass (top 10) 1
abbrev N_Rack_is_ready : List Str := ["self", "k"]
theorem sc_Rack_is_ready : FnScope N_Rack_is_ready ["self", "k"] (defScope s_Rack_is_ready) := ⟨rfl, rfl, rfl, by decide +kernel, rfl, by decide +kernel, by decide +kernel⟩
abbrev s_Rack_need : Stmt := inClass (top 10) 2
abbrev N_Rack_need : List Str := ["self", "k"]
theorem sc_Rack_need : FnScope N_Rack_need ["self", "k"] (defScope s_Rack_need) := ⟨rfl, rfl, rfl, by decide +kernel, rfl, by decide +kernel, by decide +kernel⟩
abbrev s_Rack_given : Stmt := inClass (top 10) 3
abbrev N_Rack_given : List Str := ["self", "k", "who"]
theorem sc_Rack_given : FnScope N_Rack_given ["self", "k", "who"] (defScope s_Rack_given) := ⟨rfl, rfl, rfl, by decide +kernel, rfl, by decide +kernel, by decide +kernel⟩
abbrev s_Rack_free : Stmt := inClass (top 10) 4
abbrev N_Rack_free : List Str := ["self", "k"]
theorem sc_Rack_free : FnScope N_Rack_free ["self", "k"] (defScope s_Rack_free) := ⟨rfl, rfl, rfl, by decide +kernel, rfl, by decide +kernel, by decide +kernel⟩
abbrev s_Rack_stick : Stmt := inClass (top 10) 5
abbrev N_Rack_stick : List Str := ["self", "k"]
theorem sc_Rack_stick : FnScope N_Rack_stick ["self", "k"] (defScope s_Rack_stick) := ⟨rfl, rfl, rfl, by decide +kernel, rfl, by decide +kernel, by decide +kernel⟩
abbrev s_Rack_mend : Stmt := inClass (top 10) 6
abbrev N_Rack_mend : List Str := ["self", "k"]
theorem sc_Rack_mend : FnScope N_Rack_mend ["self", "k"] (defScope s_Rack_mend) := ⟨rfl, rfl, rfl, by decide +kernel, rfl, by decide +kernel, by decide +kernel⟩
abbrev s_Rack_shares : Stmt := inClass (top 10) 7
abbrev N_Rack_shares : List Str := ["self"]
theorem sc_Rack_shares : FnScope N_Rack_shares ["self"] (defScope s_Rack_shares) := ⟨rfl, rfl, rfl, by decide +kernel, rfl, by decide +kernel, by decide +kernel⟩
abbrev s_Group_take : Stmt := inClass (top 12) 0
abbrev N_Group_take : List Str := ["self", "who", "k"]
theorem sc_Group_take : FnScope N_Group_take ["self", "who"] (defScope s_Group_take) := ⟨rfl, rfl, rfl, by decide +kernel, rfl, by decide +kernel, by decide +kernel⟩
abbrev s_Group_paper : Stmt := inClass (top 12) 1
abbrev N_Group_paper : List Str := ["self", "told", "k"]
theorem sc_Group_paper : FnScope N_Group_paper ["self"] (defScope s_Group_paper) := ⟨rfl, rfl, rfl, by decide +kernel, rfl, by decide +kernel, by decide +kernel⟩
section
variable {P : Program} {w : World} {K : PySem.W.Frag} {mg : PySem.Str → Option Value} {base : Heap} {ad : Ad} {Cs : List Addr} {C : Addr} {f : Addr} {fd : FuncData}
set_option maxHeartbeats 2000000
theorem ok_Lcell {f : Addr} {fd : FuncData} (T : Txt K mg ad) (F : Fun K "_law_cell" "_law_cell" s_Lcell f fd) : FnOk P w K mg base (L2.CX P w) 1 f fd ["script", "k"] (spCell K) := by
  refine F.okX sc_Lcell (fun vs H Q E h => len_cell h) (fun cdv A outer s H vs Q E hr h => ?_)
  refine ⟨_, (pss_cons (ps_if (pt_cmpR zo_lt (pv 1) (pe_callB (k_len (K := K) rfl) (by rfl) T.b_len (by decide +kernel) (pa_cons (pv 0) pa_nil)) (nomark _)) (pss_one (ps_ret (pe_ix (k_ix (K := K) rfl) (pv 0) (pv 1) (fun _ _ => rfl)))) pss_nil)
  (pss_cons (ps_if (pt_cmpR (k_eq (K := K) rfl hr.units) (pe_callB (k_len (K := K) rfl) (by rfl) T.b_len (by decide +kernel) (pa_cons (pv 0) pa_nil)) pe_int (nomark _)) (pss_one (ps_ret (pe_op zo_add (pe_op zo_mul pe_int (pv 1)) pe_int))) pss_nil)
  (pss_one (ps_ret (pe_op zo_add (pe_op zo_mod (pe_ix (k_ix (K := K) rfl) (pv 0) (pe_op zo_mod (pv 1) (pe_callB (k_len (K := K) rfl) (by rfl) T.b_len (by decide +kernel) (pa_cons (pv 0) pa_nil))) (fun _ _ => rfl)) pe_int) (pe_op zo_mul pe_int (pv 1))))))), ?_⟩
  obtain ⟨a, ns, k, cs, rfl, S, h0, q⟩ := h
  refine s_start (σ := [some (.ref a), some (.int k)]) rfl ?_
  wtm_at "st"
  refine s_ifd (fun h1 => ?_) (fun h1 => ?_)
  · wtm_at "st"
    obtain ⟨v, hv, hm, _⟩ := atI_lt (xs := ns.map V.int) h0 h1
    obtain ⟨z, _, rfl⟩ := List.mem_map.mp hm
    exact s_ixQ S (by wtm_at "pk") hv (q z)
  · wtm_at "st"
    refine s_ifd (fun h2 => ?_) (fun h2 => ?_)
    · wtm_at "st"
      exact q _
    · have h3 : (0 : Int) < ((ns.map V.int).length : Nat) := by omega
      wtm_at "st"
      obtain ⟨v, hv, hm, _⟩ := atI_lt (xs := ns.map V.int) (i := k % ((ns.map V.int).length : Nat)) (Int.emod_nonneg _ (by omega)) (Int.emod_lt_of_pos _ h3)
      obtain ⟨z, _, rfl⟩ := List.mem_map.mp hm
      refine s_ixQ S (by wtm_at "pk") hv ?_
      wtm_at "st"
      exact q _
theorem len_nn (n : Nat) : (n : Int) % 8 < 8 ∧ 0 ≤ (n : Int) % 8 := ⟨Int.emod_lt_of_pos _ (by decide), Int.emod_nonneg _ (by decide)⟩
theorem ok_Ldraws {f : Addr} {fd : FuncData} (T : Txt K mg ad) (c_Lcell : Cal P w K mg base 1 "_law_cell" (spCell K)) (F : Fun K "_law_draws" "_law_draws" s_Ldraws f fd) : FnOk P w K mg base (L2.CX P w) 2 f fd ["script", "k", "many", "base"] (spDraws K) := by
  refine F.okX sc_Ldraws (fun vs H Q E h => len_draws h) (fun cdv A outer s H vs Q E hr h => ?_)
  have tk : Takes (cxOf (L2.CX P w) P w K mg base N_Ldraws "_law_draws" (defScope s_Ldraws) f cdv A outer s H E) (fun cls d _ H => E cls d H) := takes_of rfl rfl rfl rfl
  have po_ : PassesOwn (model P w) (cxOf (L2.CX P w) P w K mg base N_Ldraws "_law_draws" (defScope s_Ldraws) f cdv A outer s H E).A (cxOf (L2.CX P w) P w K mg base N_Ldraws "_law_draws" (defScope s_Ldraws) f cdv A outer s H E).env (cxOf (L2.CX P w) P w K mg base N_Ldraws "_law_draws" (defScope s_Ldraws) f cdv A outer s H E).xe := passes_of rfl
  refine ⟨_, (pss_cons (ps_set (i := 4) sc_Ldraws.nd rfl (Or.inl rfl) (pe_tup (pa_cons pe_int (pa_cons pe_int (pa_cons pe_int (pa_cons pe_int (pa_cons pe_int (pa_cons pe_int (pa_cons pe_int (pa_cons pe_int pa_nil))))))))))
  (pss_cons (ps_set (i := 5) sc_Ldraws.nd rfl (Or.inl rfl) (z_call c_Lcell tk hr (by decide) (by rfl) (pa_cons (pv 0) (pa_cons (pv 1) pa_nil))))
  (pss_cons (ps_set (i := 6) sc_Ldraws.nd rfl (Or.inl rfl) pe_int)
  (pss_cons (ps_if (pt_cmpR zo_ge (pv 5) (pe_op zo_pow pe_int pe_int) (nomark _)) (pss_one (ps_set (i := 6) sc_Ldraws.nd rfl (Or.inl rfl) (pv 5))) pss_nil)
  (pss_cons (ps_set (i := 7) sc_Ldraws.nd rfl (Or.inl rfl) (pe_lst pa_nil))
  (pss_cons (ps_for (po_) rfl (pi_range1 (by rfl) T.b_range (pa_cons (pv 2) pa_nil)) (pg_name (i := 8) sc_Ldraws.nd rfl (Or.inl rfl)) (pss_cons (ps_set (i := 9) sc_Ldraws.nd rfl (Or.inl rfl) (pe_op zo_mul (pe_op zo_mod (pv 5) (pe_ix (k_ix (K := K) rfl) (pv 4) (pe_op zo_mod (pv 8) pe_int) (fun _ _ => rfl))) (pe_op zo_add pe_int (pe_op zo_mul (pe_op zo_mul pe_int (pv 8)) (pv 8)))))
  (pss_cons (ps_set (i := 9) sc_Ldraws.nd rfl (Or.inl rfl) (pe_op zo_add (pe_op zo_add (pv 9) (pe_op zo_mul (pe_op zo_mul pe_int (pe_op zo_add (pv 8) pe_int)) (pe_op zo_add (pv 8) pe_int))) (pe_op zo_mul pe_int (pv 1))))
  (pss_cons (ps_set (i := 9) sc_Ldraws.nd rfl (Or.inl rfl) (pe_op zo_mod (pv 9) (pe_ix (k_ix (K := K) rfl) (pv 4) (pe_op zo_mod (pe_op zo_add (pe_op zo_mul pe_int (pv 8)) (pv 1)) pe_int) (fun _ _ => rfl))))
  (pss_cons (ps_set (i := 9) sc_Ldraws.nd rfl (Or.inl rfl) (pe_op zo_mod (pe_op zo_mul (pe_op zo_mul (pv 9) (pv 9)) (pv 9)) (pe_ix (k_ix (K := K) rfl) (pv 4) (pe_op zo_mod (pe_op zo_add (pv 8) pe_int) pe_int) (fun _ _ => rfl))))
  (pss_cons (ps_if (pt_cmpR zo_gt (pv 6) pe_int (nomark _)) (pss_one (ps_set (i := 9) sc_Ldraws.nd rfl (Or.inl rfl) (pv 6))) pss_nil)
  (pss_cons (ps_expr (k_bm (K := K) rfl PySem.F.plainAttrs_list PySem.F.slot_list_append PySem.F.type_list_append z_append (pv 7) (pa_cons (pe_op zo_mod (pv 9) (pv 3)) pa_nil)))
  (pss_one (ps_set (i := 6) sc_Ldraws.nd rfl (Or.inl rfl) (pe_op zo_div (pv 6) (pv 3)))))))))))
  (pss_one (ps_ret (pv 7))))))))), ?_⟩
  obtain ⟨a, ns, k, many, bs, cs, rfl, S, h0, h00, h1, h2, h3, q⟩ := h
  refine s_start (σ := [some (.ref a), some (.int k), some (.int many), some (.int bs), none, none, none, none, none, none]) rfl ?_
  wtm_at "st"
  refine s_newT (by wtm_at "sz") S fun p H S => ?_
  wtm_at "st"
  refine ⟨a, ns, k, _, rfl, S.pick (by wtm_at "pk"), h0, fun z => ?_⟩
  wtm_at "stc"
  with_reducible refine s_cut (fun σ H' => H' = H ∧ ∃ rest : Int, 0 ≤ rest ∧ σ = [some (.ref a), some (.int k), some (.int many), some (.int bs), some (.ref p), some (.int z), some (.int rest), none, none, none]) ?_ (fun N go => ?_)
  rotate_left
  · wtm_at "st"
    refine s_ifd (fun h5 => ?_) (fun h5 => ?_)
    · wtm_at "st"
      exact go _ _ ⟨rfl, z, (by have : (0:Int) ≤ 10 ^ (18 : Int).toNat := by decide
                                omega), rfl⟩
    · wtm_at "st"
      exact go _ _ ⟨rfl, 0, by decide, rfl⟩
  rintro _ _ ⟨rfl, rest, hrest, rfl⟩
  have S : Sep (pt p (.tup (prL.map V.int)) :: sq K a (ns.map V.int) :: cs) _ := S
  wtm_at "st"
  refine s_newL (by wtm_at "sz") S fun q1 H S => ?_
  wtm_at "st"
  refine s_rng1 h1 (by omega) (lp_range (fun i σ H => ∃ (rest : Int) (row : List Int) (v8 v9 : Option V), σ = [some (.ref a), some (.int k), some (.int many), some (.int bs), some (.ref p), some (.int z), some (.int rest), some (.ref q1), v8, v9] ∧
    0 ≤ rest ∧ row.length = i ∧ (∀ r ∈ row, 0 ≤ r ∧ r < bs) ∧ Sep (pt q1 (.lst (row.map V.int)) :: pt p (.tup (prL.map V.int)) :: sq K a (ns.map V.int) :: cs) H)
    ⟨rest, [], none, none, rfl, hrest, rfl, (fun r hr => nomatch hr), S⟩ ?_ ?_)
  · rintro i σ H hi ⟨rest, row, v8, v9, rfl, hrest, hl, hrow, S⟩
    have hi' : (i : Int) < 1000000 := by omega
    wtm_at "st"
    obtain ⟨p1, hp1, e1⟩ := prL_at i
    refine s_ixT S (by wtm_at "pk") e1 ?_
    have b1 := emod_in z hp1.1
    wtm_at "st"
    obtain ⟨p2, hp2, e2⟩ := prL_at (3 * i + k)
    refine s_ixT S (by wtm_at "pk") e2 ?_
    wtm_at "s1"
    have b2 := emod_in (z % p1 * (48271 + 2 * (i : Int) * i) + 7919 * ((i : Int) + 1) * ((i : Int) + 1) + 104729 * k) hp2.1
    generalize (z % p1 * (48271 + 2 * (i : Int) * i) + 7919 * ((i : Int) + 1) * ((i : Int) + 1) + 104729 * k) % p2 = m at b2 ⊢
    wtm_at "st"
    obtain ⟨p3, hp3, e3⟩ := prL_at (i + 5)
    refine s_ixT S (by wtm_at "pk") e3 ?_
    wtm_at "s1"
    have b3 := emod_in (m * m * m) hp3.1
    generalize (m * m * m) % p3 = m3 at b3 ⊢
    wtm_at "stc"
    with_reducible refine s_cut (fun σ H' => H' = H ∧ ∃ m : Int, σ = [some (.ref a), some (.int k), some (.int many), some (.int bs), some (.ref p), some (.int z), some (.int rest), some (.ref q1), some (.int i), some (.int m)]) ?_ (fun N go => ?_)
    rotate_left
    · wtm_at "st"
      refine s_ifd (fun h5 => ?_) (fun h5 => ?_)
      · wtm_at "st"
        exact go _ _ ⟨rfl, _, rfl⟩
      · wtm_at "st"
        exact go _ _ ⟨rfl, _, rfl⟩
    rintro _ _ ⟨rfl, m4, rfl⟩
    have hb : 0 < bs := h3.1
    have b4 := emod_in m4 hb
    wtm_at "st"
    refine s_append (v := .int (m4 % bs)) (by assumption) (by wtm_at "cg") (by rw [List.length_map, hl]; exact Nat.lt_of_lt_of_le (show i < 1000000 by omega) (by decide)) fun H S => ?_
    wtm_at "st"
    refine s_div h3 ?_
    wtm_at "st"
    refine ⟨rest / bs, row ++ [m4 % bs], _, _, rfl, Int.ediv_nonneg hrest (by omega), by simp [hl], fun r hr => ?_, ?_⟩
    · rcases List.mem_append.mp hr with hr | hr
      · exact hrow r hr
      · rw [List.mem_singleton.mp hr]; exact b4
    · rw [List.map_append]; exact S
  · rintro σ H ⟨rest, row, v8, v9, rfl, hrest, hl, hrow, S⟩
    wtm_at "st"
    refine q row q1 H (by omega) hrow ?_
    wtm_at "wk"
theorem ok_Lnumber (T : Txt K mg ad) (F : Fun K "_law_number" "_law_number" s_Lnumber f fd) : FnOk P w K mg base (L2.CX P w) 1 f fd ["draw", "long"] spNumber := by
  refine F.okX sc_Lnumber (fun vs H Q E h => len_number h) (fun cdv A outer s H vs Q E hr h => ?_)
  have tk : Takes (cxOf (L2.CX P w) P w K mg base N_Lnumber "_law_number" (defScope s_Lnumber) f cdv A outer s H E) (fun cls d _ H => E cls d H) := takes_of rfl rfl rfl rfl
  have po_ : PassesOwn (model P w) (cxOf (L2.CX P w) P w K mg base N_Lnumber "_law_number" (defScope s_Lnumber) f cdv A outer s H E).A (cxOf (L2.CX P w) P w K mg base N_Lnumber "_law_number" (defScope s_Lnumber) f cdv A outer s H E).env (cxOf (L2.CX P w) P w K mg base N_Lnumber "_law_number" (defScope s_Lnumber) f cdv A outer s H E).xe := passes_of rfl
  refine ⟨_, (pss_cons (ps_set (i := 2) sc_Lnumber.nd rfl (Or.inl rfl) pe_str)
  (pss_cons (ps_for (po_) rfl (pi_range1 (by rfl) T.b_range (pa_cons (pv 1) pa_nil)) (pg_name (i := 3) sc_Lnumber.nd rfl (Or.inl rfl)) (pss_cons (ps_set (i := 2) sc_Lnumber.nd rfl (Or.inl rfl) (pe_op zo_add (pv 2) (pe_ix (k_ix (K := K) rfl) pe_str (pe_op zo_mod (pv 0) pe_int) (fun _ _ => rfl))))
  (pss_one (ps_set (i := 0) sc_Lnumber.nd rfl (Or.inl rfl) (pe_op zo_div (pv 0) pe_int)))))
  (pss_one (ps_ret (pv 2))))), ?_⟩
  obtain ⟨d, n, rfl, h0, h1, q⟩ := h
  refine s_start (σ := [some (.int d), some (.int n), none, none]) rfl ?_
  wtm_at "st"
  refine s_rng1 h0 (by omega) (lp_range (fun i σ H' => H' = H ∧ ∃ (d : Int) (z : PySem.Str) (v : Option V), σ = [some (.int d), some (.int n), some (.str z), v] ∧ figs i z) ⟨rfl, d, _, none, rfl, by decide +kernel, fun c hc => by
    rw [show (PySem.Str.ofString "").cps.toList = [] by decide +kernel] at hc
    cases hc⟩ ?_ ?_)
  · rintro i σ H' hi ⟨rfl, d, z, v, rfl, hz⟩
    wtm_at "st"
    obtain ⟨c, e, h48, h57⟩ := digit_at d
    refine s_ixS (by decide +kernel) e ?_
    refine s_addS (by rw [hz.1]; exact Nat.le_trans (show i + 1 ≤ 100001 by omega) (by decide)) ?_
    wtm_at "st"
    refine ⟨rfl, _, _, _, rfl, by rw [app_len, hz.1]; rfl, fun x hx => ?_⟩
    rw [app_codes] at hx
    rcases List.mem_append.mp hx with hx | hx
    · exact hz.2 x hx
    · simp at hx
      omega
  · rintro σ H' ⟨rfl, d, z, v, rfl, hz⟩
    wtm_at "st"
    exact q z hz
theorem ok_Lwhole (T : Txt K mg ad) (F : Fun K "_law_whole" "_law_whole" s_Lwhole f fd) : FnOk P w K mg base (L2.CX P w) 1 f fd ["found"] spWhole := by
  refine F.okX sc_Lwhole (fun vs H Q E h => len_whole h) (fun cdv A outer s H vs Q E hr h => ?_)
  have tk : Takes (cxOf (L2.CX P w) P w K mg base N_Lwhole "_law_whole" (defScope s_Lwhole) f cdv A outer s H E) (fun cls d _ H => E cls d H) := takes_of rfl rfl rfl rfl
  have po_ : PassesOwn (model P w) (cxOf (L2.CX P w) P w K mg base N_Lwhole "_law_whole" (defScope s_Lwhole) f cdv A outer s H E).A (cxOf (L2.CX P w) P w K mg base N_Lwhole "_law_whole" (defScope s_Lwhole) f cdv A outer s H E).env (cxOf (L2.CX P w) P w K mg base N_Lwhole "_law_whole" (defScope s_Lwhole) f cdv A outer s H E).xe := passes_of rfl
  refine ⟨_, (pss_one (ps_ret (pe_and (pe_callB (k_isi (K := K) rfl) (by rfl) T.b_isinstance (by decide +kernel) (pa_cons (pv 0) (pa_cons (z_ty (T := "int") (by rfl) T.b_int (by decide +kernel)) pa_nil))) (pe_one (pe_not (pe_callB (k_isi (K := K) rfl) (by rfl) T.b_isinstance (by decide +kernel) (pa_cons (pv 0) (pa_cons (z_ty (T := "bool") (by rfl) T.b_bool (by decide +kernel)) pa_nil)))))))), ?_⟩
  rcases h with ⟨i, rfl, q⟩ | ⟨rfl, q⟩
  · refine s_start (σ := [some (.int i)]) rfl ?_
    wtm_at "st"
    exact q
  · refine s_start (σ := [some .non]) rfl ?_
    wtm_at "st"
    exact q
theorem ok_Rack_need (T : Txt K mg ad) (R : RT K Cs) (F : Fun K "need" "Rack.need" s_Rack_need f fd) : FnOk P w K mg base (L2.CX P w) 1 f fd ["self", "k"] (spNeed Cs ad.NoSwitch C) := by
  refine F.okX sc_Rack_need (fun vs H Q E h => len_need h) (fun cdv A outer s H vs Q E hr h => ?_)
  have tk : Takes (cxOf (L2.CX P w) P w K mg base N_Rack_need "Rack.need" (defScope s_Rack_need) f cdv A outer s H E) (fun cls d _ H => E cls d H) := takes_of rfl rfl rfl rfl
  have po_ : PassesOwn (model P w) (cxOf (L2.CX P w) P w K mg base N_Rack_need "Rack.need" (defScope s_Rack_need) f cdv A outer s H E).A (cxOf (L2.CX P w) P w K mg base N_Rack_need "Rack.need" (defScope s_Rack_need) f cdv A outer s H E).env (cxOf (L2.CX P w) P w K mg base N_Rack_need "Rack.need" (defScope s_Rack_need) f cdv A outer s H E).xe := passes_of rfl
  refine ⟨_, (pss_one (ps_if ((pw_or (pt_cmpR zo_lt (pv 1) pe_int (nomark _)) (pw_or1 (pt_cmpR zo_ge (pv 1) (pe_callB (k_len (K := K) rfl) (by rfl) T.b_len (by decide +kernel) (pa_cons (k_fld (K := K) rfl (pv 0) rfl) pa_nil)) (nomark _))))).pt (pss_one (z_raise rfl tk T.x_NoSwitch rfl)) pss_nil)), ?_⟩
  obtain ⟨L, r, k, F, rfl, g, S, h1, h2⟩ := h
  refine s_start (σ := [some (.ref L.p), some (.int k)]) rfl ?_
  wtm_at "st"
  refine s_ifd (fun c1 => ?_) (fun c1 => ?_)
  · wtm_at "st"
    exact h2 (by omega)
  · wtm_at "st"
    refine s_held R g S (by wtm_at "pk") ?_
    wtm_at "st"
    refine s_ifd (fun c2 => ?_) (fun c2 => ?_)
    · wtm_at "st"
      exact h2 (by omega)
    · wtm_at "st"
      exact h1 (by omega)
theorem ok_Rack_is_ready (T : Txt K mg ad) (R : RT K Cs) (F : Fun K "is_ready" "Rack.is_ready" s_Rack_is_ready f fd) : FnOk P w K mg base (L2.CX P w) 1 f fd ["self", "k"] (spReady Cs C) := by
  refine F.okX sc_Rack_is_ready (fun vs H Q E h => len_ready h) (fun cdv A outer s H vs Q E hr h => ?_)
  have tk : Takes (cxOf (L2.CX P w) P w K mg base N_Rack_is_ready "Rack.is_ready" (defScope s_Rack_is_ready) f cdv A outer s H E) (fun cls d _ H => E cls d H) := takes_of rfl rfl rfl rfl
  have po_ : PassesOwn (model P w) (cxOf (L2.CX P w) P w K mg base N_Rack_is_ready "Rack.is_ready" (defScope s_Rack_is_ready) f cdv A outer s H E).A (cxOf (L2.CX P w) P w K mg base N_Rack_is_ready "Rack.is_ready" (defScope s_Rack_is_ready) f cdv A outer s H E).env (cxOf (L2.CX P w) P w K mg base N_Rack_is_ready "Rack.is_ready" (defScope s_Rack_is_ready) f cdv A outer s H E).xe := passes_of rfl
  refine ⟨_, (pss_one (ps_ret (pe_and (pe_cmpR zo_isN (pe_ix (k_ix (K := K) rfl) (k_fld (K := K) rfl (pv 0) rfl) (pv 1) (fun _ _ => rfl)) pe_non (nomark _)) (pe_one (pe_not (pe_ix (k_ix (K := K) rfl) (k_fld (K := K) rfl (pv 0) rfl) (pv 1) (fun _ _ => rfl))))))), ?_⟩
  obtain ⟨L, r, k, F, rfl, g, ok, S, h1, h2, q⟩ := h
  refine s_start (σ := [some (.ref L.p), some (.int k)]) rfl ?_
  wtm_at "st"
  refine s_held R g S (by wtm_at "pk") ?_
  wtm_at "st"
  obtain ⟨v, e, hm, hv⟩ := atI_lt (xs := r.held) h1 h2
  refine s_ixL S (by wtm_at "pk") e ?_
  wtm_at "st"
  have hb : k < (r.brk.map V.bl).length := by rw [List.length_map, ok.b]; exact h2
  obtain ⟨v2, e2, hm2, hv2⟩ := atI_lt (xs := r.brk.map V.bl) h1 hb
  rw [List.getElem?_map] at hv2
  obtain ⟨b, hb2, rfl⟩ := Option.map_eq_some_iff.mp hv2
  have e3 : r.rdy k.toNat = (decide (v = .non) && !b) := by
    unfold Rk.rdy
    rw [hv, List.getD_eq_getElem?_getD, hb2]
    simp
  rw [e3] at q
  refine s_ifd (fun c1 => ?_) (fun c1 => ?_)
  · subst c1
    wtm_at "st"
    refine s_brk R g S (by wtm_at "pk") ?_
    wtm_at "st"
    refine s_ixL S (by wtm_at "pk") e2 ?_
    wtm_at "st"
    simpa using q
  · wtm_at "st"
    rw [decide_eq_false c1] at q
    exact q
theorem ok_Rack_given (T : Txt K mg ad) (R : RT K Cs) (F : Fun K "given" "Rack.given" s_Rack_given f fd) : FnOk P w K mg base (L2.CX P w) 1 f fd ["self", "k", "who"] (spGiven Cs C) := by
  refine F.okX sc_Rack_given (fun vs H Q E h => len_given h) (fun cdv A outer s H vs Q E hr h => ?_)
  have tk : Takes (cxOf (L2.CX P w) P w K mg base N_Rack_given "Rack.given" (defScope s_Rack_given) f cdv A outer s H E) (fun cls d _ H => E cls d H) := takes_of rfl rfl rfl rfl
  have po_ : PassesOwn (model P w) (cxOf (L2.CX P w) P w K mg base N_Rack_given "Rack.given" (defScope s_Rack_given) f cdv A outer s H E).A (cxOf (L2.CX P w) P w K mg base N_Rack_given "Rack.given" (defScope s_Rack_given) f cdv A outer s H E).env (cxOf (L2.CX P w) P w K mg base N_Rack_given "Rack.given" (defScope s_Rack_given) f cdv A outer s H E).xe := passes_of rfl
  refine ⟨_, (pss_cons (ps_asg (pv 2) (pg_sub (k_fld (K := K) rfl (pv 0) rfl) (pv 1) set_list))
  (pss_one (ps_augS (k_fld (K := K) rfl (pv 0) rfl) (pv 1) (k_get (K := K) rfl) pe_int ip_add set_list))), ?_⟩
  obtain ⟨L, r, k, v, F, rfl, g, ok, S, h1, h2, q⟩ := h
  refine s_start (σ := [some (.ref L.p), some (.int k), some v]) rfl ?_
  wtm_at "st"
  refine s_held R g S (by wtm_at "pk") ?_
  wtm_at "st"
  refine s_stL S (n := k.toNat) (by wtm_at "cg") (ixN_of h1 h2) fun H S => ?_
  wtm_at "st"
  refine s_tak R g S (by wtm_at "pk") ?_
  wtm_at "st"
  have ht : k < (r.tak.map V.int).length := by rw [List.length_map, ok.t]; exact h2
  obtain ⟨z, hz, e2, e3⟩ := atI_int (ns := r.tak) h1 (by simpa using ht)
  refine s_ixG S (by wtm_at "pk") e2 ?_
  wtm_at "st"
  refine s_stL S (n := k.toNat) (by wtm_at "cg") (ixN_of h1 ht) fun H S => ?_
  wtm_at "st"
  refine q _ ?_
  have e4 : (r.tak.map V.int).set k.toNat (.int (z + 1)) = (r.give k.toNat v).tak.map V.int := by
    unfold Rk.give
    rw [List.map_set, List.getD_eq_getElem?_getD, e3]
    rfl
  rw [e4] at S
  exact S
theorem ok_Rack_free (T : Txt K mg ad) (R : RT K Cs) (m_Rack_need : ∀ C ∈ Cs, Met P w K mg base 1 C "need" (spNeed Cs ad.NoSwitch C)) (F : Fun K "free" "Rack.free" s_Rack_free f fd) : FnOk P w K mg base (L2.CX P w) 2 f fd ["self", "k"] (spFree Cs ad.NoSwitch C) := by
  refine F.okX sc_Rack_free (fun vs H Q E h => len_free h) (fun cdv A outer s H vs Q E hr h => ?_)
  have tk : Takes (cxOf (L2.CX P w) P w K mg base N_Rack_free "Rack.free" (defScope s_Rack_free) f cdv A outer s H E) (fun cls d _ H => E cls d H) := takes_of rfl rfl rfl rfl
  have po_ : PassesOwn (model P w) (cxOf (L2.CX P w) P w K mg base N_Rack_free "Rack.free" (defScope s_Rack_free) f cdv A outer s H E).A (cxOf (L2.CX P w) P w K mg base N_Rack_free "Rack.free" (defScope s_Rack_free) f cdv A outer s H E).env (cxOf (L2.CX P w) P w K mg base N_Rack_free "Rack.free" (defScope s_Rack_free) f cdv A outer s H E).xe := passes_of rfl
  refine ⟨_, (pss_cons (ps_expr (z_meth (pv 0) m_Rack_need tk hr (by decide) (pa_cons (pv 1) pa_nil)))
  (pss_cons (ps_if (pt_cmpR zo_isN (pe_ix (k_ix (K := K) rfl) (k_fld (K := K) rfl (pv 0) rfl) (pv 1) (fun _ _ => rfl)) pe_non (nomark _)) (pss_one (z_raise rfl tk T.x_NoSwitch rfl)) pss_nil)
  (pss_one (ps_asg pe_non (pg_sub (k_fld (K := K) rfl (pv 0) rfl) (pv 1) set_list))))), ?_⟩
  obtain ⟨L, r, k, F, rfl, g, S, h1, h2⟩ := h
  refine s_start (σ := [some (.ref L.p), some (.int k)]) rfl ?_
  wtm_at "st"
  refine s_rm g S (by decide +kernel) (by wtm_at "pk") ?_
  wtm_at "st"
  refine ⟨L, r, k, F, rfl, g, S, fun c => ?_, fun c => h2 fun z => c ⟨z.1, z.2.1⟩⟩
  wtm_at "st"
  refine s_held R g S (by wtm_at "pk") ?_
  wtm_at "st"
  obtain ⟨v, e, hm, hv⟩ := atI_lt (xs := r.held) c.1 c.2
  refine s_ixL S (by wtm_at "pk") e ?_
  wtm_at "st"
  refine s_ifd (fun c1 => ?_) (fun c1 => ?_)
  · subst c1
    wtm_at "st"
    exact h2 fun z => z.2.2 hv
  · wtm_at "st"
    refine s_held R g S (by wtm_at "pk") ?_
    wtm_at "st"
    refine s_stL S (n := k.toNat) (by wtm_at "cg") (ixN_of c.1 c.2) fun H S => ?_
    wtm_at "st"
    refine h1 c.1 c.2 (by rw [hv]; intro z; exact c1 (Option.some.inj z)) _ S
theorem ok_Rack_stick (T : Txt K mg ad) (R : RT K Cs) (m_Rack_need : ∀ C ∈ Cs, Met P w K mg base 1 C "need" (spNeed Cs ad.NoSwitch C)) (F : Fun K "stick" "Rack.stick" s_Rack_stick f fd) : FnOk P w K mg base (L2.CX P w) 2 f fd ["self", "k"] (spStick Cs ad.NoSwitch true C) := by
  refine F.okX sc_Rack_stick (fun vs H Q E h => len_stick h) (fun cdv A outer s H vs Q E hr h => ?_)
  have tk : Takes (cxOf (L2.CX P w) P w K mg base N_Rack_stick "Rack.stick" (defScope s_Rack_stick) f cdv A outer s H E) (fun cls d _ H => E cls d H) := takes_of rfl rfl rfl rfl
  have po_ : PassesOwn (model P w) (cxOf (L2.CX P w) P w K mg base N_Rack_stick "Rack.stick" (defScope s_Rack_stick) f cdv A outer s H E).A (cxOf (L2.CX P w) P w K mg base N_Rack_stick "Rack.stick" (defScope s_Rack_stick) f cdv A outer s H E).env (cxOf (L2.CX P w) P w K mg base N_Rack_stick "Rack.stick" (defScope s_Rack_stick) f cdv A outer s H E).xe := passes_of rfl
  refine ⟨_, (pss_cons (ps_expr (z_meth (pv 0) m_Rack_need tk hr (by decide) (pa_cons (pv 1) pa_nil)))
  (pss_one (ps_asg pe_bl (pg_sub (k_fld (K := K) rfl (pv 0) rfl) (pv 1) set_list)))), ?_⟩
  obtain ⟨L, r, k, F, rfl, g, ok, S, h1, h2⟩ := h
  refine s_start (σ := [some (.ref L.p), some (.int k)]) rfl ?_
  wtm_at "st"
  refine s_rm g S (by decide +kernel) (by wtm_at "pk") ?_
  wtm_at "st"
  refine ⟨L, r, k, F, rfl, g, S, fun c => ?_, fun c => h2 c⟩
  wtm_at "st"
  refine s_brk R g S (by wtm_at "pk") ?_
  wtm_at "st"
  refine s_stL S (n := k.toNat) (by wtm_at "cg") (ixN_of c.1 (by rw [List.length_map, ok.b]; exact c.2)) fun H S => ?_
  wtm_at "st"
  refine h1 c.1 c.2 _ ?_
  have e4 : (r.brk.map V.bl).set k.toNat (.bl true) = (r.brkAt k.toNat true).brk.map V.bl := by
    unfold Rk.brkAt
    rw [List.map_set]
  rw [e4] at S
  exact S
theorem ok_Rack_mend (T : Txt K mg ad) (R : RT K Cs) (m_Rack_need : ∀ C ∈ Cs, Met P w K mg base 1 C "need" (spNeed Cs ad.NoSwitch C)) (F : Fun K "mend" "Rack.mend" s_Rack_mend f fd) : FnOk P w K mg base (L2.CX P w) 2 f fd ["self", "k"] (spStick Cs ad.NoSwitch false C) := by
  refine F.okX sc_Rack_mend (fun vs H Q E h => len_stick h) (fun cdv A outer s H vs Q E hr h => ?_)
  have tk : Takes (cxOf (L2.CX P w) P w K mg base N_Rack_mend "Rack.mend" (defScope s_Rack_mend) f cdv A outer s H E) (fun cls d _ H => E cls d H) := takes_of rfl rfl rfl rfl
  have po_ : PassesOwn (model P w) (cxOf (L2.CX P w) P w K mg base N_Rack_mend "Rack.mend" (defScope s_Rack_mend) f cdv A outer s H E).A (cxOf (L2.CX P w) P w K mg base N_Rack_mend "Rack.mend" (defScope s_Rack_mend) f cdv A outer s H E).env (cxOf (L2.CX P w) P w K mg base N_Rack_mend "Rack.mend" (defScope s_Rack_mend) f cdv A outer s H E).xe := passes_of rfl
  refine ⟨_, (pss_cons (ps_expr (z_meth (pv 0) m_Rack_need tk hr (by decide) (pa_cons (pv 1) pa_nil)))
  (pss_one (ps_asg pe_bl (pg_sub (k_fld (K := K) rfl (pv 0) rfl) (pv 1) set_list)))), ?_⟩
  obtain ⟨L, r, k, F, rfl, g, ok, S, h1, h2⟩ := h
  refine s_start (σ := [some (.ref L.p), some (.int k)]) rfl ?_
  wtm_at "st"
  refine s_rm g S (by decide +kernel) (by wtm_at "pk") ?_
  wtm_at "st"
  refine ⟨L, r, k, F, rfl, g, S, fun c => ?_, fun c => h2 c⟩
  wtm_at "st"
  refine s_brk R g S (by wtm_at "pk") ?_
  wtm_at "st"
  refine s_stL S (n := k.toNat) (by wtm_at "cg") (ixN_of c.1 (by rw [List.length_map, ok.b]; exact c.2)) fun H S => ?_
  wtm_at "st"
  refine h1 c.1 c.2 _ ?_
  have e4 : (r.brk.map V.bl).set k.toNat (.bl false) = (r.brkAt k.toNat false).brk.map V.bl := by
    unfold Rk.brkAt
    rw [List.map_set]
  rw [e4] at S
  exact S
theorem ok_Rack_shares (T : Txt K mg ad) (R : RT K Cs) (F : Fun K "shares" "Rack.shares" s_Rack_shares f fd) : FnOk P w K mg base (L2.CX P w) 1 f fd ["self"] (spShares Cs C) := by
  refine F.okX sc_Rack_shares (fun vs H Q E h => len_shares h) (fun cdv A outer s H vs Q E hr h => ?_)
  have tk : Takes (cxOf (L2.CX P w) P w K mg base N_Rack_shares "Rack.shares" (defScope s_Rack_shares) f cdv A outer s H E) (fun cls d _ H => E cls d H) := takes_of rfl rfl rfl rfl
  have po_ : PassesOwn (model P w) (cxOf (L2.CX P w) P w K mg base N_Rack_shares "Rack.shares" (defScope s_Rack_shares) f cdv A outer s H E).A (cxOf (L2.CX P w) P w K mg base N_Rack_shares "Rack.shares" (defScope s_Rack_shares) f cdv A outer s H E).env (cxOf (L2.CX P w) P w K mg base N_Rack_shares "Rack.shares" (defScope s_Rack_shares) f cdv A outer s H E).xe := passes_of rfl
  refine ⟨_, (pss_one (ps_ret (pe_callTy (k_listOf (K := K) rfl) (by rfl) T.b_list (by decide +kernel) (pa_cons (k_fld (K := K) rfl (pv 0) rfl) pa_nil)))), ?_⟩
  obtain ⟨L, r, F, rfl, g, S, q⟩ := h
  refine s_start (σ := [some (.ref L.p)]) rfl ?_
  wtm_at "st"
  refine s_tak R g S (by wtm_at "pk") ?_
  wtm_at "st"
  exact s_listL S (by wtm_at "pk") fun l H S => q _ _ S
theorem ok_Rack_init (T : Txt K mg ad) (R : RT K Cs) (F : Fun K "__init__" "Rack.__init__" s_RackQ_initQ f fd) : FnOk P w K mg base (L2.CX P w) 1 f fd ["self", "many"] (spRack Cs C) := by
  refine F.okX sc_RackQ_initQ (fun vs H Q E h => len_rack h) (fun cdv A outer s H vs Q E hr h => ?_)
  have tk : Takes (cxOf (L2.CX P w) P w K mg base N_RackQ_initQ "Rack.__init__" (defScope s_RackQ_initQ) f cdv A outer s H E) (fun cls d _ H => E cls d H) := takes_of rfl rfl rfl rfl
  have po_ : PassesOwn (model P w) (cxOf (L2.CX P w) P w K mg base N_RackQ_initQ "Rack.__init__" (defScope s_RackQ_initQ) f cdv A outer s H E).A (cxOf (L2.CX P w) P w K mg base N_RackQ_initQ "Rack.__init__" (defScope s_RackQ_initQ) f cdv A outer s H E).env (cxOf (L2.CX P w) P w K mg base N_RackQ_initQ "Rack.__init__" (defScope s_RackQ_initQ) f cdv A outer s H E).xe := passes_of rfl
  refine ⟨_, (pss_cons (k_sfld (K := K) rfl (pv 0) (pe_op zo_mul (pe_lst (pa_cons pe_non pa_nil)) (pv 1)) rfl)
  (pss_cons (k_sfld (K := K) rfl (pv 0) (pe_op zo_mul (pe_lst (pa_cons pe_bl pa_nil)) (pv 1)) rfl)
  (pss_one (k_sfld (K := K) rfl (pv 0) (pe_op zo_mul (pe_lst (pa_cons pe_int pa_nil)) (pv 1)) rfl)))), ?_⟩
  obtain ⟨p, dx, n, F, rfl, hC, h0, h1, S, q⟩ := h
  refine s_start (σ := [some (.ref p), some (.int n)]) rfl ?_
  wtm_at "st"
  refine s_newL (by wtm_at "sz") S fun t1 H S => ?_
  wtm_at "st"
  refine s_mulL S (by wtm_at "pk") (by omega) (by omega) (Nat.le_trans (show 1 * n.toNat ≤ 60 by omega) (by decide)) fun l1 H S => ?_
  wtm_at "st"
  refine s_sfldR S (by wtm_at "cg") (R.cls _ hC) (R.n1 _ hC) (by wtm_at "sz") fun H S => ?_
  wtm_at "st"
  refine s_newL (by wtm_at "sz") S fun t2 H S => ?_
  wtm_at "st"
  refine s_mulL S (by wtm_at "pk") (by omega) (by omega) (Nat.le_trans (show 1 * n.toNat ≤ 60 by omega) (by decide)) fun l2 H S => ?_
  wtm_at "st"
  refine s_sfldR S (by wtm_at "cg") (R.cls _ hC) (R.n2 _ hC) (by wtm_at "sz") fun H S => ?_
  wtm_at "st"
  refine s_newL (by wtm_at "sz") S fun t3 H S => ?_
  wtm_at "st"
  refine s_mulL S (by wtm_at "pk") (by omega) (by omega) (Nat.le_trans (show 1 * n.toNat ≤ 60 by omega) (by decide)) fun l3 H S => ?_
  wtm_at "st"
  refine s_sfldR S (by wtm_at "cg") (R.cls _ hC) (R.n3 _ hC) (by wtm_at "sz") fun H S => ?_
  wtm_at "st"
  refine q l1 l2 l3 _ ?_
  have rep : ∀ (x : V), (List.replicate n.toNat [x]).flatten = List.replicate n.toNat x := fun x => by simp
  rw [rep, rep, rep, pf_nil, pf_tl (by decide +kernel) pf_nil, pf_tl (by decide +kernel) (pf_tl (by decide +kernel) pf_nil)] at S
  have e1 : (Rk.new n.toNat).brk.map V.bl = List.replicate n.toNat (.bl false) := by simp [Rk.new]
  have e2 : (Rk.new n.toNat).tak.map V.int = List.replicate n.toNat (.int 0) := by simp [Rk.new]
  show Sep (pt p (.ins C dx [("held_by", .ref l1), ("broken", .ref l2), ("taken", .ref l3)]) :: pt l1 (.lst (List.replicate n.toNat .non)) :: pt l2 (.lst ((Rk.new n.toNat).brk.map V.bl)) :: pt l3 (.lst ((Rk.new n.toNat).tak.map V.int)) :: F) _
  rw [e1, e2]
  wtm_at "wk"
theorem ok_Group_take (T : Txt K mg ad) (R : RT K Cs) (m_Rack_is_ready : ∀ C ∈ Cs, Met P w K mg base 1 C "is_ready" (spReady Cs C)) (m_Rack_given : ∀ C ∈ Cs, Met P w K mg base 1 C "given" (spGiven Cs C)) (F : Fun K "take" "Group.take" s_Group_take f fd) : FnOk P w K mg base (L2.CX P w) 2 f fd ["self", "who"] (spTake Cs C) := by
  refine F.okX sc_Group_take (fun vs H Q E h => len_take h) (fun cdv A outer s H vs Q E hr h => ?_)
  have tk : Takes (cxOf (L2.CX P w) P w K mg base N_Group_take "Group.take" (defScope s_Group_take) f cdv A outer s H E) (fun cls d _ H => E cls d H) := takes_of rfl rfl rfl rfl
  have po_ : PassesOwn (model P w) (cxOf (L2.CX P w) P w K mg base N_Group_take "Group.take" (defScope s_Group_take) f cdv A outer s H E).A (cxOf (L2.CX P w) P w K mg base N_Group_take "Group.take" (defScope s_Group_take) f cdv A outer s H E).env (cxOf (L2.CX P w) P w K mg base N_Group_take "Group.take" (defScope s_Group_take) f cdv A outer s H E).xe := passes_of rfl
  refine ⟨_, (pss_cons (ps_for (po_) rfl (pi_range1 (by rfl) T.b_range (pa_cons (pe_callB (k_len (K := K) rfl) (by rfl) T.b_len (by decide +kernel) (pa_cons (k_fld (K := K) rfl (pv 0) rfl) pa_nil)) pa_nil)) (pg_name (i := 2) sc_Group_take.nd rfl (Or.inl rfl)) (pss_one (ps_if (pt_val (z_meth (pv 0) m_Rack_is_ready tk hr (by decide) (pa_cons (pv 2) pa_nil))) (pss_cons (ps_expr (z_meth (pv 0) m_Rack_given tk hr (by decide) (pa_cons (pv 2) (pa_cons (pv 1) pa_nil))))
  (pss_one (ps_ret (pv 2)))) pss_nil)))
  (pss_one (ps_ret pe_non))), ?_⟩
  obtain ⟨L, r, v, F, rfl, g, ok, S, h1, h2⟩ := h
  refine s_start (σ := [some (.ref L.p), some v, none]) rfl ?_
  wtm_at "st"
  refine s_held R g S (by wtm_at "pk") ?_
  wtm_at "st"
  have hn := ok.n
  refine s_rng1 (by omega) (by omega) (lp_range (fun i σ H' => ∃ v2, σ = [some (.ref L.p), some v, v2] ∧ (∀ j, j < i → r.rdy j = false) ∧ Sep (rkC L r F) H') ⟨none, rfl, (fun j hj => absurd hj (Nat.not_lt_zero j)), S⟩ ?_ ?_)
  · rintro i σ H hi ⟨v2, rfl, hno, S⟩
    have hi' : i < r.held.length := by omega
    wtm_at "st"
    refine s_rm g S (by decide +kernel) (by wtm_at "pk") ?_
    wtm_at "st"
    refine ⟨L, r, i, F, rfl, g, ok, S, by omega, by omega, ?_⟩
    wtm_at "st"
    refine s_ite (fun c1 => ?_) (fun c1 => ?_)
    · wtm_at "st"
      refine s_rm g S (by decide +kernel) (by wtm_at "pk") ?_
      wtm_at "st"
      refine ⟨L, r, i, v, F, rfl, g, ok, S, by omega, by omega, fun H S => ?_⟩
      wtm_at "st"
      refine h2 i ?_ hi' H S
      unfold Rk.first
      rw [List.find?_range_eq_some]
      exact ⟨c1, List.mem_range.mpr hi', fun j hj => by simp [hno j hj]⟩
    · wtm_at "st"
      refine ⟨_, rfl, fun j hj => ?_, S⟩
      by_cases e : j = i
      · subst e; exact c1
      · exact hno j (by omega)
  · rintro σ H ⟨v2, rfl, hno, S⟩
    wtm_at "st"
    refine h1 ?_ H S
    unfold Rk.first
    rw [List.find?_eq_none]
    intro j hj
    have := hno j (by have := List.mem_range.mp hj; omega)
    simp [this]
theorem ok_Group_paper (T : Txt K mg ad) (R : RT K Cs) (F : Fun K "paper" "Group.paper" s_Group_paper f fd) : FnOk P w K mg base (L2.CX P w) 1 f fd ["self"] (spPaper Cs C) := by
  refine F.okX sc_Group_paper (fun vs H Q E h => len_paper h) (fun cdv A outer s H vs Q E hr h => ?_)
  have tk : Takes (cxOf (L2.CX P w) P w K mg base N_Group_paper "Group.paper" (defScope s_Group_paper) f cdv A outer s H E) (fun cls d _ H => E cls d H) := takes_of rfl rfl rfl rfl
  have po_ : PassesOwn (model P w) (cxOf (L2.CX P w) P w K mg base N_Group_paper "Group.paper" (defScope s_Group_paper) f cdv A outer s H E).A (cxOf (L2.CX P w) P w K mg base N_Group_paper "Group.paper" (defScope s_Group_paper) f cdv A outer s H E).env (cxOf (L2.CX P w) P w K mg base N_Group_paper "Group.paper" (defScope s_Group_paper) f cdv A outer s H E).xe := passes_of rfl
  refine ⟨_, (pss_cons (ps_set (i := 1) sc_Group_paper.nd rfl (Or.inl rfl) (pe_lst pa_nil))
  (pss_cons (ps_for (po_) rfl (pi_range1 (by rfl) T.b_range (pa_cons (pe_callB (k_len (K := K) rfl) (by rfl) T.b_len (by decide +kernel) (pa_cons (k_fld (K := K) rfl (pv 0) rfl) pa_nil)) pa_nil)) (pg_name (i := 2) sc_Group_paper.nd rfl (Or.inl rfl)) (pss_one (ps_if (pt_cmpR zo_notN (pe_ix (k_ix (K := K) rfl) (k_fld (K := K) rfl (pv 0) rfl) (pv 2) (fun _ _ => rfl)) pe_non (nomark _)) (pss_one (ps_expr (k_bm (K := K) rfl PySem.F.plainAttrs_list PySem.F.slot_list_append PySem.F.type_list_append z_append (pv 1) (pa_cons (pe_ix (k_ix (K := K) rfl) (k_fld (K := K) rfl (pv 0) rfl) (pv 2) (fun _ _ => rfl)) pa_nil)))) (pss_one (ps_if (pt_val (pe_ix (k_ix (K := K) rfl) (k_fld (K := K) rfl (pv 0) rfl) (pv 2) (fun _ _ => rfl))) (pss_one (ps_expr (k_bm (K := K) rfl PySem.F.plainAttrs_list PySem.F.slot_list_append PySem.F.type_list_append z_append (pv 1) (pa_cons pe_str pa_nil)))) (pss_one (ps_expr (k_bm (K := K) rfl PySem.F.plainAttrs_list PySem.F.slot_list_append PySem.F.type_list_append z_append (pv 1) (pa_cons pe_str pa_nil)))))))))
  (pss_one (ps_ret (k_tupleOf (K := K) rfl (by rfl) T.b_tuple (pv 1)))))), ?_⟩
  obtain ⟨L, r, F, rfl, g, ok, S, q⟩ := h
  refine s_start (σ := [some (.ref L.p), none, none]) rfl ?_
  wtm_at "st"
  refine s_newL (by wtm_at "sz") S fun t1 H S => ?_
  wtm_at "st"
  refine s_held R g S (by wtm_at "pk") ?_
  wtm_at "st"
  have hn := ok.n
  refine s_rng1 (by omega) (by omega) (lp_range (fun i σ H' => ∃ v2, σ = [some (.ref L.p), some (.ref t1), v2] ∧ Sep (pt t1 (.lst ((List.range i).map r.said)) :: (rkC L r F)) H') ⟨none, rfl, S⟩ ?_ ?_)
  · rintro i σ H hi ⟨v2, rfl, S⟩
    have hi' : i < r.held.length := by omega
    have hz : ((List.range i).map r.said).length < sizeLine := by simp; exact Nat.lt_of_lt_of_le (show i < 60 by omega) (by decide)
    have eb : r.brk[i]? = some (r.brk.getD i false) := by
      have hb : i < r.brk.length := by rw [ok.b]; exact hi'
      rw [List.getD_eq_getElem?_getD, List.getElem?_eq_getElem hb]; rfl
    wtm_at "st"
    refine s_held R g S (by wtm_at "pk") ?_
    wtm_at "st"
    obtain ⟨v, e, hm, hv⟩ := atI_lt (xs := r.held) (i := i) (by omega) (by omega)
    refine s_ixL S (by wtm_at "pk") e ?_
    wtm_at "st"
    have hv' : r.held.getD i .non = v := by rw [List.getD_eq_getElem?_getD, show r.held[i]? = some v from hv]; rfl
    have fin : ∀ x, r.said i = x → (List.range i).map r.said ++ [x] = (List.range (i + 1)).map r.said := fun x hx => by rw [List.range_succ, List.map_append, ← hx]; rfl
    refine s_ifn (fun c1 => ?_) (fun c1 => ?_)
    · wtm_at "st"
      refine s_held R g S (by wtm_at "pk") ?_
      wtm_at "st"
      refine s_ixL S (by wtm_at "pk") e ?_
      wtm_at "st"
      refine s_append S (by wtm_at "cg") hz fun H S => ?_
      wtm_at "st"
      refine ⟨_, rfl, ?_⟩
      rw [fin v (by unfold Rk.said; rw [hv']; cases v <;> first | rfl | exact absurd rfl c1)] at S
      exact S
    · subst c1
      wtm_at "st"
      refine s_brk R g S (by wtm_at "pk") ?_
      wtm_at "st"
      refine s_ixL S (by wtm_at "pk") (atI_of (v := .bl (r.brk.getD i false)) (by omega) (by rw [List.getElem?_map, Int.toNat_natCast, eb]; rfl)) ?_
      wtm_at "st"
      refine s_ite (fun c2 => ?_) (fun c2 => ?_)
      · wtm_at "st"
        refine s_append S (by wtm_at "cg") hz fun H S => ?_
        wtm_at "st"
        refine ⟨_, rfl, ?_⟩
        rw [fin (.str "stuck") (by unfold Rk.said; rw [hv']; show (if r.brk.getD i false = true then V.str "stuck" else V.str "free") = _; rw [c2]; rfl)] at S
        exact S
      · wtm_at "st"
        refine s_append S (by wtm_at "cg") hz fun H S => ?_
        wtm_at "st"
        refine ⟨_, rfl, ?_⟩
        rw [fin (.str "free") (by unfold Rk.said; rw [hv']; show (if r.brk.getD i false = true then V.str "stuck" else V.str "free") = _; rw [c2]; rfl)] at S
        exact S
  · rintro σ H ⟨v2, rfl, S⟩
    wtm_at "st"
    refine s_tupL S (by wtm_at "pk") fun q1 H S => ?_
    refine q q1 H ?_
    rw [Int.toNat_natCast] at S
    have S : Sep (pt q1 (.tup r.paper) :: pt t1 (.lst ((List.range r.held.length).map r.said)) :: rkC L r F) H := S
    wtm_at "wk"
end
end L2.Zs

namespace L2.Zs
open PySem PySem.Spec PyProof.Rows
local macro_rules | `(tactic| wtm_at "pk") => `(tactic| (repeat (first | with_reducible exact Pick.here | with_reducible apply Pick.there)))
local macro_rules | `(tactic| wtm_at "cg") => `(tactic| (repeat (first | with_reducible exact Chg.here | with_reducible apply Chg.there)))
local macro_rules | `(tactic| wtm_at "sa") => `(tactic| (repeat (first | with_reducible exact SetAt.here | with_reducible apply SetAt.there)))
local macro_rules | `(tactic| wtm_at "wk1") => `(tactic| (repeat (first | with_reducible exact Wk.refl | (with_reducible apply Wk.pick; focus (wtm_at "pk"; done)) | with_reducible apply Wk.drop)))
local macro_rules | `(tactic| wtm_at "wk") => `(tactic| (refine Wk.sep ?_ (by assumption); wtm_at "wk1"))
local macro_rules | `(tactic| wtm_at "sz") => `(tactic| first | exact Nat.le_of_ble_eq_true rfl | assumption | omega)
local macro_rules | `(tactic| wtm_at "s1") => `(tactic| first
  | refine Stp.go ?_
  | with_reducible refine s_mod (by first | decide | assumption | omega) ?_
  | with_reducible refine s_mulI (by first | exact cmul_l (by decide) | exact cmul_r (by decide) | (exact cmul_l (by omega)) | (exact cmul_r (by omega))) ?_
  | with_reducible refine s_div (cdiv_of (by decide) (by decide)) ?_
  | with_reducible refine s_pow (cpow_of (by decide) (by decide) (by decide)) ?_
  | with_reducible refine s_lenL (by assumption) (by wtm_at "pk") ?_
  | with_reducible refine s_lenQ (by assumption) (by wtm_at "pk") ?_
  | with_reducible refine s_lenT (by assumption) (by wtm_at "pk") ?_
  | with_reducible refine s_tyL (by assumption) (by wtm_at "pk") ?_)
local macro_rules | `(tactic| wtm_at "st") => `(tactic| (repeat (first | wtm_at "s1" | with_reducible refine s_seq ?_)))
local macro_rules | `(tactic| wtm_at "stc") => `(tactic| (repeat wtm_at "s1"))

abbrev s_Lrefused : Stmt := top 18
abbrev N_Lrefused : List Str := ["rack", "word", "k", "told", "kinds", "e"]
theorem sc_Lrefused : FnScope N_Lrefused ["rack", "word", "k"] (defScope s_Lrefused) := ⟨rfl, rfl, rfl, by decide +kernel, rfl, by decide +kernel, by decide +kernel⟩
abbrev s_Lshows : Stmt := top 19
abbrev N_Lshows : List Str := ["group", "kept", "held", "stuck", "shares", "due", "k", "told"]
theorem sc_Lshows : FnScope N_Lshows ["group", "kept"] (defScope s_Lshows) := ⟨rfl, rfl, rfl, by decide +kernel, rfl, by decide +kernel, by decide +kernel⟩
abbrev s_Ldeed : Stmt := top 20
abbrev N_Ldeed : List Str := ["group", "kept", "draw", "held", "stuck", "shares", "many", "kind", "who", "k", "some", "told", "word", "near", "bad"]
theorem sc_Ldeed : FnScope N_Ldeed ["group", "kept", "draw"] (defScope s_Ldeed) := ⟨rfl, rfl, rfl, by decide +kernel, rfl, by decide +kernel, by decide +kernel⟩
abbrev s_law : Stmt := top 21
abbrev N_law : List Str := ["script", "row", "groups", "many", "draws", "k", "group", "kept"]
theorem sc_law : FnScope N_law ["script"] (defScope s_law) := ⟨rfl, rfl, rfl, by decide +kernel, rfl, by decide +kernel, by decide +kernel⟩
/-! ## what the law keeps -/
structure GS where
  L : RL
  kt : Addr
  h : Addr
  s : Addr
  sh : Addr
@[reducible] def gC (G : GS) (r : Rk) (st : List Int) (F : List As) : List As :=
  rkC G.L r (pt G.kt (.tup [.ref G.h, .ref G.s, .ref G.sh]) :: pt G.h (.lst r.held) :: pt G.s (.lst (st.map .int)) :: pt G.sh (.lst (r.tak.map .int)) :: F)
structure Kp (r : Rk) (st : List Int) : Prop where
  ok : r.ok
  nd : st.Nodup
  inn : ∀ k ∈ st, 0 ≤ k ∧ k < r.held.length
  brk : ∀ i, i < r.held.length → r.brk.getD i true = decide ((i : Int) ∈ st)
  txt : ∀ v ∈ r.held, okV v = true
def Rk.bad (r : Rk) (wd : PySem.Str) (k : Int) : Bool := !(decide (0 ≤ k) && decide (k < r.held.length) && !(decide (wd = "free") && decide (r.held[k.toNat]? = some .non)))
def Rk.after (r : Rk) (wd : PySem.Str) (k : Int) : Rk := if wd = "free" then r.free k.toNat else r.brkAt k.toNat (decide (wd = "stick"))
theorem bad_ok1 {r : Rk} {wd : PySem.Str} {k : Int} (h1 : 0 ≤ k) (h2 : k < r.held.length) (h3 : r.held[k.toNat]? ≠ some .non) : r.bad wd k = false := by
  unfold Rk.bad
  rw [decide_eq_true h1, decide_eq_true h2, decide_eq_false h3]
  simp
theorem bad_ok2 {r : Rk} {wd : PySem.Str} {k : Int} (h1 : 0 ≤ k) (h2 : k < r.held.length) (h3 : ¬ wd = "free") : r.bad wd k = false := by
  unfold Rk.bad
  rw [decide_eq_true h1, decide_eq_true h2, decide_eq_false h3]
  simp
theorem bad_1 {r : Rk} {wd : PySem.Str} {k : Int} (h : wd = "free") (c : ¬ (0 ≤ k ∧ k < r.held.length ∧ r.held[k.toNat]? ≠ some .non)) : r.bad wd k = true := by
  unfold Rk.bad
  rw [decide_eq_true h]
  by_cases d1 : 0 ≤ k
  · by_cases d2 : k < r.held.length
    · have d3 : r.held[k.toNat]? = some .non := by
        by_cases d3 : r.held[k.toNat]? = some .non
        · exact d3
        · exact absurd ⟨d1, d2, d3⟩ c
      rw [decide_eq_true d1, decide_eq_true d2, decide_eq_true d3]
      rfl
    · rw [decide_eq_false d2]; simp
  · rw [decide_eq_false d1]; simp
theorem bad_2 {r : Rk} {wd : PySem.Str} {k : Int} (c : ¬ (0 ≤ k ∧ k < r.held.length)) : r.bad wd k = true := by
  unfold Rk.bad
  by_cases d1 : 0 ≤ k
  · have d2 : ¬ k < r.held.length := fun z => c ⟨d1, z⟩
    rw [decide_eq_false d2]; simp
  · rw [decide_eq_false d1]; simp
def badL (b : Bool) : List Bool := if b then [true, true, false] else []
def spRefused (Cs : List Addr) : Sp := fun vs H Q E => ∃ (L : RL) (r : Rk) (wd : PySem.Str) (k : Int) (F : List As), vs = [.ref L.p, .str wd, .int k] ∧ L.good Cs ∧ r.ok ∧ Sep (rkC L r F) H ∧
  ∀ t kl H', Sep (pt t (.tup [.non, .ref kl]) :: pt kl (.lst ((badL (r.bad wd k)).map .bl)) :: rkC L (if r.bad wd k = true then r else r.after wd k) F) H' → Q (.ref t) H'
theorem len_refused {Cs vs H Q E} (h : spRefused Cs vs H Q E) : vs.length = 3 := by obtain ⟨L, r, wd, k, F, rfl, _⟩ := h; rfl
def spShows (Cs : List Addr) : Sp := fun vs H Q E => ∃ (G : GS) (r : Rk) (st : List Int) (F : List As), vs = [.ref G.L.p, .ref G.kt] ∧ G.L.good Cs ∧ Kp r st ∧ Sep (gC G r st F) H ∧ ∀ H', Sep (gC G r st F) H' → Q (.bl true) H'
theorem len_shows {Cs vs H Q E} (h : spShows Cs vs H Q E) : vs.length = 2 := by obtain ⟨L, r, wd, k, rfl, _⟩ := h; rfl
def spDeed (Cs : List Addr) : Sp := fun vs H Q E => ∃ (G : GS) (r : Rk) (st : List Int) (d : Int) (F : List As), vs = [.ref G.L.p, .ref G.kt, .int d] ∧ G.L.good Cs ∧ Kp r st ∧ Sep (gC G r st F) H ∧
  ∀ r' st' H', Kp r' st' → Sep (gC G r' st' F) H' → Q (.bl true) H'
theorem len_deed {Cs vs H Q E} (h : spDeed Cs vs H Q E) : vs.length = 3 := by obtain ⟨L, r, wd, k, _, rfl, _⟩ := h; rfl
section
variable {P : Program} {w : World} {K : PySem.W.Frag} {mg : PySem.Str → Option Value} {base : Heap} {ad : Ad} {Cs : List Addr} {C : Addr} {f : Addr} {fd : FuncData}
set_option maxHeartbeats 4000000
theorem ok_Lrefused (T : Txt K mg ad) (R : RT K Cs) (m_Rack_free : ∀ C ∈ Cs, Met P w K mg base 2 C "free" (spFree Cs ad.NoSwitch C)) (m_Rack_stick : ∀ C ∈ Cs, Met P w K mg base 2 C "stick" (spStick Cs ad.NoSwitch true C))
    (m_Rack_mend : ∀ C ∈ Cs, Met P w K mg base 2 C "mend" (spStick Cs ad.NoSwitch false C)) (F : Fun K "_law_refused" "_law_refused" s_Lrefused f fd) : FnOk P w K mg base (L2.CX P w) 3 f fd ["rack", "word", "k"] (spRefused Cs) := by
  refine F.okX sc_Lrefused (fun vs H Q E h => len_refused h) (fun cdv A outer s H vs Q E hr h => ?_)
  have tk : Takes (cxOf (L2.CX P w) P w K mg base N_Lrefused "_law_refused" (defScope s_Lrefused) f cdv A outer s H E) (fun cls d _ H => E cls d H) := takes_of rfl rfl rfl rfl
  have po_ : PassesOwn (model P w) (cxOf (L2.CX P w) P w K mg base N_Lrefused "_law_refused" (defScope s_Lrefused) f cdv A outer s H E).A (cxOf (L2.CX P w) P w K mg base N_Lrefused "_law_refused" (defScope s_Lrefused) f cdv A outer s H E).env (cxOf (L2.CX P w) P w K mg base N_Lrefused "_law_refused" (defScope s_Lrefused) f cdv A outer s H E).xe := passes_of rfl
  refine ⟨_, (pss_cons (ps_set (i := 3) sc_Lrefused.nd rfl (Or.inl rfl) pe_non)
  (pss_cons (ps_set (i := 4) sc_Lrefused.nd rfl (Or.inl rfl) (pe_lst pa_nil))
  (pss_cons (z_try_as (i := 5) rfl rfl sc_Lrefused.nd rfl rfl ⟨rfl, by decide, .inl T.x_HallError.g⟩ tk (fun Wb pn xe tkb po => (pss_one (ps_if (pt_cmpR (k_eq (K := K) rfl hr.units) (pv 1) pe_str (nomark _)) (pss_one (ps_set (i := 3) sc_Lrefused.nd rfl (Or.inl rfl) (z_meth (pv 0) m_Rack_free tkb hr (by decide) (pa_cons (pv 2) pa_nil)))) (pss_one (ps_if (pt_cmpR (k_eq (K := K) rfl hr.units) (pv 1) pe_str (nomark _)) (pss_one (ps_set (i := 3) sc_Lrefused.nd rfl (Or.inl rfl) (z_meth (pv 0) m_Rack_stick tkb hr (by decide) (pa_cons (pv 2) pa_nil)))) (pss_one (ps_set (i := 3) sc_Lrefused.nd rfl (Or.inl rfl) (z_meth (pv 0) m_Rack_mend tkb hr (by decide) (pa_cons (pv 2) pa_nil))))))))) (fun a oe cls dd pn hz hf => (pss_cons (ps_set (i := 4) sc_Lrefused.nd rfl (Or.inl rfl) (pe_lst (pa_cons (by exact pe_callB (z_isE hz hf) (by rfl) T.b_isinstance (by decide +kernel) (pa_cons (pv 5) (pa_cons (z_cls (by rfl) T.x_NoSwitch.g) pa_nil))) (pa_cons (by exact pe_callB (z_isE hz hf) (by rfl) T.b_isinstance (by decide +kernel) (pa_cons (pv 5) (pa_cons (z_ty (T := "ValueError") (by rfl) T.b_ValueError (by decide +kernel)) pa_nil))) pa_nil))))
  (pss_one (ps_expr (k_bm (K := K) rfl PySem.F.plainAttrs_list PySem.F.slot_list_append PySem.F.type_list_append z_append (pv 4) (pa_cons (by exact pe_callB (z_isET hz hf) (by rfl) T.b_isinstance (by decide +kernel) (pa_cons (pv 5) (pa_cons (pe_tup (pa_cons (z_cls (by rfl) T.x_BadPlan.g) (pa_cons (z_cls (by rfl) T.x_NoFigure.g) (pa_cons (z_cls (by rfl) T.x_NoLine.g) (pa_cons (z_cls (by rfl) T.x_NoRow.g) (pa_cons (z_cls (by rfl) T.x_NoText.g) (pa_cons (z_cls (by rfl) T.x_NotSo.g) pa_nil))))))) pa_nil))) pa_nil)))))))
  (pss_one (ps_ret (pe_tup (pa_cons (pv 3) (pa_cons (pv 4) pa_nil)))))))), ?_⟩
  obtain ⟨L, r, wd, k, F, rfl, g, ok, S, q⟩ := h
  refine s_start (σ := [some (.ref L.p), some (.str wd), some (.int k), none, none, none]) rfl ?_
  wtm_at "st"
  refine s_newL (by wtm_at "sz") S fun kl H S => ?_
  wtm_at "stc"
  -- where the try ends
  with_reducible refine s_cut (fun σ H => ∃ kl v5, σ = [some (.ref L.p), some (.str wd), some (.int k), some .non, some (.ref kl), v5] ∧ Sep (pt kl (.lst ((badL (r.bad wd k)).map .bl)) :: rkC L (if r.bad wd k = true then r else r.after wd k) F) H) ?_ (fun N go => ?_)
  · rintro σ H ⟨kl, v5, rfl, S⟩
    wtm_at "st"
    refine s_newT (by wtm_at "sz") S fun t H S => ?_
    exact q t kl H S
  · have σs : ∀ v5, [some (V.ref L.p), some (.str wd), some (.int k), some .non, some (.ref kl), v5] = [some (V.ref L.p), some (.str wd), some (.int k), some .non, some (.ref kl), v5] := fun _ => rfl
    with_reducible refine s_try (fun cls σ H => cls = .ref ad.NoSwitch ∧ r.bad wd k = true ∧ σ = [some (.ref L.p), some (.str wd), some (.int k), some .non, some (.ref kl), none] ∧ Sep (pt kl (.lst []) :: rkC L r F) H) ?_ (fun W raise => ?_)
    · rintro _ _ H ⟨rfl, hb, rfl, S⟩
      refine s_caught T.e_NoSwitch fun a => ?_
      dsimp only [List.set]
      wtm_at "st"
      refine s_isE T.i_NoSwitch T.k_NoSwitch ?_
      wtm_at "st"
      refine s_isVE T.i_NoSwitch ?_
      wtm_at "st"
      refine s_newL (by wtm_at "sz") S fun kl2 H S => ?_
      wtm_at "st"
      refine s_newT (by wtm_at "sz") S fun tt H S => ?_
      wtm_at "st"
      refine s_isET (l := [ad.BadPlan, ad.NoFigure, ad.NoLine, ad.NoRow, ad.NoText, ad.NotSo]) T.i_NoSwitch S (by wtm_at "pk") (by rfl) T.n_NoSwitch ?_
      wtm_at "st"
      refine s_append S (by wtm_at "cg") (by show 2 < sizeLine; decide) fun H S => ?_
      wtm_at "st"
      refine go _ _ ⟨kl2, none, rfl, ?_⟩
      rw [hb, if_pos rfl]
      show Sep (pt kl2 (.lst ([.bl true, .bl true] ++ [.bl false])) :: rkC L r F) H
      wtm_at "wk"
    · have hbad : ∀ h : Bool, r.bad wd k = h → (badL (r.bad wd k)).map V.bl = (badL h).map V.bl := fun h e => by rw [e]
      wtm_at "st"
      refine s_ifd (fun c1 => ?_) (fun c1 => ?_)
      · wtm_at "st"
        refine s_rm g S (by decide +kernel) (by wtm_at "pk") ?_
        wtm_at "st"
        refine ⟨L, r, k, _, rfl, g, (by wtm_at "wk"), fun h1 h2 h3 H S => ?_, fun c => raise _ _ _ ⟨rfl, ?_, rfl, (by wtm_at "wk")⟩⟩
        · have hb : r.bad wd k = false := bad_ok1 h1 h2 h3
          wtm_at "st"
          refine go _ _ ⟨kl, none, rfl, ?_⟩
          rw [hb, if_neg Bool.false_ne_true]
          unfold Rk.after
          rw [if_pos c1]
          show Sep (pt kl (.lst []) :: _) _
          wtm_at "wk"
        · exact bad_1 c1 c
      · wtm_at "st"
        refine s_ifd (fun c2 => ?_) (fun c2 => ?_)
        · wtm_at "st"
          refine s_rm g S (by decide +kernel) (by wtm_at "pk") ?_
          wtm_at "st"
          refine ⟨L, r, k, _, rfl, g, ok, (by wtm_at "wk"), fun h1 h2 H S => ?_, fun c => raise _ _ _ ⟨rfl, ?_, rfl, (by wtm_at "wk")⟩⟩
          · have hb : r.bad wd k = false := bad_ok2 h1 h2 c1
            wtm_at "st"
            refine go _ _ ⟨kl, none, rfl, ?_⟩
            rw [hb, if_neg Bool.false_ne_true]
            unfold Rk.after
            rw [if_neg c1, decide_eq_true c2]
            show Sep (pt kl (.lst []) :: _) _
            wtm_at "wk"
          · exact bad_2 c
        · wtm_at "st"
          refine s_rm g S (by decide +kernel) (by wtm_at "pk") ?_
          wtm_at "st"
          refine ⟨L, r, k, _, rfl, g, ok, (by wtm_at "wk"), fun h1 h2 H S => ?_, fun c => raise _ _ _ ⟨rfl, ?_, rfl, (by wtm_at "wk")⟩⟩
          · have hb : r.bad wd k = false := bad_ok2 h1 h2 c1
            wtm_at "st"
            refine go _ _ ⟨kl, none, rfl, ?_⟩
            rw [hb, if_neg Bool.false_ne_true]
            unfold Rk.after
            rw [if_neg c1, decide_eq_false c2]
            show Sep (pt kl (.lst []) :: _) _
            wtm_at "wk"
          · exact bad_2 c
end
end L2.Zs

namespace L2.Zs
open PySem PySem.Spec PyProof.Rows
local macro_rules | `(tactic| wtm_at "pk") => `(tactic| (repeat (first | with_reducible exact Pick.here | with_reducible apply Pick.there)))
local macro_rules | `(tactic| wtm_at "cg") => `(tactic| (repeat (first | with_reducible exact Chg.here | with_reducible apply Chg.there)))
local macro_rules | `(tactic| wtm_at "sa") => `(tactic| (repeat (first | with_reducible exact SetAt.here | with_reducible apply SetAt.there)))
local macro_rules | `(tactic| wtm_at "wk1") => `(tactic| (repeat (first | with_reducible exact Wk.refl | (with_reducible apply Wk.pick; focus (wtm_at "pk"; done)) | with_reducible apply Wk.drop)))
local macro_rules | `(tactic| wtm_at "wk") => `(tactic| (refine Wk.sep ?_ (by assumption); wtm_at "wk1"))
local macro_rules | `(tactic| wtm_at "sz") => `(tactic| first | exact Nat.le_of_ble_eq_true rfl | assumption | omega)
local macro_rules | `(tactic| wtm_at "s1") => `(tactic| first
  | refine Stp.go ?_
  | with_reducible refine s_mod (by first | decide | assumption | omega) ?_
  | with_reducible refine s_mulI (by first | exact cmul_l (by decide) | exact cmul_r (by decide) | (exact cmul_l (by omega)) | (exact cmul_r (by omega))) ?_
  | with_reducible refine s_div (cdiv_of (by decide) (by decide)) ?_
  | with_reducible refine s_pow (cpow_of (by decide) (by decide) (by decide)) ?_
  | with_reducible refine s_lenL (by assumption) (by wtm_at "pk") ?_
  | with_reducible refine s_lenQ (by assumption) (by wtm_at "pk") ?_
  | with_reducible refine s_lenT (by assumption) (by wtm_at "pk") ?_
  | with_reducible refine s_tyL (by assumption) (by wtm_at "pk") ?_)
local macro_rules | `(tactic| wtm_at "st") => `(tactic| (repeat (first | wtm_at "s1" | with_reducible refine s_seq ?_)))
local macro_rules | `(tactic| wtm_at "stc") => `(tactic| (repeat wtm_at "s1"))

section
variable {P : Program} {w : World} {K : PySem.W.Frag} {mg : PySem.Str → Option Value} {base : Heap} {ad : Ad} {Cs : List Addr} {C : Addr} {f : Addr} {fd : FuncData}
set_option maxHeartbeats 1000000
theorem Kp.said_ok {r : Rk} {st : List Int} (kp : Kp r st) {i : Nat} (h : i < r.held.length) : okV (r.said i) = true := by
  unfold Rk.said
  have e : r.held.getD i .non = r.held[i] := by rw [List.getD_eq_getElem?_getD, List.getElem?_eq_getElem h]; rfl
  have := kp.txt _ (List.getElem_mem h)
  rw [e]
  revert this
  generalize r.held[i] = v
  intro hv
  cases v <;> first | exact hv | skip
  show okV (if r.brk.getD i false = true then V.str "stuck" else V.str "free") = true
  cases r.brk.getD i false <;> decide +kernel
theorem Kp.paper_ok {r : Rk} {st : List Int} (kp : Kp r st) : ∀ v ∈ r.paper, okV v = true := fun v hv => by
  obtain ⟨i, hi, rfl⟩ := List.mem_map.mp hv
  exact kp.said_ok (List.mem_range.mp hi)
theorem Kp.brk' {r : Rk} {st : List Int} (kp : Kp r st) {i : Nat} (h : i < r.held.length) : r.brk.getD i false = decide ((i : Int) ∈ st) := by
  rw [← kp.brk i h]
  have hb : i < r.brk.length := by rw [kp.ok.b]; exact h
  rw [List.getD_eq_getElem?_getD, List.getD_eq_getElem?_getD, List.getElem?_eq_getElem hb]
  rfl
theorem ok_Lshows (T : Txt K mg ad) (R : RT K Cs) (m_Rack_shares : ∀ C ∈ Cs, Met P w K mg base 1 C "shares" (spShares Cs C)) (m_Group_paper : ∀ C ∈ Cs, Met P w K mg base 1 C "paper" (spPaper Cs C)) (F : Fun K "_law_shows" "_law_shows" s_Lshows f fd) : FnOk P w K mg base (L2.CX P w) 2 f fd ["group", "kept"] (spShows Cs) := by
  refine F.okX sc_Lshows (fun vs H Q E h => len_shows h) (fun cdv A outer s H vs Q E hr h => ?_)
  have tk : Takes (cxOf (L2.CX P w) P w K mg base N_Lshows "_law_shows" (defScope s_Lshows) f cdv A outer s H E) (fun cls d _ H => E cls d H) := takes_of rfl rfl rfl rfl
  have po_ : PassesOwn (model P w) (cxOf (L2.CX P w) P w K mg base N_Lshows "_law_shows" (defScope s_Lshows) f cdv A outer s H E).A (cxOf (L2.CX P w) P w K mg base N_Lshows "_law_shows" (defScope s_Lshows) f cdv A outer s H E).env (cxOf (L2.CX P w) P w K mg base N_Lshows "_law_shows" (defScope s_Lshows) f cdv A outer s H E).xe := passes_of rfl
  refine ⟨_, (pss_cons (ps_asg (pv 1) (k_gtup (K := K) rfl rfl (pgs_cons (pg_name (i := 2) sc_Lshows.nd rfl (Or.inl rfl)) (pgs_cons (pg_name (i := 3) sc_Lshows.nd rfl (Or.inl rfl)) (pgs_cons (pg_name (i := 4) sc_Lshows.nd rfl (Or.inl rfl)) pgs_nil)))))
  (pss_cons (ps_set (i := 5) sc_Lshows.nd rfl (Or.inl rfl) (pe_lst pa_nil))
  (pss_cons (ps_for (po_) rfl (pi_range1 (by rfl) T.b_range (pa_cons (pe_callB (k_len (K := K) rfl) (by rfl) T.b_len (by decide +kernel) (pa_cons (pv 2) pa_nil)) pa_nil)) (pg_name (i := 6) sc_Lshows.nd rfl (Or.inl rfl)) (pss_one (ps_expr (k_bm (K := K) rfl PySem.F.plainAttrs_list PySem.F.slot_list_append PySem.F.type_list_append z_append (pv 5) (pa_cons (pe_ifExp (pt_cmpR zo_isN (pe_ix (k_ix (K := K) rfl) (pv 2) (pv 6) (fun _ _ => rfl)) pe_non (nomark _)) (pe_ix (k_ix (K := K) rfl) (pe_lst (pa_cons pe_str (pa_cons pe_str pa_nil))) (pe_callTy z_int1 (by rfl) T.b_int (by decide +kernel) (pa_cons (pe_cmpR (k_inQ (K := K) rfl) (pv 6) (pv 3) (by with_unfolding_all rfl)) pa_nil)) (fun _ _ => rfl)) (pe_ix (k_ix (K := K) rfl) (pv 2) (pv 6) (fun _ _ => rfl))) pa_nil)))))
  (pss_cons (ps_set (i := 7) sc_Lshows.nd rfl (Or.inl rfl) (z_meth0 (pv 0) m_Rack_shares tk hr (by decide)))
  (pss_cons (ps_if ((pw_or (pt_not (pt_val (pe_callB (k_isi (K := K) rfl) (by rfl) T.b_isinstance (by decide +kernel) (pa_cons (z_meth0 (pv 0) m_Group_paper tk hr (by decide)) (pa_cons (z_ty (T := "tuple") (by rfl) T.b_tuple (by decide +kernel)) pa_nil))))) (pw_or1 (pt_cmpR (k_ne (K := K) rfl hr.units) (z_meth0 (pv 0) m_Group_paper tk hr (by decide)) (k_tupleOf (K := K) rfl (by rfl) T.b_tuple (pv 5)) (nomark _))))).pt (pss_one (ps_ret pe_bl)) pss_nil)
  (pss_cons (ps_if ((pw_or (pt_not (pt_val (pe_callB (k_isi (K := K) rfl) (by rfl) T.b_isinstance (by decide +kernel) (pa_cons (pv 7) (pa_cons (z_ty (T := "list") (by rfl) T.b_list (by decide +kernel)) pa_nil))))) (pw_or1 (pt_cmpR (k_ne (K := K) rfl hr.units) (pv 7) (pv 4) (nomark _))))).pt (pss_one (ps_ret pe_bl)) pss_nil)
  (pss_cons (ps_expr (k_bm (K := K) rfl PySem.F.plainAttrs_list PySem.F.slot_list_append PySem.F.type_list_append z_append (pv 7) (pa_cons pe_int pa_nil)))
  (pss_one (ps_ret pe_bl))))))))), ?_⟩
  obtain ⟨G, r, st, F, rfl, g, kp, S, q⟩ := h
  refine s_start (σ := [some (.ref G.L.p), some (.ref G.kt), none, none, none, none, none, none]) rfl ?_
  wtm_at "st"
  refine s_gtup S (by wtm_at "pk") rfl ?_
  wtm_at "st"
  refine s_newL (by wtm_at "sz") S fun du H S => ?_
  wtm_at "st"
  have hn := kp.ok.n
  refine s_rng1 (by omega) (by omega) (lp_range (fun i σ H' => ∃ v2, σ = [some (.ref G.L.p), some (.ref G.kt), some (.ref G.h), some (.ref G.s), some (.ref G.sh), some (.ref du), v2, none] ∧ Sep (pt du (.lst ((List.range i).map r.said)) :: gC G r st F) H') ⟨none, rfl, S⟩ ?_ ?_)
  · rintro i σ H hi ⟨v2, rfl, S⟩
    have hi' : i < r.held.length := by omega
    have hz : ((List.range i).map r.said).length < sizeLine := by simp; exact Nat.lt_of_lt_of_le (show i < 60 by omega) (by decide)
    have fin : ∀ x, r.said i = x → (List.range i).map r.said ++ [x] = (List.range (i + 1)).map r.said := fun x hx => by rw [List.range_succ, List.map_append, ← hx]; rfl
    wtm_at "st"
    obtain ⟨v, e, hm, hv⟩ := atI_lt (xs := r.held) (i := i) (by omega) (by omega)
    have hv' : r.held.getD i .non = v := by rw [List.getD_eq_getElem?_getD, show r.held[i]? = some v from hv]; rfl
    refine s_ixL S (by wtm_at "pk") e ?_
    wtm_at "st"
    refine s_ifd (fun c1 => ?_) (fun c1 => ?_)
    · subst c1
      wtm_at "st"
      refine s_newL (by wtm_at "sz") S fun w1 H S => ?_
      wtm_at "st"
      refine s_inL S (by wtm_at "pk") rfl (flatI st) ?_
      rw [inV_int]
      wtm_at "st"
      have es : r.said i = if decide ((i : Int) ∈ st) = true then .str "stuck" else .str "free" := by
        unfold Rk.said; rw [hv', kp.brk' hi']
      refine s_ixL (v := r.said i) S (by wtm_at "pk") ?_ ?_
      · rw [es]
        cases decide ((i : Int) ∈ st) <;> rfl
      wtm_at "st"
      refine s_append S (by wtm_at "cg") hz fun H S => ?_
      wtm_at "st"
      refine ⟨_, rfl, ?_⟩
      rw [fin _ rfl] at S
      wtm_at "wk"
    · wtm_at "st"
      refine s_ixL S (by wtm_at "pk") e ?_
      wtm_at "st"
      refine s_append S (by wtm_at "cg") hz fun H S => ?_
      wtm_at "st"
      refine ⟨_, rfl, ?_⟩
      rw [fin v (by unfold Rk.said; rw [hv']; cases v <;> first | rfl | exact absurd rfl c1)] at S
      exact S
  · rintro σ H ⟨v2, rfl, S⟩
    rw [Int.toNat_natCast] at S
    have S : Sep (pt du (.lst r.paper) :: gC G r st F) H := S
    wtm_at "st"
    refine s_rm g S (by decide +kernel) (by wtm_at "pk") ?_
    wtm_at "st"
    refine ⟨G.L, r, _, rfl, g, (by wtm_at "wk"), fun to H S => ?_⟩
    wtm_at "st"
    refine s_rm g S (by decide +kernel) (by wtm_at "pk") ?_
    wtm_at "st"
    refine ⟨G.L, r, _, rfl, g, kp.ok, (by wtm_at "wk"), fun p1 H S => ?_⟩
    wtm_at "st"
    refine s_isT S (by wtm_at "pk") ?_
    wtm_at "st"
    refine s_rm g S (by decide +kernel) (by wtm_at "pk") ?_
    wtm_at "st"
    refine ⟨G.L, r, _, rfl, g, kp.ok, (by wtm_at "wk"), fun p2 H S => ?_⟩
    wtm_at "st"
    refine s_tupL S (by wtm_at "pk") fun p3 H S => ?_
    refine s_neTT S (by wtm_at "pk") (by wtm_at "pk") kp.paper_ok ?_
    wtm_at "st"
    refine s_isL S (by wtm_at "pk") ?_
    wtm_at "st"
    refine s_neLL S (by wtm_at "pk") (by wtm_at "pk") (okI _) ?_
    wtm_at "st"
    refine s_append S (by wtm_at "cg") (by rw [List.length_map, kp.ok.t]; exact Nat.lt_of_le_of_lt hn (by decide)) fun H S => ?_
    wtm_at "st"
    refine q _ ?_
    wtm_at "wk"
def Rk.idle (r : Rk) (i : Nat) : List V := ((List.range i).filter r.rdy).map fun k => .int (k : Nat)
theorem Rk.idle_ok (r : Rk) {n : Nat} : ∀ v ∈ r.idle n, okV v = true := fun v hv => by
  obtain ⟨i, _, rfl⟩ := List.mem_map.mp hv
  rfl
theorem Rk.idle_no (r : Rk) (h : r.first = none) : r.idle r.held.length = [] := by
  unfold Rk.idle
  rw [List.map_eq_nil_iff, List.filter_eq_nil_iff]
  exact List.find?_eq_none.mp h
theorem Rk.idle_some (r : Rk) {k : Nat} (h : r.first = some k) : ∃ l, r.idle r.held.length = .int k :: l := by
  unfold Rk.idle
  have e : ((List.range r.held.length).filter r.rdy).head? = some k := by rw [List.head?_filter]; exact h
  cases q : (List.range r.held.length).filter r.rdy with
  | nil => rw [q] at e; cases e
  | cons a t =>
    rw [q] at e
    cases e
    exact ⟨_, rfl⟩
theorem Kp.give {r : Rk} {st : List Int} (kp : Kp r st) (k : Nat) {v : V} (hv : okV v = true) : Kp (r.give k v) st := by
  refine ⟨kp.ok.give k v, kp.nd, fun x hx => ?_, fun i hi => ?_, fun x hx => ?_⟩
  · have := kp.inn x hx
    simpa [Rk.give] using this
  · have hi : i < r.held.length := by simpa [Rk.give] using hi
    exact kp.brk i hi
  · have hx : x ∈ r.held.set k v := hx
    rcases List.mem_or_eq_of_mem_set hx with h | h
    · exact kp.txt x h
    · rw [h]; exact hv
theorem Kp.free {r : Rk} {st : List Int} (kp : Kp r st) (k : Nat) : Kp (r.free k) st := by
  refine ⟨kp.ok.free k, kp.nd, fun x hx => ?_, fun i hi => ?_, fun x hx => ?_⟩
  · have := kp.inn x hx
    simpa [Rk.free] using this
  · have hi : i < r.held.length := by simpa [Rk.free] using hi
    exact kp.brk i hi
  · have hx : x ∈ r.held.set k .non := hx
    rcases List.mem_or_eq_of_mem_set hx with h | h
    · exact kp.txt x h
    · rw [h]; rfl
theorem brk_set {bs : List Bool} {k i : Nat} {b : Bool} (hk : k < bs.length) : (bs.set k b).getD i true = if i = k then b else bs.getD i true := by
  rw [List.getD_eq_getElem?_getD, List.getD_eq_getElem?_getD, List.getElem?_set]
  by_cases e : k = i
  · subst e; simp [hk]
  · have e' : ¬ i = k := fun z => e z.symm
    simp [e, e']
theorem Kp.len_lt {r : Rk} {st : List Int} (kp : Kp r st) : st.length < sizeLine := by
  have h : ∀ n : Nat, ∀ st : List Int, st.Nodup → (∀ k ∈ st, 0 ≤ k ∧ k < (n : Int)) → st.length ≤ n := by
    intro n
    induction n with
    | zero =>
      intro st _ h
      cases st with
      | nil => simp
      | cons a t => have := h a List.mem_cons_self; omega
    | succ n ih =>
      intro st nd h
      have h2 := ih (st.erase (n : Int)) (nd.erase _) fun k hk => by
        have := h k (List.mem_of_mem_erase hk)
        have ne : k ≠ (n : Int) := fun z => by rw [z] at hk; exact absurd hk nd.not_mem_erase
        omega
      have := List.length_erase (a := (n : Int)) (l := st)
      split at this <;> omega
  exact Nat.lt_of_le_of_lt (Nat.le_trans (h _ st kp.nd kp.inn) kp.ok.n) (by decide)
theorem bad_no {r : Rk} {wd : PySem.Str} {k : Int} (h : r.bad wd k = false) : 0 ≤ k ∧ k < r.held.length ∧ ¬ (wd = "free" ∧ r.held[k.toNat]? = some .non) := by
  unfold Rk.bad at h
  simp only [Bool.not_eq_false', Bool.and_eq_true, decide_eq_true_eq, Bool.not_eq_true', Bool.and_eq_false_iff, decide_eq_false_iff_not] at h
  refine ⟨h.1.1, h.1.2, fun z => ?_⟩
  rcases h.2 with y | y
  · exact y z.1
  · exact y z.2
theorem Kp.at {r : Rk} {st st' : List Int} (kp : Kp r st) {k : Int} {b : Bool} (k1 : 0 ≤ k) (k2 : k < r.held.length) (nd : st'.Nodup) (hi : ∀ x ∈ st', x = k ∨ x ∈ st) (hb : decide (k ∈ st') = b) (ho : ∀ x, x ≠ k → (x ∈ st' ↔ x ∈ st)) : Kp (r.brkAt k.toNat b) st' := by
  refine ⟨kp.ok.brkAt _ _, nd, fun x hx => ?_, fun i hi => ?_, kp.txt⟩
  · rcases hi x hx with rfl | h
    · exact ⟨k1, k2⟩
    · exact kp.inn x h
  · have hi : i < r.held.length := hi
    have hkl : k.toNat < r.brk.length := by rw [kp.ok.b]; omega
    show (r.brk.set k.toNat b).getD i true = decide ((i : Int) ∈ st')
    rw [brk_set hkl]
    by_cases e : i = k.toNat
    · rw [if_pos e, show (i : Int) = k by omega, hb]
    · rw [if_neg e, kp.brk i hi]
      exact decide_eq_decide.mpr (ho _ (by omega)).symm
theorem Kp.stickN {r : Rk} {st : List Int} (kp : Kp r st) {k : Int} (k1 : 0 ≤ k) (k2 : k < r.held.length) (c : ¬ k ∈ st) : Kp (r.brkAt k.toNat true) (st ++ [k]) :=
  kp.at k1 k2 (by rw [List.nodup_append]; exact ⟨kp.nd, by simp, fun a ha b hb => by rw [List.mem_singleton.mp hb]; exact fun z => c (z ▸ ha)⟩) (fun x hx => by
    rcases List.mem_append.mp hx with h | h
    · exact .inr h
    · exact .inl (List.mem_singleton.mp h)) (by simp) (fun x hx => by simp [hx])
theorem Kp.stickO {r : Rk} {st : List Int} (kp : Kp r st) {k : Int} (k1 : 0 ≤ k) (k2 : k < r.held.length) (c : k ∈ st) : Kp (r.brkAt k.toNat true) st :=
  kp.at k1 k2 kp.nd (fun x hx => .inr hx) (by simp [c]) (fun x hx => Iff.rfl)
theorem Kp.mendO {r : Rk} {st : List Int} (kp : Kp r st) {k : Int} (k1 : 0 ≤ k) (k2 : k < r.held.length) (c : k ∈ st) : Kp (r.brkAt k.toNat false) (st.erase k) :=
  kp.at k1 k2 (kp.nd.erase _) (fun x hx => .inr (List.mem_of_mem_erase hx)) (decide_eq_false kp.nd.not_mem_erase) (fun x hx => List.mem_erase_of_ne hx)
theorem Kp.mendN {r : Rk} {st : List Int} (kp : Kp r st) {k : Int} (k1 : 0 ≤ k) (k2 : k < r.held.length) (c : ¬ k ∈ st) : Kp (r.brkAt k.toNat false) st :=
  kp.at k1 k2 kp.nd (fun x hx => .inr hx) (by simp [c]) (fun x hx => Iff.rfl)
theorem ok_Ldeed (T : Txt K mg ad) (R : RT K Cs) (c_Lnumber : Cal P w K mg base 1 "_law_number" spNumber) (c_Lwhole : Cal P w K mg base 1 "_law_whole" spWhole) (c_Lrefused : Cal P w K mg base 3 "_law_refused" (spRefused Cs)) (m_Group_take : ∀ C ∈ Cs, Met P w K mg base 2 C "take" (spTake Cs C)) (F : Fun K "_law_deed" "_law_deed" s_Ldeed f fd) : FnOk P w K mg base (L2.CX P w) 4 f fd ["group", "kept", "draw"] (spDeed Cs) := by
  refine F.okX sc_Ldeed (fun vs H Q E h => len_deed h) (fun cdv A outer s H vs Q E hr h => ?_)
  have tk : Takes (cxOf (L2.CX P w) P w K mg base N_Ldeed "_law_deed" (defScope s_Ldeed) f cdv A outer s H E) (fun cls d _ H => E cls d H) := takes_of rfl rfl rfl rfl
  have po_ : PassesOwn (model P w) (cxOf (L2.CX P w) P w K mg base N_Ldeed "_law_deed" (defScope s_Ldeed) f cdv A outer s H E).A (cxOf (L2.CX P w) P w K mg base N_Ldeed "_law_deed" (defScope s_Ldeed) f cdv A outer s H E).env (cxOf (L2.CX P w) P w K mg base N_Ldeed "_law_deed" (defScope s_Ldeed) f cdv A outer s H E).xe := passes_of rfl
  refine ⟨_, (pss_cons (ps_asg (pv 1) (k_gtup (K := K) rfl rfl (pgs_cons (pg_name (i := 3) sc_Ldeed.nd rfl (Or.inr rfl)) (pgs_cons (pg_name (i := 4) sc_Ldeed.nd rfl (Or.inr rfl)) (pgs_cons (pg_name (i := 5) sc_Ldeed.nd rfl (Or.inl rfl)) pgs_nil)))))
  (pss_cons (ps_set (i := 6) sc_Ldeed.nd rfl (Or.inl rfl) (pe_callB (k_len (K := K) rfl) (by rfl) T.b_len (by decide +kernel) (pa_cons (pv 3) pa_nil)))
  (pss_cons (ps_set (i := 7) sc_Ldeed.nd rfl (Or.inl rfl) (pe_op zo_mod (pv 2) pe_int))
  (pss_cons (ps_if (pt_cmpR zo_lt (pv 7) pe_int (nomark _)) (pss_cons (ps_set (i := 8) sc_Ldeed.nd rfl (Or.inl rfl) (pe_ix (k_ix (K := K) rfl) (pe_lst (pa_cons (z_call c_Lnumber tk hr (by decide) (by rfl) (pa_cons (pe_op zo_div (pv 2) pe_int) (pa_cons pe_int pa_nil))) (pa_cons pe_str (pa_cons pe_str (pa_cons pe_str (pa_cons (z_call c_Lnumber tk hr (by decide) (by rfl) (pa_cons (pe_op zo_div (pv 2) pe_int) (pa_cons pe_int pa_nil))) (pa_cons pe_str pa_nil))))))) (pe_op zo_mod (pe_op zo_div (pv 2) pe_int) pe_int) (fun _ _ => rfl)))
  (pss_cons (ps_setLc (i := 10) (own := [("k", 9)]) (g := gName 9)  rfl sc_Ldeed.nd rfl rfl (sw_true rfl rfl rfl (by decide +kernel)) (pi_range1 (by rfl) T.b_range (pa_cons (pv 6) pa_nil)) (blkOk_by (N := N_Ldeed) (sc := defScope s_Ldeed) (by decide +kernel)) (fun _ _ _ _ _ => (pg_name (i := 9) sc_Ldeed.nd rfl (Or.inl rfl))) (fun _ _ _ _ _ => (pts_one ((pw_and (pt_cmpR zo_isN (pe_ix (k_ix (K := K) rfl) (pv 3) (pv 9) (fun _ _ => rfl)) pe_non (nomark _)) (pw_and1 (pt_cmpR (k_notInQ (K := K) rfl) (pv 9) (pv 4) (by with_unfolding_all rfl))))).pt)) (fun _ _ _ _ _ => (pv 9)))
  (pss_cons (ps_set (i := 11) sc_Ldeed.nd rfl (Or.inl rfl) (z_meth (pv 0) m_Group_take tk hr (by decide) (pa_cons (pv 8) pa_nil)))
  (pss_cons (ps_if (pt_cmpR (k_eq (K := K) rfl hr.units) (pv 10) (pe_lst pa_nil) (nomark _)) (pss_one (ps_ret (pe_cmpR zo_isN (pv 11) pe_non (nomark _)))) pss_nil)
  (pss_cons (ps_asg (pv 8) (pg_sub (pv 3) (pe_ix (k_ix (K := K) rfl) (pv 10) pe_int (fun _ _ => rfl)) set_list))
  (pss_cons (ps_augS (pv 5) (pe_ix (k_ix (K := K) rfl) (pv 10) pe_int (fun _ _ => rfl)) (k_get (K := K) rfl) pe_int ip_add set_list)
  (pss_one (ps_ret (pe_and (z_call c_Lwhole tk hr (by decide) (by rfl) (pa_cons (pv 11) pa_nil)) (pe_one (pe_cmpR (k_eq (K := K) rfl hr.units) (pv 11) (pe_ix (k_ix (K := K) rfl) (pv 10) pe_int (fun _ _ => rfl)) (nomark _)))))))))))) pss_nil)
  (pss_cons (ps_set (i := 12) sc_Ldeed.nd rfl (Or.inl rfl) (pe_ix (k_ix (K := K) rfl) (pe_lst (pa_cons pe_str (pa_cons pe_str (pa_cons pe_str (pa_cons pe_str pa_nil))))) (pe_op zo_mod (pe_op zo_div (pv 2) pe_int) pe_int) (fun _ _ => rfl)))
  (pss_cons (ps_set (i := 13) sc_Ldeed.nd rfl (Or.inl rfl) (pe_op zo_mod (pe_op zo_div (pv 2) pe_int) (pe_callB (z_max2 rfl) (by rfl) T.b_max (by decide +kernel) (pa_cons pe_int (pa_cons (pv 6) pa_nil)))))
  (pss_cons (ps_set (i := 9) sc_Ldeed.nd rfl (Or.inl rfl) (pe_ix (k_ix (K := K) rfl) (pe_lst (pa_cons (pv 13) (pa_cons (pv 13) (pa_cons (pv 13) (pa_cons (pv 13) (pa_cons (pe_un un_neg pe_int) (pa_cons (pv 6) (pa_cons (pe_op zo_pow pe_int pe_int) (pa_cons (pe_op zo_sub pe_int (pe_op zo_pow pe_int pe_int)) pa_nil))))))))) (pe_op zo_mod (pe_op zo_div (pv 2) pe_int) pe_int) (fun _ _ => rfl)))
  (pss_cons (ps_set (i := 14) sc_Ldeed.nd rfl (Or.inl rfl) (pe_or (pe_cmpR zo_lt (pv 9) pe_int (nomark _)) (pe_or (pe_cmpR zo_ge (pv 9) (pv 6) (nomark _)) (pe_one (pe_and (pe_cmpR (k_eq (K := K) rfl hr.units) (pv 12) pe_str (nomark _)) (pe_one (pe_cmpR zo_isN (pe_ix (k_ix (K := K) rfl) (pv 3) (pv 9) (fun _ _ => rfl)) pe_non (nomark _))))))))
  (pss_cons (ps_if (pt_cmpR (k_ne (K := K) rfl hr.units) (z_call c_Lrefused tk hr (by decide) (by rfl) (pa_cons (pv 0) (pa_cons (pv 12) (pa_cons (pv 9) pa_nil)))) (pe_tup (pa_cons pe_non (pa_cons (pe_ix (k_ix (K := K) rfl) (pe_lst (pa_cons (pe_lst pa_nil) (pa_cons (pe_lst (pa_cons pe_bl (pa_cons pe_bl (pa_cons pe_bl pa_nil)))) pa_nil))) (pe_callTy z_int1 (by rfl) T.b_int (by decide +kernel) (pa_cons (pv 14) pa_nil)) (fun _ _ => rfl)) pa_nil))) (nomark _)) (pss_one (ps_ret pe_bl)) pss_nil)
  (pss_cons (ps_if ((pw_and (pt_not (pt_val (pv 14))) (pw_and1 (pt_cmpR (k_eq (K := K) rfl hr.units) (pv 12) pe_str (nomark _))))).pt (pss_one (ps_asg pe_non (pg_sub (pv 3) (pv 9) set_list))) (pss_one (ps_if ((pw_and (pt_not (pt_val (pv 14))) (pw_and (pt_cmpR (k_eq (K := K) rfl hr.units) (pv 12) pe_str (nomark _)) (pw_and1 (pt_cmpR (k_notInQ (K := K) rfl) (pv 9) (pv 4) (by with_unfolding_all rfl)))))).pt (pss_one (ps_expr (k_bm (K := K) rfl PySem.F.plainAttrs_list PySem.F.slot_list_append PySem.F.type_list_append z_append (pv 4) (pa_cons (pv 9) pa_nil)))) (pss_one (ps_if ((pw_and (pt_not (pt_val (pv 14))) (pw_and (pt_cmpR (k_eq (K := K) rfl hr.units) (pv 12) pe_str (nomark _)) (pw_and1 (pt_cmpR (k_inQ (K := K) rfl) (pv 9) (pv 4) (by with_unfolding_all rfl)))))).pt (pss_one (ps_expr (k_bm (K := K) rfl PySem.F.plainAttrs_list PySem.F.slot_list_remove PySem.F.type_list_remove z_remove (pv 4) (pa_cons (pv 9) pa_nil)))) pss_nil)))))
  (pss_one (ps_ret pe_bl)))))))))))), ?_⟩
  obtain ⟨G, r, st, d, F, rfl, g, kp, S, q⟩ := h
  refine s_start (σ := [some (.ref G.L.p), some (.ref G.kt), some (.int d), none, none, none, none, none, none, none, none, none, none, none, none]) rfl ?_
  wtm_at "st"
  refine s_gtup S (by wtm_at "pk") rfl ?_
  wtm_at "st"
  refine s_ifd (fun c1 => ?_) (fun c1 => ?_)
  · wtm_at "st"
    refine ⟨_, _, rfl, by decide, by decide, fun z1 h1 => ?_⟩
    wtm_at "st"
    refine ⟨_, _, rfl, by decide, by decide, fun z2 h2 => ?_⟩
    wtm_at "st"
    refine s_newL (by wtm_at "sz") S fun ws H S => ?_
    wtm_at "st"
    obtain ⟨who, e, hm, _⟩ := atI_lt (xs := [V.str z1, .str "", .str "free", .str "stuck", .str z2, .str "line"]) (i := d / 8 % 6) (Int.emod_nonneg _ (by decide)) (Int.emod_lt_of_pos _ (by decide))
    refine s_ixL S (by wtm_at "pk") e ?_
    have hw : okV who = true := by
      simp only [List.mem_cons, List.not_mem_nil, or_false] at hm
      rcases hm with rfl | rfl | rfl | rfl | rfl | rfl
      · exact figs_ok h1
      · decide +kernel
      · decide +kernel
      · decide +kernel
      · exact figs_ok h2
      · decide +kernel
    wtm_at "st"
    have hn := kp.ok.n
    refine ⟨_, rfl, by omega, by omega, ?_⟩
    refine s_lcR S (fun D i H' => Sep (pt D (.lst (r.idle i)) :: gC G r st F) H') (fun D H' S => by show Sep (pt D (.lst []) :: gC G r st F) H'; wtm_at "wk") ?_ ?_
    · intro D i H hi S
      have hi' : i < r.held.length := by omega
      dsimp only [List.map, wipe, List.set]
      wtm_at "st"
      refine ⟨rfl, ?_⟩
      rw [Int.zero_add]
      obtain ⟨v, e, hm, hv⟩ := atI_lt (xs := r.held) (i := i) (by omega) (by omega)
      have hb := kp.brk i hi'
      have er : r.rdy i = (decide (v = .non) && !decide ((i : Int) ∈ st)) := by
        unfold Rk.rdy
        rw [hb, show r.held[i]? = some v from hv]
        simp
      have y1 : r.rdy i = true → r.idle i ++ [.int (i : Nat)] = r.idle (i + 1) := fun z => by
        unfold Rk.idle
        rw [List.range_succ, List.filter_append, List.filter_cons_of_pos (by exact z), List.map_append]
        rfl
      have y2 : r.rdy i = false → r.idle i = r.idle (i + 1) := fun z => by
        unfold Rk.idle
        rw [List.range_succ, List.filter_append, List.filter_cons_of_neg (by rw [z]; decide)]
        simp
      have yl : (r.idle i).length < sizeLine := by
        unfold Rk.idle
        rw [List.length_map]
        exact Nat.lt_of_le_of_lt (Nat.le_trans (List.length_filter_le _ _) (by rw [List.length_range]; omega)) (show 60 < sizeLine by decide)
      wtm_at "st"
      refine s_ixL S (by wtm_at "pk") e ?_
      wtm_at "st"
      refine s_ifd (fun c2 => ?_) (fun c2 => ?_)
      · wtm_at "st"
        refine s_notInL S (by wtm_at "pk") rfl (flatI st) ?_
        rw [inV_int]
        wtm_at "st"
        refine s_ifn (fun c3 => ?_) (fun c3 => ?_)
        · wtm_at "st"
          refine s_lcput S (by wtm_at "cg") yl fun H S => ?_
          rw [y1 (by rw [er, decide_eq_true c2, decide_eq_false c3]; rfl)] at S
          exact S
        · wtm_at "st"
          rw [← y2 (by rw [er, decide_eq_true c3]; simp)]
          exact S
      · wtm_at "st"
        rw [← y2 (by rw [er, decide_eq_false c2]; rfl)]
        exact S
    · intro D H S
      rw [Int.toNat_natCast] at S
      wtm_at "st"
      refine s_rm g S (by decide +kernel) (by wtm_at "pk") ?_
      wtm_at "st"
      refine ⟨G.L, r, who, _, rfl, g, kp.ok, (by wtm_at "wk"), fun hf H S => ?_, fun k0 hf hk H S => ?_⟩
      · wtm_at "st"
        refine s_newL (by wtm_at "sz") S fun nl H S => ?_
        wtm_at "st"
        refine s_eqNil S (by wtm_at "pk") (by wtm_at "pk") r.idle_ok ?_
        rw [decide_eq_true (r.idle_no hf)]
        wtm_at "st"
        exact q r st _ kp (by wtm_at "wk")
      · obtain ⟨l, hl⟩ := r.idle_some hf
        wtm_at "st"
        refine s_newL (by wtm_at "sz") S fun nl H S => ?_
        wtm_at "st"
        refine s_eqNil S (by wtm_at "pk") (by wtm_at "pk") r.idle_ok ?_
        rw [hl] at S ⊢
        rw [decide_eq_false (fun z => nomatch z)]
        wtm_at "st"
        refine s_ixL S (by wtm_at "pk") (atI_of (v := V.int k0) (by decide) rfl) ?_
        wtm_at "st"
        refine s_stL S (n := k0) (by wtm_at "cg") (ixN_of (by omega) (by omega)) fun H S => ?_
        wtm_at "st"
        refine s_ixL S (by wtm_at "pk") (atI_of (v := V.int k0) (by decide) rfl) ?_
        wtm_at "st"
        have ht : (k0 : Int) < (r.tak.map V.int).length := by rw [List.length_map, kp.ok.t]; omega
        obtain ⟨z, hz, e2, e3⟩ := atI_int (ns := r.tak) (i := k0) (by omega) (by simpa using ht)
        refine s_ixG S (by wtm_at "pk") e2 ?_
        wtm_at "st"
        refine s_stL S (n := k0) (by wtm_at "cg") (ixN_of (by omega) ht) fun H S => ?_
        wtm_at "st"
        refine .inl ⟨_, rfl, ?_⟩
        wtm_at "st"
        refine s_ixL S (by wtm_at "pk") (atI_of (v := V.int k0) (by decide) rfl) ?_
        wtm_at "st"
        rw [decide_eq_true rfl]
        refine q (r.give k0 who) st _ (kp.give k0 hw) ?_
        have e4 : (r.tak.map V.int).set k0 (.int (z + 1)) = (r.give k0 who).tak.map V.int := by
          unfold Rk.give
          rw [List.map_set, List.getD_eq_getElem?_getD, show r.tak[k0]? = some z from e3]
          rfl
        rw [e4] at S
        show Sep (rkC G.L (r.give k0 who) (pt G.kt (.tup [.ref G.h, .ref G.s, .ref G.sh]) :: pt G.h (.lst (r.held.set k0 who)) :: pt G.s (.lst (st.map .int)) :: pt G.sh (.lst ((r.give k0 who).tak.map .int)) :: F)) _
        wtm_at "wk"
  · wtm_at "st"
    refine s_newL (by wtm_at "sz") S fun ws H S => ?_
    wtm_at "st"
    obtain ⟨wdv, e, hm, _⟩ := atI_lt (xs := [V.str "free", .str "stick", .str "mend", .str "free"]) (i := d / 8 % 4) (Int.emod_nonneg _ (by decide)) (Int.emod_lt_of_pos _ (by decide))
    refine s_ixL S (by wtm_at "pk") e ?_
    have hwd : ∃ wd : PySem.Str, wdv = .str wd ∧ (wd = "free" ∨ wd = "stick" ∨ wd = "mend") := by
      simp only [List.mem_cons, List.not_mem_nil, or_false] at hm
      rcases hm with rfl | rfl | rfl | rfl
      · exact ⟨_, rfl, .inl rfl⟩
      · exact ⟨_, rfl, .inr (.inl rfl)⟩
      · exact ⟨_, rfl, .inr (.inr rfl)⟩
      · exact ⟨_, rfl, .inl rfl⟩
    obtain ⟨wd, rfl, hwd⟩ := hwd
    wtm_at "st"
    generalize (d / 32 % if (r.held.length : Int) > 1 then (r.held.length : Int) else 1) = nr
    refine s_newL (by wtm_at "sz") S fun ws2 H S => ?_
    wtm_at "st"
    obtain ⟨kv, e, hm, _⟩ := atI_lt (xs := [V.int nr, V.int nr, V.int nr, V.int nr, .int (-1), .int r.held.length, .int (10 ^ Int.toNat 45), .int (0 - 10 ^ Int.toNat 45)]) (i := d / 320 % 8) (Int.emod_nonneg _ (by decide)) (Int.emod_lt_of_pos _ (by decide))
    refine s_ixL S (by wtm_at "pk") e ?_
    have hk : ∃ k : Int, kv = .int k := by
      simp only [List.mem_cons, List.not_mem_nil, or_false] at hm
      rcases hm with rfl | rfl | rfl | rfl | rfl | rfl | rfl | rfl <;> exact ⟨_, rfl⟩
    obtain ⟨k, rfl⟩ := hk
    iterate 3 wtm_at "s1"
    refine s_val (.bl (r.bad wd k)) (fun Q q => ?_) ?_
    · wtm_at "st"
      refine s_ifd (fun d1 => ?_) (fun d1 => ?_)
      · wtm_at "st"
        rw [bad_2 (by omega)] at q
        exact q
      · wtm_at "st"
        refine s_ifd (fun d2 => ?_) (fun d2 => ?_)
        · wtm_at "st"
          rw [bad_2 (by omega)] at q
          exact q
        · wtm_at "st"
          refine s_ifd (fun d3 => ?_) (fun d3 => ?_)
          · wtm_at "st"
            obtain ⟨v, e, hm, hv⟩ := atI_lt (xs := r.held) (i := k) (by omega) (by omega)
            refine s_ixL S (by wtm_at "pk") e ?_
            wtm_at "st"
            have hb : r.bad wd k = decide (v = .non) := by
              unfold Rk.bad
              rw [decide_eq_true (show 0 ≤ k by omega), decide_eq_true (show k < r.held.length by omega), decide_eq_true d3, hv]
              simp
            rw [← hb]
            exact q
          · wtm_at "st"
            rw [bad_ok2 (by omega) (by omega) d3] at q
            exact q
    wtm_at "st"
    refine ⟨G.L, r, wd, k, _, rfl, g, kp.ok, (by wtm_at "wk"), fun t kl H S => ?_⟩
    wtm_at "st"
    refine s_newL (by wtm_at "sz") S fun n1 H S => ?_
    wtm_at "st"
    refine s_newL (by wtm_at "sz") S fun n2 H S => ?_
    wtm_at "st"
    refine s_newL (by wtm_at "sz") S fun n3 H S => ?_
    wtm_at "st"
    cases hb : r.bad wd k
    · rw [hb, if_neg Bool.false_ne_true] at S
      replace S : Sep (pt n3 _ :: pt n2 _ :: pt n1 _ :: pt t (.tup [.non, .ref kl]) :: pt kl (.lst []) :: _) _ := S
      refine s_ixL S (by wtm_at "pk") (atI_of (v := V.ref n1) (by decide) rfl) ?_
      wtm_at "st"
      refine s_newT (by wtm_at "sz") S fun n4 H S => ?_
      refine s_neTL (x := .non) (xs := []) S (by wtm_at "pk") (by wtm_at "pk") (by wtm_at "pk") (by wtm_at "pk") rfl (fun _ z => nomatch z) ?_
      wtm_at "st"
      have ⟨k1, k2, k3⟩ := bad_no hb
      rcases hwd with rfl | rfl | rfl
      · rw [show r.after "free" k = r.free k.toNat from if_pos rfl] at S
        wtm_at "st"
        refine s_ifd (fun _ => ?_) (fun z => absurd rfl z)
        wtm_at "st"
        refine s_stL S (n := k.toNat) (by wtm_at "cg") (ixN_of k1 k2) fun H S => ?_
        wtm_at "st"
        refine q (r.free k.toNat) st _ (kp.free k.toNat) ?_
        show Sep (rkC G.L (r.free k.toNat) (pt G.kt (.tup [.ref G.h, .ref G.s, .ref G.sh]) :: pt G.h (.lst (r.held.set k.toNat .non)) :: pt G.s (.lst (st.map .int)) :: pt G.sh (.lst (r.tak.map .int)) :: F)) _
        wtm_at "wk"
      · rw [show r.after "stick" k = r.brkAt k.toNat true from (if_neg (by decide +kernel)).trans (by rw [decide_eq_true rfl])] at S
        wtm_at "st"
        refine s_ifd (fun z => absurd z (by decide +kernel)) (fun _ => ?_)
        wtm_at "st"
        refine s_ifd (fun _ => ?_) (fun z => absurd rfl z)
        wtm_at "st"
        refine s_notInL S (by wtm_at "pk") rfl (flatI st) ?_
        rw [inV_int]
        wtm_at "st"
        refine s_ifn (fun c3 => ?_) (fun c3 => ?_)
        · wtm_at "st"
          refine s_append S (by wtm_at "cg") (by rw [List.length_map]; exact kp.len_lt) fun H S => ?_
          wtm_at "st"
          refine q (r.brkAt k.toNat true) (st ++ [k]) _ (kp.stickN k1 k2 c3) ?_
          rw [show st.map V.int ++ [V.int k] = (st ++ [k]).map V.int by rw [List.map_append]; rfl] at S
          show Sep (rkC G.L (r.brkAt k.toNat true) (pt G.kt (.tup [.ref G.h, .ref G.s, .ref G.sh]) :: pt G.h (.lst r.held) :: pt G.s (.lst ((st ++ [k]).map V.int)) :: pt G.sh (.lst (r.tak.map .int)) :: F)) _
          wtm_at "wk"
        · wtm_at "st"
          refine q (r.brkAt k.toNat true) st _ (kp.stickO k1 k2 c3) ?_
          show Sep (rkC G.L (r.brkAt k.toNat true) (pt G.kt (.tup [.ref G.h, .ref G.s, .ref G.sh]) :: pt G.h (.lst r.held) :: pt G.s (.lst (st.map V.int)) :: pt G.sh (.lst (r.tak.map .int)) :: F)) _
          wtm_at "wk"
      · rw [show r.after "mend" k = r.brkAt k.toNat false from (if_neg (by decide +kernel)).trans (by rw [decide_eq_false (by decide +kernel)])] at S
        wtm_at "st"
        refine s_ifd (fun z => absurd z (by decide +kernel)) (fun _ => ?_)
        wtm_at "st"
        refine s_ifd (fun z => absurd z (by decide +kernel)) (fun _ => ?_)
        wtm_at "st"
        refine s_ifd (fun _ => ?_) (fun z => absurd rfl z)
        wtm_at "st"
        refine s_inL S (by wtm_at "pk") rfl (flatI st) ?_
        rw [inV_int]
        wtm_at "st"
        refine s_ifd (fun c3 => ?_) (fun c3 => ?_)
        · wtm_at "st"
          refine s_remove (K := K) S c3 (by wtm_at "cg") fun H S => ?_
          wtm_at "st"
          refine q (r.brkAt k.toNat false) (st.erase k) _ (kp.mendO k1 k2 c3) ?_
          show Sep (rkC G.L (r.brkAt k.toNat false) (pt G.kt (.tup [.ref G.h, .ref G.s, .ref G.sh]) :: pt G.h (.lst r.held) :: pt G.s (.lst ((st.erase k).map V.int)) :: pt G.sh (.lst (r.tak.map .int)) :: F)) _
          wtm_at "wk"
        · wtm_at "st"
          refine q (r.brkAt k.toNat false) st _ (kp.mendN k1 k2 c3) ?_
          show Sep (rkC G.L (r.brkAt k.toNat false) (pt G.kt (.tup [.ref G.h, .ref G.s, .ref G.sh]) :: pt G.h (.lst r.held) :: pt G.s (.lst (st.map V.int)) :: pt G.sh (.lst (r.tak.map .int)) :: F)) _
          wtm_at "wk"
    · rw [hb, if_pos rfl] at S
      replace S : Sep (pt n3 _ :: pt n2 _ :: pt n1 _ :: pt t (.tup [.non, .ref kl]) :: pt kl (.lst [.bl true, .bl true, .bl false]) :: _) _ := S
      refine s_ixL S (by wtm_at "pk") (atI_of (v := V.ref n2) (by decide) rfl) ?_
      wtm_at "st"
      refine s_newT (by wtm_at "sz") S fun n4 H S => ?_
      refine s_neTL (x := .non) (xs := [.bl true, .bl true, .bl false]) S (by wtm_at "pk") (by wtm_at "pk") (by wtm_at "pk") (by wtm_at "pk") rfl (okB [true, true, false]) ?_
      wtm_at "st"
      exact q r st _ kp (by wtm_at "wk")
end
end L2.Zs

namespace L2.Zs
open PySem PySem.Spec PyProof.Rows
local macro_rules | `(tactic| wtm_at "pk") => `(tactic| (repeat (first | with_reducible exact Pick.here | with_reducible apply Pick.there)))
local macro_rules | `(tactic| wtm_at "cg") => `(tactic| (repeat (first | with_reducible exact Chg.here | with_reducible apply Chg.there)))
local macro_rules | `(tactic| wtm_at "sa") => `(tactic| (repeat (first | with_reducible exact SetAt.here | with_reducible apply SetAt.there)))
local macro_rules | `(tactic| wtm_at "wk1") => `(tactic| (repeat (first | with_reducible exact Wk.refl | (with_reducible apply Wk.pick; focus (wtm_at "pk"; done)) | with_reducible apply Wk.drop)))
local macro_rules | `(tactic| wtm_at "wk") => `(tactic| (refine Wk.sep ?_ (by assumption); wtm_at "wk1"))
local macro_rules | `(tactic| wtm_at "sz") => `(tactic| first | exact Nat.le_of_ble_eq_true rfl | assumption | omega)
local macro_rules | `(tactic| wtm_at "s1") => `(tactic| first
  | refine Stp.go ?_
  | with_reducible refine s_mod (by first | decide | assumption | omega) ?_
  | with_reducible refine s_mulI (by first | exact cmul_l (by decide) | exact cmul_r (by decide) | (exact cmul_l (by omega)) | (exact cmul_r (by omega))) ?_
  | with_reducible refine s_div (cdiv_of (by decide) (by decide)) ?_
  | with_reducible refine s_pow (cpow_of (by decide) (by decide) (by decide)) ?_
  | with_reducible refine s_lenL (by assumption) (by wtm_at "pk") ?_
  | with_reducible refine s_lenQ (by assumption) (by wtm_at "pk") ?_
  | with_reducible refine s_lenT (by assumption) (by wtm_at "pk") ?_
  | with_reducible refine s_tyL (by assumption) (by wtm_at "pk") ?_)
local macro_rules | `(tactic| wtm_at "st") => `(tactic| (repeat (first | wtm_at "s1" | with_reducible refine s_seq ?_)))
local macro_rules | `(tactic| wtm_at "stc") => `(tactic| (repeat wtm_at "s1"))

section
variable {P : Program} {w : World} {K : PySem.W.Frag} {mg : Str → Option Value} {base : Heap} {ad : Ad} {Cs : List Addr} {C : Addr} {f : Addr} {fd : FuncData}
set_option maxHeartbeats 1000000
theorem rep_flat {n : Nat} {x : V} : (List.replicate n [x]).flatten = List.replicate n x := by simp
theorem Kp.new {n : Nat} (h : n ≤ 60) : Kp (Rk.new n) [] := by
  refine ⟨Rk.new_ok h, List.nodup_nil, (fun _ z => nomatch z), fun i hi => ?_, fun v hv => ?_⟩
  · have hi : i < n := by simpa [Rk.new] using hi
    show (List.replicate n false).getD i true = decide ((i : Int) ∈ ([] : List Int))
    rw [List.getD_eq_getElem?_getD, List.getElem?_replicate, if_pos hi]
    rfl
  · have hv : v ∈ List.replicate n V.non := hv
    rw [List.eq_of_mem_replicate hv]
    rfl
/-- a group and what the law keeps of it -/
@[reducible] def gT (t : Addr) (G : GS) (r : Rk) (st : List Int) (F : List As) : List As := pt t (.tup [.ref G.L.p, .ref G.kt]) :: gC G r st F
def Made (gs : Addr) (Cs : List Addr) (F : List As) (i : Nat) (H : Hp) : Prop := match i with
  | 0 => Sep (pt gs (.lst []) :: F) H
  | 1 => ∃ t0 G0 r0 st0, (GS.L G0).good Cs ∧ Kp r0 st0 ∧ Sep (pt gs (.lst [.ref t0]) :: gT t0 G0 r0 st0 F) H
  | _ => ∃ t0 G0 r0 st0 t1 G1 r1 st1, (GS.L G0).good Cs ∧ (GS.L G1).good Cs ∧ Kp r0 st0 ∧ Kp r1 st1 ∧ Sep (pt gs (.lst [.ref t0, .ref t1]) :: gT t0 G0 r0 st0 (gT t1 G1 r1 st1 F)) H
theorem ok_law (T : Txt K mg ad) (R : RT K [ad.Group]) (c_Ldraws : Cal P w K mg base 2 "_law_draws" (spDraws K)) (c_Ldeed : Cal P w K mg base 4 "_law_deed" (spDeed [ad.Group])) (c_Lshows : Cal P w K mg base 2 "_law_shows" (spShows [ad.Group])) (k_Group : Mak P w K mg base 1 "Group" ad.Group (spRack [ad.Group] ad.Group)) (F : Fun K "law" "law" s_law f fd) : FnOk P w K mg base (L2.CX P w) 6 f fd ["script"] (spLawK K) := by
  refine F.okX sc_law (fun vs H Q E h => len_law h) (fun cdv A outer s H vs Q E hr h => ?_)
  have tk : Takes (cxOf (L2.CX P w) P w K mg base N_law "law" (defScope s_law) f cdv A outer s H E) (fun cls d _ H => E cls d H) := takes_of rfl rfl rfl rfl
  have po_ : PassesOwn (model P w) (cxOf (L2.CX P w) P w K mg base N_law "law" (defScope s_law) f cdv A outer s H E).A (cxOf (L2.CX P w) P w K mg base N_law "law" (defScope s_law) f cdv A outer s H E).env (cxOf (L2.CX P w) P w K mg base N_law "law" (defScope s_law) f cdv A outer s H E).xe := passes_of rfl
  refine ⟨_, (pss_cons (ps_set (i := 1) sc_law.nd rfl (Or.inl rfl) (z_call c_Ldraws tk hr (by decide) (by rfl) (pa_cons (pv 0) (pa_cons pe_int (pa_cons pe_int (pa_cons pe_int pa_nil))))))
  (pss_cons (ps_set (i := 2) sc_law.nd rfl (Or.inl rfl) (pe_lst pa_nil))
  (pss_cons (ps_for (po_) rfl (k_list (K := K) rfl (pe_lst (pa_cons (pe_op zo_mod (pe_ix (k_ix (K := K) rfl) (pv 1) pe_int (fun _ _ => rfl)) pe_int) (pa_cons (pe_ix (k_ix (K := K) rfl) (pe_lst (pa_cons (pe_op zo_mod (pe_ix (k_ix (K := K) rfl) (pv 1) pe_int (fun _ _ => rfl)) pe_int) (pa_cons pe_int pa_nil))) (pe_op zo_mod (pe_ix (k_ix (K := K) rfl) (pv 1) pe_int (fun _ _ => rfl)) pe_int) (fun _ _ => rfl)) pa_nil)))) (pg_name (i := 3) sc_law.nd rfl (Or.inl rfl)) (pss_one (ps_expr (k_bm (K := K) rfl PySem.F.plainAttrs_list PySem.F.slot_list_append PySem.F.type_list_append z_append (pv 2) (pa_cons (pe_tup (pa_cons (z_make k_Group tk hr (by decide) (by rfl) (pa_cons (pv 3) pa_nil)) (pa_cons (pe_tup (pa_cons (pe_op zo_mul (pe_lst (pa_cons pe_non pa_nil)) (pv 3)) (pa_cons (pe_lst pa_nil) (pa_cons (pe_op zo_mul (pe_lst (pa_cons pe_int pa_nil)) (pv 3)) pa_nil)))) pa_nil))) pa_nil)))))
  (pss_cons (ps_set (i := 4) sc_law.nd rfl (Or.inl rfl) (z_call c_Ldraws tk hr (by decide) (by rfl) (pa_cons (pv 0) (pa_cons pe_int (pa_cons pe_int (pa_cons (pe_op zo_mul (pe_op zo_mul (pe_op zo_mul pe_int pe_int) pe_int) pe_int) pa_nil))))))
  (pss_cons (ps_for (po_) rfl (pi_range1 (by rfl) T.b_range (pa_cons (pe_op zo_add pe_int (pe_op zo_mod (pe_op zo_div (pe_ix (k_ix (K := K) rfl) (pv 1) pe_int (fun _ _ => rfl)) pe_int) pe_int)) pa_nil)) (pg_name (i := 5) sc_law.nd rfl (Or.inl rfl)) (pss_cons (ps_asg (pe_ix (k_ix (K := K) rfl) (pv 2) (pe_op zo_mod (pe_ix (k_ix (K := K) rfl) (pv 4) (pv 5) (fun _ _ => rfl)) pe_int) (fun _ _ => rfl)) (k_gtup (K := K) rfl rfl (pgs_cons (pg_name (i := 6) sc_law.nd rfl (Or.inl rfl)) (pgs_cons (pg_name (i := 7) sc_law.nd rfl (Or.inl rfl)) pgs_nil))))
  (pss_cons (ps_if (pt_not (pt_val (z_call c_Ldeed tk hr (by decide) (by rfl) (pa_cons (pv 6) (pa_cons (pv 7) (pa_cons (pe_op zo_div (pe_ix (k_ix (K := K) rfl) (pv 4) (pv 5) (fun _ _ => rfl)) pe_int) pa_nil)))))) (pss_one (ps_ret pe_bl)) pss_nil)
  (pss_one (ps_if ((pw_or (pt_not (pt_val (z_call c_Lshows tk hr (by decide) (by rfl) (pa_cons (pe_ix (k_ix (K := K) rfl) (pe_ix (k_ix (K := K) rfl) (pv 2) pe_int (fun _ _ => rfl)) pe_int (fun _ _ => rfl)) (pa_cons (pe_ix (k_ix (K := K) rfl) (pe_ix (k_ix (K := K) rfl) (pv 2) pe_int (fun _ _ => rfl)) pe_int (fun _ _ => rfl)) pa_nil))))) (pw_or1 (pt_not (pt_val (z_call c_Lshows tk hr (by decide) (by rfl) (pa_cons (pe_ix (k_ix (K := K) rfl) (pe_ix (k_ix (K := K) rfl) (pv 2) pe_int (fun _ _ => rfl)) pe_int (fun _ _ => rfl)) (pa_cons (pe_ix (k_ix (K := K) rfl) (pe_ix (k_ix (K := K) rfl) (pv 2) pe_int (fun _ _ => rfl)) pe_int (fun _ _ => rfl)) pa_nil)))))))).pt (pss_one (ps_ret pe_bl)) pss_nil)))))
  (pss_one (ps_ret pe_bl))))))), ?_⟩
  obtain ⟨a, ns, rfl, hS, hl, q⟩ := h
  have S := sep_law hS
  refine s_start (σ := [some (.ref a), none, none, none, none, none, none, none]) rfl ?_
  wtm_at "st"
  refine ⟨a, ns, 0, 3, 2520, [], rfl, S, by decide, by decide, by decide, by decide, cdiv_of (by decide) (by decide), fun row p H hlen hrow S => ?_⟩
  rcases row with _ | ⟨x, _ | ⟨y, _ | ⟨z, _ | _⟩⟩⟩ <;> first | (exfalso; simp at hlen; done) | (exfalso; simp at hlen; omega) | skip
  have S : Sep (pt p (.lst [.int x, .int y, .int z]) :: _) H := S
  wtm_at "st"
  refine s_newL (by wtm_at "sz") S fun gs H S => ?_
  wtm_at "st"
  refine s_ixL S (by wtm_at "pk") (atI_of (v := V.int x) (by decide) rfl) ?_
  wtm_at "st"
  refine s_ixL S (by wtm_at "pk") (atI_of (v := V.int y) (by decide) rfl) ?_
  wtm_at "st"
  refine s_newL (by wtm_at "sz") S fun w1 H S => ?_
  wtm_at "st"
  refine s_ixL S (by wtm_at "pk") (atI_of (v := V.int z) (by decide) rfl) ?_
  wtm_at "st"
  obtain ⟨v, e, hm, _⟩ := atI_lt (xs := [V.int (y % 11), V.int 3]) (i := z % 2) (Int.emod_nonneg _ (by decide)) (Int.emod_lt_of_pos _ (by decide))
  refine s_ixL S (by wtm_at "pk") e ?_
  have hm2 : ∃ m2 : Int, v = .int m2 ∧ 0 ≤ m2 ∧ m2 ≤ 60 := by
    simp only [List.mem_cons, List.not_mem_nil, or_false] at hm
    rcases hm with rfl | rfl
    · exact ⟨_, rfl, by omega, by omega⟩
    · exact ⟨_, rfl, by decide, by decide⟩
  obtain ⟨m2, rfl, m20, m21⟩ := hm2
  have m10 : 0 ≤ x % 11 := by omega
  have m11 : x % 11 ≤ 60 := by omega
  have hz : 0 ≤ z := (hrow z (by simp)).1
  generalize x % 11 = m1 at m10 m11 ⊢
  wtm_at "st"
  refine s_newL (by wtm_at "sz") S fun it H S => ?_
  wtm_at "st"
  refine s_list S (by wtm_at "pk") (lp_list (xs := [.int m1, .int m2]) (fun i σ H => ∃ v3, σ = [some (.ref a), some (.ref p), some (.ref gs), v3, none, none, none, none] ∧ Made gs [ad.Group] (pt it (.lst [.int m1, .int m2]) :: pt p (.lst [.int x, .int y, .int z]) :: sq K a (ns.map V.int) :: []) i H) ⟨none, rfl, ?_⟩ ?_ ?_ ?_)
  · show Sep (pt gs (.lst []) :: _) _
    wtm_at "wk"
  · rintro i σ H hi ⟨v3, rfl, M⟩
    match i, M with
    | 0, M => exact SqL.of (Sep.get (show Sep (pt gs (.lst []) :: pt it (.lst [.int m1, .int m2]) :: _) H from M) (by wtm_at "pk"))
    | 1, ⟨t0, G0, r0, st0, g0, k0, S⟩ => exact SqL.of (S.get (by wtm_at "pk"))
    | _ + 2, ⟨t0, G0, r0, st0, t1, G1, r1, st1, g0, g1, k0, k1, S⟩ => exact SqL.of (S.get (by wtm_at "pk"))
  · rintro i v σ H hx ⟨v3, rfl, M⟩
    match i, hx, M with
    | 0, hx, M =>
        cases hx
        have S : Sep (pt gs (.lst []) :: pt it (.lst [.int m1, .int m2]) :: pt p (.lst [.int x, .int y, .int z]) :: sq K a (ns.map V.int) :: []) H := M
        wtm_at "st"
        refine s_mkR S fun gp dx H S => ?_
        refine ⟨gp, dx, m1, _, rfl, List.mem_singleton.mpr rfl, m10, m11, S, fun l1 l2 l3 H S => ⟨rfl, ?_⟩⟩
        have hL : RL.good ⟨ad.Group, dx, gp, l1, l2, l3, []⟩ [ad.Group] := ⟨List.mem_singleton.mpr rfl, fun _ _ => rfl⟩
        have kp : Kp (Rk.new m1.toNat) [] := Kp.new (by omega)
        wtm_at "st"
        refine s_newL (by wtm_at "sz") S fun w1 H S => ?_
        wtm_at "st"
        refine s_mulL S (by wtm_at "pk") (by omega) (by omega) (Nat.le_trans (show 1 * (m1).toNat ≤ 60 by omega) (by decide)) fun h1 H S => ?_
        wtm_at "st"
        refine s_newL (by wtm_at "sz") S fun s1 H S => ?_
        wtm_at "st"
        refine s_newL (by wtm_at "sz") S fun w2 H S => ?_
        wtm_at "st"
        refine s_mulL S (by wtm_at "pk") (by omega) (by omega) (Nat.le_trans (show 1 * (m1).toNat ≤ 60 by omega) (by decide)) fun h2 H S => ?_
        wtm_at "st"
        refine s_newT (by wtm_at "sz") S fun kt H S => ?_
        wtm_at "st"
        refine s_newT (by wtm_at "sz") S fun tt H S => ?_
        wtm_at "st"
        refine s_append S (by wtm_at "cg") (by show 0 < sizeLine; decide) fun H S => ?_
        wtm_at "st"
        rw [rep_flat, rep_flat] at S
        rw [show List.replicate (m1).toNat (V.int 0) = (Rk.new (m1).toNat).tak.map V.int by simp [Rk.new]] at S
        refine ⟨_, rfl, tt, ⟨⟨ad.Group, dx, gp, l1, l2, l3, []⟩, kt, h1, s1, h2⟩, Rk.new m1.toNat, [], hL, kp, ?_⟩
        show Sep (pt gs (.lst ([] ++ [.ref tt])) :: pt tt (.tup [.ref gp, .ref kt]) :: rkC ⟨ad.Group, dx, gp, l1, l2, l3, []⟩ (Rk.new m1.toNat) (pt kt (.tup [.ref h1, .ref s1, .ref h2]) :: pt h1 (.lst (List.replicate m1.toNat .non)) :: pt s1 (.lst []) :: pt h2 (.lst ((Rk.new m1.toNat).tak.map .int)) :: _)) _
        wtm_at "wk"
    | 1, hx, ⟨t0, G0, r0, st0, g0, k0, S⟩ =>
        cases hx
        wtm_at "st"
        refine s_mkR S fun gp dx H S => ?_
        refine ⟨gp, dx, m2, _, rfl, List.mem_singleton.mpr rfl, m20, m21, S, fun l1 l2 l3 H S => ⟨rfl, ?_⟩⟩
        have hL : RL.good ⟨ad.Group, dx, gp, l1, l2, l3, []⟩ [ad.Group] := ⟨List.mem_singleton.mpr rfl, fun _ _ => rfl⟩
        have kp : Kp (Rk.new m2.toNat) [] := Kp.new (by omega)
        wtm_at "st"
        refine s_newL (by wtm_at "sz") S fun w1 H S => ?_
        wtm_at "st"
        refine s_mulL S (by wtm_at "pk") (by omega) (by omega) (Nat.le_trans (show 1 * (m2).toNat ≤ 60 by omega) (by decide)) fun h1 H S => ?_
        wtm_at "st"
        refine s_newL (by wtm_at "sz") S fun s1 H S => ?_
        wtm_at "st"
        refine s_newL (by wtm_at "sz") S fun w2 H S => ?_
        wtm_at "st"
        refine s_mulL S (by wtm_at "pk") (by omega) (by omega) (Nat.le_trans (show 1 * (m2).toNat ≤ 60 by omega) (by decide)) fun h2 H S => ?_
        wtm_at "st"
        refine s_newT (by wtm_at "sz") S fun kt H S => ?_
        wtm_at "st"
        refine s_newT (by wtm_at "sz") S fun tt H S => ?_
        wtm_at "st"
        refine s_append S (by wtm_at "cg") (by show 1 < sizeLine; decide) fun H S => ?_
        wtm_at "st"
        rw [rep_flat, rep_flat] at S
        rw [show List.replicate (m2).toNat (V.int 0) = (Rk.new (m2).toNat).tak.map V.int by simp [Rk.new]] at S
        refine ⟨_, rfl, t0, G0, r0, st0, tt, ⟨⟨ad.Group, dx, gp, l1, l2, l3, []⟩, kt, h1, s1, h2⟩, Rk.new m2.toNat, [], g0, hL, k0, kp, ?_⟩
        show Sep (pt gs (.lst ([.ref t0] ++ [.ref tt])) :: gT t0 G0 r0 st0 (pt tt (.tup [.ref gp, .ref kt]) :: rkC ⟨ad.Group, dx, gp, l1, l2, l3, []⟩ (Rk.new m2.toNat) (pt kt (.tup [.ref h1, .ref s1, .ref h2]) :: pt h1 (.lst (List.replicate m2.toNat .non)) :: pt s1 (.lst []) :: pt h2 (.lst ((Rk.new m2.toNat).tak.map .int)) :: _))) _
        wtm_at "wk"
    | i + 2, hx, _ => simp at hx
  · rintro σ H ⟨v3, rfl, t0, G0, r0, st0, t1, G1, r1, st1, g0, g1, k0, k1, S⟩
    wtm_at "st"
    refine ⟨a, ns, 1, 60, _, _, rfl, (by wtm_at "wk"), by decide, by decide, by decide, by decide, cdiv_of (by decide) (by decide), fun dr dp H dlen hdr S => ?_⟩
    wtm_at "st"
    refine s_ixL S (by wtm_at "pk") (atI_of (v := V.int z) (by decide) rfl) ?_
    wtm_at "st"
    refine s_rng1 (by omega) (by omega) (lp_range (fun i σ H => ∃ v5 v6 v7 r0 st0 r1 st1, σ = [some (.ref a), some (.ref p), some (.ref gs), v3, some (.ref dp), v5, v6, v7] ∧ Kp r0 st0 ∧ Kp r1 st1 ∧
      Sep (pt gs (.lst [.ref t0, .ref t1]) :: gT t0 G0 r0 st0 (gT t1 G1 r1 st1 (pt dp (.lst (dr.map .int)) :: []))) H) ⟨none, none, none, r0, st0, r1, st1, rfl, k0, k1, (by wtm_at "wk")⟩ ?_ ?_)
    · rintro i σ H hi ⟨v5, v6, v7, r0, st0, r1, st1, rfl, k0, k1, S⟩
      wtm_at "st"
      obtain ⟨dv, hdv, e2, _⟩ := atI_int (ns := dr) (i := i) (by omega) (by omega)
      refine s_ixL S (by wtm_at "pk") e2 ?_
      wtm_at "st"
      obtain ⟨v, e, hm, _⟩ := atI_lt (xs := [V.ref t0, V.ref t1]) (i := dv % 2) (Int.emod_nonneg _ (by decide)) (Int.emod_lt_of_pos _ (by decide))
      refine s_ixL S (by wtm_at "pk") e ?_
      simp only [List.mem_cons, List.not_mem_nil, or_false] at hm
      rcases hm with rfl | rfl
      · wtm_at "st"
        refine s_gtup S (by wtm_at "pk") rfl ?_
        wtm_at "st"
        refine s_ixL S (by wtm_at "pk") e2 ?_
        wtm_at "st"
        refine ⟨G0, r0, st0, _, _, rfl, g0, k0, (by wtm_at "wk"), fun r0 st0 H k0 S => ?_⟩
        wtm_at "st"
        refine s_ixL S (by wtm_at "pk") (atI_of (v := V.ref t0) (by decide) rfl) ?_
        wtm_at "st"
        refine s_ixT S (by wtm_at "pk") (atI_of (v := V.ref G0.L.p) (by decide) rfl) ?_
        wtm_at "st"
        refine s_ixL S (by wtm_at "pk") (atI_of (v := V.ref t0) (by decide) rfl) ?_
        wtm_at "st"
        refine s_ixT S (by wtm_at "pk") (atI_of (v := V.ref G0.kt) (by decide) rfl) ?_
        wtm_at "st"
        refine ⟨G0, r0, st0, _, rfl, g0, k0, (by wtm_at "wk"), fun H S => ?_⟩
        wtm_at "st"
        refine s_ixL S (by wtm_at "pk") (atI_of (v := V.ref t1) (by decide) rfl) ?_
        wtm_at "st"
        refine s_ixT S (by wtm_at "pk") (atI_of (v := V.ref G1.L.p) (by decide) rfl) ?_
        wtm_at "st"
        refine s_ixL S (by wtm_at "pk") (atI_of (v := V.ref t1) (by decide) rfl) ?_
        wtm_at "st"
        refine s_ixT S (by wtm_at "pk") (atI_of (v := V.ref G1.kt) (by decide) rfl) ?_
        wtm_at "st"
        refine ⟨G1, r1, st1, _, rfl, g1, k1, (by wtm_at "wk"), fun H S => ?_⟩
        wtm_at "st"
        exact ⟨_, _, _, r0, st0, r1, st1, rfl, k0, k1, (by wtm_at "wk")⟩
      · wtm_at "st"
        refine s_gtup S (by wtm_at "pk") rfl ?_
        wtm_at "st"
        refine s_ixL S (by wtm_at "pk") e2 ?_
        wtm_at "st"
        refine ⟨G1, r1, st1, _, _, rfl, g1, k1, (by wtm_at "wk"), fun r1 st1 H k1 S => ?_⟩
        wtm_at "st"
        refine s_ixL S (by wtm_at "pk") (atI_of (v := V.ref t0) (by decide) rfl) ?_
        wtm_at "st"
        refine s_ixT S (by wtm_at "pk") (atI_of (v := V.ref G0.L.p) (by decide) rfl) ?_
        wtm_at "st"
        refine s_ixL S (by wtm_at "pk") (atI_of (v := V.ref t0) (by decide) rfl) ?_
        wtm_at "st"
        refine s_ixT S (by wtm_at "pk") (atI_of (v := V.ref G0.kt) (by decide) rfl) ?_
        wtm_at "st"
        refine ⟨G0, r0, st0, _, rfl, g0, k0, (by wtm_at "wk"), fun H S => ?_⟩
        wtm_at "st"
        refine s_ixL S (by wtm_at "pk") (atI_of (v := V.ref t1) (by decide) rfl) ?_
        wtm_at "st"
        refine s_ixT S (by wtm_at "pk") (atI_of (v := V.ref G1.L.p) (by decide) rfl) ?_
        wtm_at "st"
        refine s_ixL S (by wtm_at "pk") (atI_of (v := V.ref t1) (by decide) rfl) ?_
        wtm_at "st"
        refine s_ixT S (by wtm_at "pk") (atI_of (v := V.ref G1.kt) (by decide) rfl) ?_
        wtm_at "st"
        refine ⟨G1, r1, st1, _, rfl, g1, k1, (by wtm_at "wk"), fun H S => ?_⟩
        wtm_at "st"
        exact ⟨_, _, _, r0, st0, r1, st1, rfl, k0, k1, (by wtm_at "wk")⟩
    · rintro σ H ⟨v5, v6, v7, r0, st0, r1, st1, rfl, k0, k1, S⟩
      wtm_at "st"
      exact q H
end
end L2.Zs
namespace L2.Zs
open PySem PySem.Spec PyProof.Rows
theorem kit_not {K : PySem.W.Frag} {D C : Addr} (s : PySem.W.subIn K (.ref D) (.ref C) = some false) (sc : PySem.W.subIn K (.ref C) (.ref C) = some true) (i : PySem.W.isClsIn K C = true) (t : PySem.W.typeIn K (.ref C) = some (.type "type")) : PySem.W.kitOne K (.ref D) (.ref C) = some false :=
  kit_ref (fun h => by
    have e : D = C := by simpa using h
    subst e
    rw [s] at sc
    cases sc) i t s
set_option maxHeartbeats 8000000 in
theorem all_mk {l : PySem.W.OpenLaw} {w : World} {K : PySem.W.Frag} {h : Heap} {mg : PySem.Str → Option Value} {fa : Addr} (X : K.In h) (G : h.Ns mainGlobals mg) (hfa : mg "law" = some (.ref fa))
    {C_HallError C_NoFigure C_BadPlan C_NoText C_NoSwitch C_NoLine C_NotSo C_NoRow C_Group : Addr}
    {f_Lcell : Addr} {od_Lcell an_Lcell : Option Addr} {sl_Lcell : Array (Option Value)} {oc_Lcell kV_Lcell dc_Lcell pm_Lcell cd_Lcell ct_Lcell : Value}
    {f_Ldraws : Addr} {od_Ldraws an_Ldraws : Option Addr} {sl_Ldraws : Array (Option Value)} {oc_Ldraws kV_Ldraws dc_Ldraws pm_Ldraws cd_Ldraws ct_Ldraws : Value}
    {f_Lnumber : Addr} {od_Lnumber an_Lnumber : Option Addr} {sl_Lnumber : Array (Option Value)} {oc_Lnumber kV_Lnumber dc_Lnumber pm_Lnumber cd_Lnumber ct_Lnumber : Value}
    {f_Lwhole : Addr} {od_Lwhole an_Lwhole : Option Addr} {sl_Lwhole : Array (Option Value)} {oc_Lwhole kV_Lwhole dc_Lwhole pm_Lwhole cd_Lwhole ct_Lwhole : Value}
    {f_Rack_need : Addr} {od_Rack_need an_Rack_need : Option Addr} {sl_Rack_need : Array (Option Value)} {oc_Rack_need kV_Rack_need dc_Rack_need pm_Rack_need cd_Rack_need ct_Rack_need : Value}
    {f_Rack_is_ready : Addr} {od_Rack_is_ready an_Rack_is_ready : Option Addr} {sl_Rack_is_ready : Array (Option Value)} {oc_Rack_is_ready kV_Rack_is_ready dc_Rack_is_ready pm_Rack_is_ready cd_Rack_is_ready ct_Rack_is_ready : Value}
    {f_Rack_given : Addr} {od_Rack_given an_Rack_given : Option Addr} {sl_Rack_given : Array (Option Value)} {oc_Rack_given kV_Rack_given dc_Rack_given pm_Rack_given cd_Rack_given ct_Rack_given : Value}
    {f_Rack_free : Addr} {od_Rack_free an_Rack_free : Option Addr} {sl_Rack_free : Array (Option Value)} {oc_Rack_free kV_Rack_free dc_Rack_free pm_Rack_free cd_Rack_free ct_Rack_free : Value}
    {f_Rack_stick : Addr} {od_Rack_stick an_Rack_stick : Option Addr} {sl_Rack_stick : Array (Option Value)} {oc_Rack_stick kV_Rack_stick dc_Rack_stick pm_Rack_stick cd_Rack_stick ct_Rack_stick : Value}
    {f_Rack_mend : Addr} {od_Rack_mend an_Rack_mend : Option Addr} {sl_Rack_mend : Array (Option Value)} {oc_Rack_mend kV_Rack_mend dc_Rack_mend pm_Rack_mend cd_Rack_mend ct_Rack_mend : Value}
    {f_Rack_shares : Addr} {od_Rack_shares an_Rack_shares : Option Addr} {sl_Rack_shares : Array (Option Value)} {oc_Rack_shares kV_Rack_shares dc_Rack_shares pm_Rack_shares cd_Rack_shares ct_Rack_shares : Value}
    {f_RackQ_initQ : Addr} {od_RackQ_initQ an_RackQ_initQ : Option Addr} {sl_RackQ_initQ : Array (Option Value)} {oc_RackQ_initQ kV_RackQ_initQ dc_RackQ_initQ pm_RackQ_initQ cd_RackQ_initQ ct_RackQ_initQ : Value}
    {f_Group_take : Addr} {od_Group_take an_Group_take : Option Addr} {sl_Group_take : Array (Option Value)} {oc_Group_take kV_Group_take dc_Group_take pm_Group_take cd_Group_take ct_Group_take : Value}
    {f_Group_paper : Addr} {od_Group_paper an_Group_paper : Option Addr} {sl_Group_paper : Array (Option Value)} {oc_Group_paper kV_Group_paper dc_Group_paper pm_Group_paper cd_Group_paper ct_Group_paper : Value}
    {f_Lrefused : Addr} {od_Lrefused an_Lrefused : Option Addr} {sl_Lrefused : Array (Option Value)} {oc_Lrefused kV_Lrefused dc_Lrefused pm_Lrefused cd_Lrefused ct_Lrefused : Value}
    {f_Lshows : Addr} {od_Lshows an_Lshows : Option Addr} {sl_Lshows : Array (Option Value)} {oc_Lshows kV_Lshows dc_Lshows pm_Lshows cd_Lshows ct_Lshows : Value}
    {f_Ldeed : Addr} {od_Ldeed an_Ldeed : Option Addr} {sl_Ldeed : Array (Option Value)} {oc_Ldeed kV_Ldeed dc_Ldeed pm_Ldeed cd_Ldeed ct_Ldeed : Value}
    {f_law : Addr} {od_law an_law : Option Addr} {sl_law : Array (Option Value)} {oc_law kV_law dc_law pm_law cd_law ct_law : Value}
    (b_len : PySem.W.nsIn K mainGlobals "len" = some none)
    (b_range : PySem.W.nsIn K mainGlobals "range" = some none)
    (b_list : PySem.W.nsIn K mainGlobals "list" = some none)
    (b_tuple : PySem.W.nsIn K mainGlobals "tuple" = some none)
    (b_isinstance : PySem.W.nsIn K mainGlobals "isinstance" = some none)
    (b_int : PySem.W.nsIn K mainGlobals "int" = some none)
    (b_bool : PySem.W.nsIn K mainGlobals "bool" = some none)
    (b_max : PySem.W.nsIn K mainGlobals "max" = some none)
    (b_ValueError : PySem.W.nsIn K mainGlobals "ValueError" = some none)
    (gx_HallError : PySem.W.nsIn K mainGlobals "HallError" = some (some (.ref C_HallError)))
    (ex_HallError : PySem.W.excIn K C_HallError [.type "ValueError", .type "Exception", .type "BaseException", .type "object"] "ValueError.__new__" = true)
    (kx_HallError : PySem.W.keepIn K (.ref C_HallError) = true)
    (bx_HallError : PySem.W.subIn K (.ref C_HallError) (.type "BaseException") = some true)
    (tx_HallError : PySem.W.typeIn K (.ref C_HallError) = some (.type "type"))
    (ix_HallError : PySem.W.isClsIn K C_HallError = true)
    (gx_NoFigure : PySem.W.nsIn K mainGlobals "NoFigure" = some (some (.ref C_NoFigure)))
    (ex_NoFigure : PySem.W.excIn K C_NoFigure [.type "ValueError", .type "Exception", .type "BaseException", .type "object"] "ValueError.__new__" = true)
    (kx_NoFigure : PySem.W.keepIn K (.ref C_NoFigure) = true)
    (bx_NoFigure : PySem.W.subIn K (.ref C_NoFigure) (.type "BaseException") = some true)
    (tx_NoFigure : PySem.W.typeIn K (.ref C_NoFigure) = some (.type "type"))
    (ix_NoFigure : PySem.W.isClsIn K C_NoFigure = true)
    (gx_BadPlan : PySem.W.nsIn K mainGlobals "BadPlan" = some (some (.ref C_BadPlan)))
    (ex_BadPlan : PySem.W.excIn K C_BadPlan [.type "ValueError", .type "Exception", .type "BaseException", .type "object"] "ValueError.__new__" = true)
    (kx_BadPlan : PySem.W.keepIn K (.ref C_BadPlan) = true)
    (bx_BadPlan : PySem.W.subIn K (.ref C_BadPlan) (.type "BaseException") = some true)
    (tx_BadPlan : PySem.W.typeIn K (.ref C_BadPlan) = some (.type "type"))
    (ix_BadPlan : PySem.W.isClsIn K C_BadPlan = true)
    (gx_NoText : PySem.W.nsIn K mainGlobals "NoText" = some (some (.ref C_NoText)))
    (ex_NoText : PySem.W.excIn K C_NoText [.type "ValueError", .type "Exception", .type "BaseException", .type "object"] "ValueError.__new__" = true)
    (kx_NoText : PySem.W.keepIn K (.ref C_NoText) = true)
    (bx_NoText : PySem.W.subIn K (.ref C_NoText) (.type "BaseException") = some true)
    (tx_NoText : PySem.W.typeIn K (.ref C_NoText) = some (.type "type"))
    (ix_NoText : PySem.W.isClsIn K C_NoText = true)
    (gx_NoSwitch : PySem.W.nsIn K mainGlobals "NoSwitch" = some (some (.ref C_NoSwitch)))
    (ex_NoSwitch : PySem.W.excIn K C_NoSwitch [.type "ValueError", .type "Exception", .type "BaseException", .type "object"] "ValueError.__new__" = true)
    (kx_NoSwitch : PySem.W.keepIn K (.ref C_NoSwitch) = true)
    (bx_NoSwitch : PySem.W.subIn K (.ref C_NoSwitch) (.type "BaseException") = some true)
    (tx_NoSwitch : PySem.W.typeIn K (.ref C_NoSwitch) = some (.type "type"))
    (ix_NoSwitch : PySem.W.isClsIn K C_NoSwitch = true)
    (gx_NoLine : PySem.W.nsIn K mainGlobals "NoLine" = some (some (.ref C_NoLine)))
    (ex_NoLine : PySem.W.excIn K C_NoLine [.type "ValueError", .type "Exception", .type "BaseException", .type "object"] "ValueError.__new__" = true)
    (kx_NoLine : PySem.W.keepIn K (.ref C_NoLine) = true)
    (bx_NoLine : PySem.W.subIn K (.ref C_NoLine) (.type "BaseException") = some true)
    (tx_NoLine : PySem.W.typeIn K (.ref C_NoLine) = some (.type "type"))
    (ix_NoLine : PySem.W.isClsIn K C_NoLine = true)
    (gx_NotSo : PySem.W.nsIn K mainGlobals "NotSo" = some (some (.ref C_NotSo)))
    (ex_NotSo : PySem.W.excIn K C_NotSo [.type "ValueError", .type "Exception", .type "BaseException", .type "object"] "ValueError.__new__" = true)
    (kx_NotSo : PySem.W.keepIn K (.ref C_NotSo) = true)
    (bx_NotSo : PySem.W.subIn K (.ref C_NotSo) (.type "BaseException") = some true)
    (tx_NotSo : PySem.W.typeIn K (.ref C_NotSo) = some (.type "type"))
    (ix_NotSo : PySem.W.isClsIn K C_NotSo = true)
    (gx_NoRow : PySem.W.nsIn K mainGlobals "NoRow" = some (some (.ref C_NoRow)))
    (ex_NoRow : PySem.W.excIn K C_NoRow [.type "ValueError", .type "Exception", .type "BaseException", .type "object"] "ValueError.__new__" = true)
    (kx_NoRow : PySem.W.keepIn K (.ref C_NoRow) = true)
    (bx_NoRow : PySem.W.subIn K (.ref C_NoRow) (.type "BaseException") = some true)
    (tx_NoRow : PySem.W.typeIn K (.ref C_NoRow) = some (.type "type"))
    (ix_NoRow : PySem.W.isClsIn K C_NoRow = true)
    (hg_NoSwitch : PySem.W.findIn K (.ref C_NoSwitch) "__getattribute__" = some (some (.builtin "BaseException.__getattribute__")))
    (hk_NoSwitch : PySem.W.findIn K (.ref C_NoSwitch) "__getattr__" = some none)
    (hd_NoSwitch : PySem.W.hasDictIn K C_NoSwitch = true)
    (ha_NoSwitch : PySem.W.findIn K (.ref C_NoSwitch) "__class__" = some (some (.builtin "object.__class__")))
    (hn_ : PySem.W.specialIn K (.builtin "object.__class__") "__get__" = some (some (.builtin "getset_descriptor.__get__")))
    (ht_ : PySem.W.takesIn K (.builtin "object.__class__") = some true)
    (hm_NoSwitch : PySem.W.mroIn K C_NoSwitch (.type "object") = some true)
    (ve_NoSwitch : PySem.W.subIn K (.ref C_NoSwitch) (.type "ValueError") = some true)
    (su_NoSwitch_HallError : PySem.W.subIn K (.ref C_NoSwitch) (.ref C_HallError) = some true)
    (su_NoSwitch_NoSwitch : PySem.W.subIn K (.ref C_NoSwitch) (.ref C_NoSwitch) = some true)
    (su_NoSwitch_BadPlan : PySem.W.subIn K (.ref C_NoSwitch) (.ref C_BadPlan) = some false)
    (su_BadPlan_BadPlan : PySem.W.subIn K (.ref C_BadPlan) (.ref C_BadPlan) = some true)
    (su_NoSwitch_NoFigure : PySem.W.subIn K (.ref C_NoSwitch) (.ref C_NoFigure) = some false)
    (su_NoFigure_NoFigure : PySem.W.subIn K (.ref C_NoFigure) (.ref C_NoFigure) = some true)
    (su_NoSwitch_NoLine : PySem.W.subIn K (.ref C_NoSwitch) (.ref C_NoLine) = some false)
    (su_NoLine_NoLine : PySem.W.subIn K (.ref C_NoLine) (.ref C_NoLine) = some true)
    (su_NoSwitch_NoRow : PySem.W.subIn K (.ref C_NoSwitch) (.ref C_NoRow) = some false)
    (su_NoRow_NoRow : PySem.W.subIn K (.ref C_NoRow) (.ref C_NoRow) = some true)
    (su_NoSwitch_NoText : PySem.W.subIn K (.ref C_NoSwitch) (.ref C_NoText) = some false)
    (su_NoText_NoText : PySem.W.subIn K (.ref C_NoText) (.ref C_NoText) = some true)
    (su_NoSwitch_NotSo : PySem.W.subIn K (.ref C_NoSwitch) (.ref C_NotSo) = some false)
    (su_NotSo_NotSo : PySem.W.subIn K (.ref C_NotSo) (.ref C_NotSo) = some true)
    (gx_Group : PySem.W.nsIn K mainGlobals "Group" = some (some (.ref C_Group)))
    (pg_Group : PySem.W.plainGet K C_Group Str.empty = true)
    (hd_Group : PySem.W.hasDictIn K C_Group = true)
    (po_Group : PySem.W.plainOver K C_Group = true)
    (sa_Group : PySem.W.findIn K (.ref C_Group) "__setattr__" = some (some (.builtin "object.__setattr__")))
    (kc_Group : PySem.W.keepIn K (.ref C_Group) = true)
    (no_Group_held_by : PySem.W.findIn K (.ref C_Group) "held_by" = some none)
    (no_Group_broken : PySem.W.findIn K (.ref C_Group) "broken" = some none)
    (no_Group_taken : PySem.W.findIn K (.ref C_Group) "taken" = some none)
    (a_Lcell : PySem.W.nsIn K mainGlobals "_law_cell" = some (some (.ref f_Lcell)))
    (l_Lcell : K.lookup f_Lcell = some ⟨oc_Lcell, od_Lcell, .func (PySem.W.fnOf "_law_cell" "_law_cell" (defArgs s_Lcell) (defBody s_Lcell) (defScope s_Lcell) .none kV_Lcell dc_Lcell pm_Lcell an_Lcell cd_Lcell ct_Lcell), sl_Lcell⟩)
    (c_Lcell : PySem.W.codeIn K cd_Lcell "_law_cell" = true)
    (k_Lcell : PySem.W.keepIn K (.ref f_Lcell) = true)
    (a_Ldraws : PySem.W.nsIn K mainGlobals "_law_draws" = some (some (.ref f_Ldraws)))
    (l_Ldraws : K.lookup f_Ldraws = some ⟨oc_Ldraws, od_Ldraws, .func (PySem.W.fnOf "_law_draws" "_law_draws" (defArgs s_Ldraws) (defBody s_Ldraws) (defScope s_Ldraws) .none kV_Ldraws dc_Ldraws pm_Ldraws an_Ldraws cd_Ldraws ct_Ldraws), sl_Ldraws⟩)
    (c_Ldraws : PySem.W.codeIn K cd_Ldraws "_law_draws" = true)
    (k_Ldraws : PySem.W.keepIn K (.ref f_Ldraws) = true)
    (a_Lnumber : PySem.W.nsIn K mainGlobals "_law_number" = some (some (.ref f_Lnumber)))
    (l_Lnumber : K.lookup f_Lnumber = some ⟨oc_Lnumber, od_Lnumber, .func (PySem.W.fnOf "_law_number" "_law_number" (defArgs s_Lnumber) (defBody s_Lnumber) (defScope s_Lnumber) .none kV_Lnumber dc_Lnumber pm_Lnumber an_Lnumber cd_Lnumber ct_Lnumber), sl_Lnumber⟩)
    (c_Lnumber : PySem.W.codeIn K cd_Lnumber "_law_number" = true)
    (k_Lnumber : PySem.W.keepIn K (.ref f_Lnumber) = true)
    (a_Lwhole : PySem.W.nsIn K mainGlobals "_law_whole" = some (some (.ref f_Lwhole)))
    (l_Lwhole : K.lookup f_Lwhole = some ⟨oc_Lwhole, od_Lwhole, .func (PySem.W.fnOf "_law_whole" "_law_whole" (defArgs s_Lwhole) (defBody s_Lwhole) (defScope s_Lwhole) .none kV_Lwhole dc_Lwhole pm_Lwhole an_Lwhole cd_Lwhole ct_Lwhole), sl_Lwhole⟩)
    (c_Lwhole : PySem.W.codeIn K cd_Lwhole "_law_whole" = true)
    (k_Lwhole : PySem.W.keepIn K (.ref f_Lwhole) = true)
    (at_Rack_need_Group : PySem.W.findIn K (.ref C_Group) "need" = some (some (.ref f_Rack_need)))
    (i_Rack_need : PySem.W.isFn K (.ref f_Rack_need) = true)
    (l_Rack_need : K.lookup f_Rack_need = some ⟨oc_Rack_need, od_Rack_need, .func (PySem.W.fnOf "need" "Rack.need" (defArgs s_Rack_need) (defBody s_Rack_need) (defScope s_Rack_need) .none kV_Rack_need dc_Rack_need pm_Rack_need an_Rack_need cd_Rack_need ct_Rack_need), sl_Rack_need⟩)
    (c_Rack_need : PySem.W.codeIn K cd_Rack_need "Rack.need" = true)
    (k_Rack_need : PySem.W.keepIn K (.ref f_Rack_need) = true)
    (at_Rack_is_ready_Group : PySem.W.findIn K (.ref C_Group) "is_ready" = some (some (.ref f_Rack_is_ready)))
    (i_Rack_is_ready : PySem.W.isFn K (.ref f_Rack_is_ready) = true)
    (l_Rack_is_ready : K.lookup f_Rack_is_ready = some ⟨oc_Rack_is_ready, od_Rack_is_ready, .func (PySem.W.fnOf "is_ready" "Rack.is_ready" (defArgs s_Rack_is_ready) (defBody s_Rack_is_ready) (defScope s_Rack_is_ready) .none kV_Rack_is_ready dc_Rack_is_ready pm_Rack_is_ready an_Rack_is_ready cd_Rack_is_ready ct_Rack_is_ready), sl_Rack_is_ready⟩)
    (c_Rack_is_ready : PySem.W.codeIn K cd_Rack_is_ready "Rack.is_ready" = true)
    (k_Rack_is_ready : PySem.W.keepIn K (.ref f_Rack_is_ready) = true)
    (at_Rack_given_Group : PySem.W.findIn K (.ref C_Group) "given" = some (some (.ref f_Rack_given)))
    (i_Rack_given : PySem.W.isFn K (.ref f_Rack_given) = true)
    (l_Rack_given : K.lookup f_Rack_given = some ⟨oc_Rack_given, od_Rack_given, .func (PySem.W.fnOf "given" "Rack.given" (defArgs s_Rack_given) (defBody s_Rack_given) (defScope s_Rack_given) .none kV_Rack_given dc_Rack_given pm_Rack_given an_Rack_given cd_Rack_given ct_Rack_given), sl_Rack_given⟩)
    (c_Rack_given : PySem.W.codeIn K cd_Rack_given "Rack.given" = true)
    (k_Rack_given : PySem.W.keepIn K (.ref f_Rack_given) = true)
    (at_Rack_free_Group : PySem.W.findIn K (.ref C_Group) "free" = some (some (.ref f_Rack_free)))
    (i_Rack_free : PySem.W.isFn K (.ref f_Rack_free) = true)
    (l_Rack_free : K.lookup f_Rack_free = some ⟨oc_Rack_free, od_Rack_free, .func (PySem.W.fnOf "free" "Rack.free" (defArgs s_Rack_free) (defBody s_Rack_free) (defScope s_Rack_free) .none kV_Rack_free dc_Rack_free pm_Rack_free an_Rack_free cd_Rack_free ct_Rack_free), sl_Rack_free⟩)
    (c_Rack_free : PySem.W.codeIn K cd_Rack_free "Rack.free" = true)
    (k_Rack_free : PySem.W.keepIn K (.ref f_Rack_free) = true)
    (at_Rack_stick_Group : PySem.W.findIn K (.ref C_Group) "stick" = some (some (.ref f_Rack_stick)))
    (i_Rack_stick : PySem.W.isFn K (.ref f_Rack_stick) = true)
    (l_Rack_stick : K.lookup f_Rack_stick = some ⟨oc_Rack_stick, od_Rack_stick, .func (PySem.W.fnOf "stick" "Rack.stick" (defArgs s_Rack_stick) (defBody s_Rack_stick) (defScope s_Rack_stick) .none kV_Rack_stick dc_Rack_stick pm_Rack_stick an_Rack_stick cd_Rack_stick ct_Rack_stick), sl_Rack_stick⟩)
    (c_Rack_stick : PySem.W.codeIn K cd_Rack_stick "Rack.stick" = true)
    (k_Rack_stick : PySem.W.keepIn K (.ref f_Rack_stick) = true)
    (at_Rack_mend_Group : PySem.W.findIn K (.ref C_Group) "mend" = some (some (.ref f_Rack_mend)))
    (i_Rack_mend : PySem.W.isFn K (.ref f_Rack_mend) = true)
    (l_Rack_mend : K.lookup f_Rack_mend = some ⟨oc_Rack_mend, od_Rack_mend, .func (PySem.W.fnOf "mend" "Rack.mend" (defArgs s_Rack_mend) (defBody s_Rack_mend) (defScope s_Rack_mend) .none kV_Rack_mend dc_Rack_mend pm_Rack_mend an_Rack_mend cd_Rack_mend ct_Rack_mend), sl_Rack_mend⟩)
    (c_Rack_mend : PySem.W.codeIn K cd_Rack_mend "Rack.mend" = true)
    (k_Rack_mend : PySem.W.keepIn K (.ref f_Rack_mend) = true)
    (at_Rack_shares_Group : PySem.W.findIn K (.ref C_Group) "shares" = some (some (.ref f_Rack_shares)))
    (i_Rack_shares : PySem.W.isFn K (.ref f_Rack_shares) = true)
    (l_Rack_shares : K.lookup f_Rack_shares = some ⟨oc_Rack_shares, od_Rack_shares, .func (PySem.W.fnOf "shares" "Rack.shares" (defArgs s_Rack_shares) (defBody s_Rack_shares) (defScope s_Rack_shares) .none kV_Rack_shares dc_Rack_shares pm_Rack_shares an_Rack_shares cd_Rack_shares ct_Rack_shares), sl_Rack_shares⟩)
    (c_Rack_shares : PySem.W.codeIn K cd_Rack_shares "Rack.shares" = true)
    (k_Rack_shares : PySem.W.keepIn K (.ref f_Rack_shares) = true)
    (at_RackQ_initQ_Group : PySem.W.findIn K (.ref C_Group) "__init__" = some (some (.ref f_RackQ_initQ)))
    (i_RackQ_initQ : PySem.W.isFn K (.ref f_RackQ_initQ) = true)
    (l_RackQ_initQ : K.lookup f_RackQ_initQ = some ⟨oc_RackQ_initQ, od_RackQ_initQ, .func (PySem.W.fnOf "__init__" "Rack.__init__" (defArgs s_RackQ_initQ) (defBody s_RackQ_initQ) (defScope s_RackQ_initQ) .none kV_RackQ_initQ dc_RackQ_initQ pm_RackQ_initQ an_RackQ_initQ cd_RackQ_initQ ct_RackQ_initQ), sl_RackQ_initQ⟩)
    (c_RackQ_initQ : PySem.W.codeIn K cd_RackQ_initQ "Rack.__init__" = true)
    (k_RackQ_initQ : PySem.W.keepIn K (.ref f_RackQ_initQ) = true)
    (mk_Group : PySem.W.makesIn K C_Group = true)
    (at_Group_take_Group : PySem.W.findIn K (.ref C_Group) "take" = some (some (.ref f_Group_take)))
    (i_Group_take : PySem.W.isFn K (.ref f_Group_take) = true)
    (l_Group_take : K.lookup f_Group_take = some ⟨oc_Group_take, od_Group_take, .func (PySem.W.fnOf "take" "Group.take" (defArgs s_Group_take) (defBody s_Group_take) (defScope s_Group_take) .none kV_Group_take dc_Group_take pm_Group_take an_Group_take cd_Group_take ct_Group_take), sl_Group_take⟩)
    (c_Group_take : PySem.W.codeIn K cd_Group_take "Group.take" = true)
    (k_Group_take : PySem.W.keepIn K (.ref f_Group_take) = true)
    (at_Group_paper_Group : PySem.W.findIn K (.ref C_Group) "paper" = some (some (.ref f_Group_paper)))
    (i_Group_paper : PySem.W.isFn K (.ref f_Group_paper) = true)
    (l_Group_paper : K.lookup f_Group_paper = some ⟨oc_Group_paper, od_Group_paper, .func (PySem.W.fnOf "paper" "Group.paper" (defArgs s_Group_paper) (defBody s_Group_paper) (defScope s_Group_paper) .none kV_Group_paper dc_Group_paper pm_Group_paper an_Group_paper cd_Group_paper ct_Group_paper), sl_Group_paper⟩)
    (c_Group_paper : PySem.W.codeIn K cd_Group_paper "Group.paper" = true)
    (k_Group_paper : PySem.W.keepIn K (.ref f_Group_paper) = true)
    (a_Lrefused : PySem.W.nsIn K mainGlobals "_law_refused" = some (some (.ref f_Lrefused)))
    (l_Lrefused : K.lookup f_Lrefused = some ⟨oc_Lrefused, od_Lrefused, .func (PySem.W.fnOf "_law_refused" "_law_refused" (defArgs s_Lrefused) (defBody s_Lrefused) (defScope s_Lrefused) .none kV_Lrefused dc_Lrefused pm_Lrefused an_Lrefused cd_Lrefused ct_Lrefused), sl_Lrefused⟩)
    (c_Lrefused : PySem.W.codeIn K cd_Lrefused "_law_refused" = true)
    (k_Lrefused : PySem.W.keepIn K (.ref f_Lrefused) = true)
    (a_Lshows : PySem.W.nsIn K mainGlobals "_law_shows" = some (some (.ref f_Lshows)))
    (l_Lshows : K.lookup f_Lshows = some ⟨oc_Lshows, od_Lshows, .func (PySem.W.fnOf "_law_shows" "_law_shows" (defArgs s_Lshows) (defBody s_Lshows) (defScope s_Lshows) .none kV_Lshows dc_Lshows pm_Lshows an_Lshows cd_Lshows ct_Lshows), sl_Lshows⟩)
    (c_Lshows : PySem.W.codeIn K cd_Lshows "_law_shows" = true)
    (k_Lshows : PySem.W.keepIn K (.ref f_Lshows) = true)
    (a_Ldeed : PySem.W.nsIn K mainGlobals "_law_deed" = some (some (.ref f_Ldeed)))
    (l_Ldeed : K.lookup f_Ldeed = some ⟨oc_Ldeed, od_Ldeed, .func (PySem.W.fnOf "_law_deed" "_law_deed" (defArgs s_Ldeed) (defBody s_Ldeed) (defScope s_Ldeed) .none kV_Ldeed dc_Ldeed pm_Ldeed an_Ldeed cd_Ldeed ct_Ldeed), sl_Ldeed⟩)
    (c_Ldeed : PySem.W.codeIn K cd_Ldeed "_law_deed" = true)
    (k_Ldeed : PySem.W.keepIn K (.ref f_Ldeed) = true)
    (a_law : PySem.W.nsIn K mainGlobals "law" = some (some (.ref f_law)))
    (l_law : K.lookup f_law = some ⟨oc_law, od_law, .func (PySem.W.fnOf "law" "law" (defArgs s_law) (defBody s_law) (defScope s_law) .none kV_law dc_law pm_law an_law cd_law ct_law), sl_law⟩)
    (c_law : PySem.W.codeIn K cd_law "law" = true)
    (k_law : PySem.W.keepIn K (.ref f_law) = true)
    : ∃ fd : FuncData, (∀ (s : Shared) (v : Value), BindsTo s fd ⟨[v], []⟩ [("script", v)]) ∧ ∀ base : Heap, K.In base → base.Ns mainGlobals mg → FnOk l.prog w K mg base (L2.CX l.prog w) 6 fa fd ["script"] (spLawK K) := by
  have e := hfa.symm.trans (PySem.W.mg_of X G a_law)
  cases e
  have cls_Group : Cls K C_Group := ⟨pg_Group, hd_Group, po_Group, sa_Group⟩
  have T : Txt K mg ⟨C_HallError, C_NoFigure, C_BadPlan, C_NoText, C_NoSwitch, C_NoLine, C_NotSo, C_NoRow, C_Group⟩ := { b_len := PySem.W.mg_none_of X G b_len, b_range := PySem.W.mg_none_of X G b_range, b_list := PySem.W.mg_none_of X G b_list, b_tuple := PySem.W.mg_none_of X G b_tuple, b_isinstance := PySem.W.mg_none_of X G b_isinstance, b_int := PySem.W.mg_none_of X G b_int, b_bool := PySem.W.mg_none_of X G b_bool, b_max := PySem.W.mg_none_of X G b_max, b_ValueError := PySem.W.mg_none_of X G b_ValueError, x_HallError := ⟨ex_HallError, PySem.W.mg_of X G gx_HallError, kx_HallError, bx_HallError, tx_HallError, ix_HallError⟩, x_NoFigure := ⟨ex_NoFigure, PySem.W.mg_of X G gx_NoFigure, kx_NoFigure, bx_NoFigure, tx_NoFigure, ix_NoFigure⟩, x_BadPlan := ⟨ex_BadPlan, PySem.W.mg_of X G gx_BadPlan, kx_BadPlan, bx_BadPlan, tx_BadPlan, ix_BadPlan⟩, x_NoText := ⟨ex_NoText, PySem.W.mg_of X G gx_NoText, kx_NoText, bx_NoText, tx_NoText, ix_NoText⟩, x_NoSwitch := ⟨ex_NoSwitch, PySem.W.mg_of X G gx_NoSwitch, kx_NoSwitch, bx_NoSwitch, tx_NoSwitch, ix_NoSwitch⟩, x_NoLine := ⟨ex_NoLine, PySem.W.mg_of X G gx_NoLine, kx_NoLine, bx_NoLine, tx_NoLine, ix_NoLine⟩, x_NotSo := ⟨ex_NotSo, PySem.W.mg_of X G gx_NotSo, kx_NotSo, bx_NotSo, tx_NotSo, ix_NotSo⟩, x_NoRow := ⟨ex_NoRow, PySem.W.mg_of X G gx_NoRow, kx_NoRow, bx_NoRow, tx_NoRow, ix_NoRow⟩, i_NoSwitch := ⟨⟨hg_NoSwitch, hk_NoSwitch, bx_NoSwitch, hd_NoSwitch, ha_NoSwitch, hn_, ht_, hm_NoSwitch⟩, ve_NoSwitch⟩, e_NoSwitch := exm_of' bx_HallError ix_HallError tx_HallError su_NoSwitch_HallError, k_NoSwitch := kit_ref (fun _ => rfl) ix_NoSwitch tx_NoSwitch su_NoSwitch_NoSwitch, n_NoSwitch := List.forall_mem_cons.mpr ⟨kit_not su_NoSwitch_BadPlan su_BadPlan_BadPlan ix_BadPlan tx_BadPlan, List.forall_mem_cons.mpr ⟨kit_not su_NoSwitch_NoFigure su_NoFigure_NoFigure ix_NoFigure tx_NoFigure, List.forall_mem_cons.mpr ⟨kit_not su_NoSwitch_NoLine su_NoLine_NoLine ix_NoLine tx_NoLine, List.forall_mem_cons.mpr ⟨kit_not su_NoSwitch_NoRow su_NoRow_NoRow ix_NoRow tx_NoRow, List.forall_mem_cons.mpr ⟨kit_not su_NoSwitch_NoText su_NoText_NoText ix_NoText tx_NoText, List.forall_mem_cons.mpr ⟨kit_not su_NoSwitch_NotSo su_NotSo_NotSo ix_NotSo tx_NotSo, fun _ z => nomatch z⟩⟩⟩⟩⟩⟩ }
  have R : RT K [C_Group] := ⟨List.forall_mem_cons.mpr ⟨cls_Group, fun _ z => nomatch z⟩, List.forall_mem_cons.mpr ⟨no_Group_held_by, fun _ z => nomatch z⟩, List.forall_mem_cons.mpr ⟨no_Group_broken, fun _ z => nomatch z⟩, List.forall_mem_cons.mpr ⟨no_Group_taken, fun _ z => nomatch z⟩⟩
  have F_Lcell := fun_mk (st := s_Lcell) l_Lcell c_Lcell k_Lcell
  have B_Lcell := F_Lcell.binds (ps := ["script", "k"]) fun _ _ _ _ _ _ us hl => match us, hl with | [_, _], _ => rfl
  have F_Ldraws := fun_mk (st := s_Ldraws) l_Ldraws c_Ldraws k_Ldraws
  have B_Ldraws := F_Ldraws.binds (ps := ["script", "k", "many", "base"]) fun _ _ _ _ _ _ us hl => match us, hl with | [_, _, _, _], _ => rfl
  have F_Lnumber := fun_mk (st := s_Lnumber) l_Lnumber c_Lnumber k_Lnumber
  have B_Lnumber := F_Lnumber.binds (ps := ["draw", "long"]) fun _ _ _ _ _ _ us hl => match us, hl with | [_, _], _ => rfl
  have F_Lwhole := fun_mk (st := s_Lwhole) l_Lwhole c_Lwhole k_Lwhole
  have B_Lwhole := F_Lwhole.binds (ps := ["found"]) fun _ _ _ _ _ _ us hl => match us, hl with | [_], _ => rfl
  have F_Rack_need := fun_mk (st := s_Rack_need) l_Rack_need c_Rack_need k_Rack_need
  have B_Rack_need := F_Rack_need.binds (ps := ["self", "k"]) fun _ _ _ _ _ _ us hl => match us, hl with | [_, _], _ => rfl
  have F_Rack_is_ready := fun_mk (st := s_Rack_is_ready) l_Rack_is_ready c_Rack_is_ready k_Rack_is_ready
  have B_Rack_is_ready := F_Rack_is_ready.binds (ps := ["self", "k"]) fun _ _ _ _ _ _ us hl => match us, hl with | [_, _], _ => rfl
  have F_Rack_given := fun_mk (st := s_Rack_given) l_Rack_given c_Rack_given k_Rack_given
  have B_Rack_given := F_Rack_given.binds (ps := ["self", "k", "who"]) fun _ _ _ _ _ _ us hl => match us, hl with | [_, _, _], _ => rfl
  have F_Rack_free := fun_mk (st := s_Rack_free) l_Rack_free c_Rack_free k_Rack_free
  have B_Rack_free := F_Rack_free.binds (ps := ["self", "k"]) fun _ _ _ _ _ _ us hl => match us, hl with | [_, _], _ => rfl
  have F_Rack_stick := fun_mk (st := s_Rack_stick) l_Rack_stick c_Rack_stick k_Rack_stick
  have B_Rack_stick := F_Rack_stick.binds (ps := ["self", "k"]) fun _ _ _ _ _ _ us hl => match us, hl with | [_, _], _ => rfl
  have F_Rack_mend := fun_mk (st := s_Rack_mend) l_Rack_mend c_Rack_mend k_Rack_mend
  have B_Rack_mend := F_Rack_mend.binds (ps := ["self", "k"]) fun _ _ _ _ _ _ us hl => match us, hl with | [_, _], _ => rfl
  have F_Rack_shares := fun_mk (st := s_Rack_shares) l_Rack_shares c_Rack_shares k_Rack_shares
  have B_Rack_shares := F_Rack_shares.binds (ps := ["self"]) fun _ _ _ _ _ _ us hl => match us, hl with | [_], _ => rfl
  have F_RackQ_initQ := fun_mk (st := s_RackQ_initQ) l_RackQ_initQ c_RackQ_initQ k_RackQ_initQ
  have B_RackQ_initQ := F_RackQ_initQ.binds (ps := ["self", "many"]) fun _ _ _ _ _ _ us hl => match us, hl with | [_, _], _ => rfl
  have F_Group_take := fun_mk (st := s_Group_take) l_Group_take c_Group_take k_Group_take
  have B_Group_take := F_Group_take.binds (ps := ["self", "who"]) fun _ _ _ _ _ _ us hl => match us, hl with | [_, _], _ => rfl
  have F_Group_paper := fun_mk (st := s_Group_paper) l_Group_paper c_Group_paper k_Group_paper
  have B_Group_paper := F_Group_paper.binds (ps := ["self"]) fun _ _ _ _ _ _ us hl => match us, hl with | [_], _ => rfl
  have F_Lrefused := fun_mk (st := s_Lrefused) l_Lrefused c_Lrefused k_Lrefused
  have B_Lrefused := F_Lrefused.binds (ps := ["rack", "word", "k"]) fun _ _ _ _ _ _ us hl => match us, hl with | [_, _, _], _ => rfl
  have F_Lshows := fun_mk (st := s_Lshows) l_Lshows c_Lshows k_Lshows
  have B_Lshows := F_Lshows.binds (ps := ["group", "kept"]) fun _ _ _ _ _ _ us hl => match us, hl with | [_, _], _ => rfl
  have F_Ldeed := fun_mk (st := s_Ldeed) l_Ldeed c_Ldeed k_Ldeed
  have B_Ldeed := F_Ldeed.binds (ps := ["group", "kept", "draw"]) fun _ _ _ _ _ _ us hl => match us, hl with | [_, _, _], _ => rfl
  have F_law := fun_mk (st := s_law) l_law c_law k_law
  refine ⟨PySem.W.fnOf "law" "law" (defArgs s_law) (defBody s_law) (defScope s_law) .none kV_law dc_law pm_law an_law cd_law ct_law, fun s v => .of_eq rfl, fun base KB GB => ?_⟩
  have c_Lcell : Cal l.prog w K mg base 1 "_law_cell" (spCell K) := ⟨_, _, _, ok_Lcell T F_Lcell, PySem.W.mg_of X G a_Lcell, k_Lcell, B_Lcell⟩
  have c_Ldraws : Cal l.prog w K mg base 2 "_law_draws" (spDraws K) := ⟨_, _, _, ok_Ldraws T c_Lcell F_Ldraws, PySem.W.mg_of X G a_Ldraws, k_Ldraws, B_Ldraws⟩
  have c_Lnumber : Cal l.prog w K mg base 1 "_law_number" (spNumber) := ⟨_, _, _, ok_Lnumber T F_Lnumber, PySem.W.mg_of X G a_Lnumber, k_Lnumber, B_Lnumber⟩
  have c_Lwhole : Cal l.prog w K mg base 1 "_law_whole" (spWhole) := ⟨_, _, _, ok_Lwhole T F_Lwhole, PySem.W.mg_of X G a_Lwhole, k_Lwhole, B_Lwhole⟩
  have m_Rack_need : ∀ C ∈ [C_Group], Met l.prog w K mg base 1 C "need" (spNeed [C_Group] C_NoSwitch C) := List.forall_mem_cons.mpr ⟨⟨_, _, _, ok_Rack_need T R F_Rack_need, ⟨at_Rack_need_Group, i_Rack_need, k_Rack_need⟩, cls_Group, B_Rack_need⟩, fun _ z => nomatch z⟩
  have m_Rack_is_ready : ∀ C ∈ [C_Group], Met l.prog w K mg base 1 C "is_ready" (spReady [C_Group] C) := List.forall_mem_cons.mpr ⟨⟨_, _, _, ok_Rack_is_ready T R F_Rack_is_ready, ⟨at_Rack_is_ready_Group, i_Rack_is_ready, k_Rack_is_ready⟩, cls_Group, B_Rack_is_ready⟩, fun _ z => nomatch z⟩
  have m_Rack_given : ∀ C ∈ [C_Group], Met l.prog w K mg base 1 C "given" (spGiven [C_Group] C) := List.forall_mem_cons.mpr ⟨⟨_, _, _, ok_Rack_given T R F_Rack_given, ⟨at_Rack_given_Group, i_Rack_given, k_Rack_given⟩, cls_Group, B_Rack_given⟩, fun _ z => nomatch z⟩
  have m_Rack_free : ∀ C ∈ [C_Group], Met l.prog w K mg base 2 C "free" (spFree [C_Group] C_NoSwitch C) := List.forall_mem_cons.mpr ⟨⟨_, _, _, ok_Rack_free T R m_Rack_need F_Rack_free, ⟨at_Rack_free_Group, i_Rack_free, k_Rack_free⟩, cls_Group, B_Rack_free⟩, fun _ z => nomatch z⟩
  have m_Rack_stick : ∀ C ∈ [C_Group], Met l.prog w K mg base 2 C "stick" (spStick [C_Group] C_NoSwitch true C) := List.forall_mem_cons.mpr ⟨⟨_, _, _, ok_Rack_stick T R m_Rack_need F_Rack_stick, ⟨at_Rack_stick_Group, i_Rack_stick, k_Rack_stick⟩, cls_Group, B_Rack_stick⟩, fun _ z => nomatch z⟩
  have m_Rack_mend : ∀ C ∈ [C_Group], Met l.prog w K mg base 2 C "mend" (spStick [C_Group] C_NoSwitch false C) := List.forall_mem_cons.mpr ⟨⟨_, _, _, ok_Rack_mend T R m_Rack_need F_Rack_mend, ⟨at_Rack_mend_Group, i_Rack_mend, k_Rack_mend⟩, cls_Group, B_Rack_mend⟩, fun _ z => nomatch z⟩
  have m_Rack_shares : ∀ C ∈ [C_Group], Met l.prog w K mg base 1 C "shares" (spShares [C_Group] C) := List.forall_mem_cons.mpr ⟨⟨_, _, _, ok_Rack_shares T R F_Rack_shares, ⟨at_Rack_shares_Group, i_Rack_shares, k_Rack_shares⟩, cls_Group, B_Rack_shares⟩, fun _ z => nomatch z⟩
  have k_Group : Mak l.prog w K mg base 1 "Group" C_Group (spRack [C_Group] C_Group) := ⟨_, _, _, ok_Rack_init T R F_RackQ_initQ, PySem.W.mg_of X G gx_Group, ⟨mk_Group, at_RackQ_initQ_Group, i_RackQ_initQ, kc_Group⟩, B_RackQ_initQ⟩
  have m_Group_take : ∀ C ∈ [C_Group], Met l.prog w K mg base 2 C "take" (spTake [C_Group] C) := List.forall_mem_cons.mpr ⟨⟨_, _, _, ok_Group_take T R m_Rack_is_ready m_Rack_given F_Group_take, ⟨at_Group_take_Group, i_Group_take, k_Group_take⟩, cls_Group, B_Group_take⟩, fun _ z => nomatch z⟩
  have m_Group_paper : ∀ C ∈ [C_Group], Met l.prog w K mg base 1 C "paper" (spPaper [C_Group] C) := List.forall_mem_cons.mpr ⟨⟨_, _, _, ok_Group_paper T R F_Group_paper, ⟨at_Group_paper_Group, i_Group_paper, k_Group_paper⟩, cls_Group, B_Group_paper⟩, fun _ z => nomatch z⟩
  have c_Lrefused : Cal l.prog w K mg base 3 "_law_refused" (spRefused [C_Group]) := ⟨_, _, _, ok_Lrefused T R m_Rack_free m_Rack_stick m_Rack_mend F_Lrefused, PySem.W.mg_of X G a_Lrefused, k_Lrefused, B_Lrefused⟩
  have c_Lshows : Cal l.prog w K mg base 2 "_law_shows" (spShows [C_Group]) := ⟨_, _, _, ok_Lshows T R m_Rack_shares m_Group_paper F_Lshows, PySem.W.mg_of X G a_Lshows, k_Lshows, B_Lshows⟩
  have c_Ldeed : Cal l.prog w K mg base 4 "_law_deed" (spDeed [C_Group]) := ⟨_, _, _, ok_Ldeed T R c_Lnumber c_Lwhole c_Lrefused m_Group_take F_Ldeed, PySem.W.mg_of X G a_Ldeed, k_Ldeed, B_Ldeed⟩
  exact ok_law T R c_Ldraws c_Ldeed c_Lshows k_Group F_law
theorem walk {l : PySem.W.OpenLaw} {q : Program} {loose : List PySem.Str} {XP : (PySem.Str → Option Value) → Heap → Prop} {YP : World → Heap → Prop} {d : DefRec} {K : Params → PySem.W.Frag} (hn : l.most = some 63) (hdf : d.params.defaults = [])
    (hY : ∀ (w : World) (h : Heap), YP w h → (K w.params).In h)
    (F : ∀ (w : World) (mg : PySem.Str → Option Value) (fa : Addr) (h : Heap), (K w.params).In h → h.Ns mainGlobals mg → mg d.name = some (.ref fa) →
      ∃ fd : FuncData, (∀ (s : Shared) (u : Value), BindsTo s fd ⟨[u], []⟩ [("script", u)]) ∧ ∀ base : Heap, (K w.params).In base → base.Ns mainGlobals mg → FnOk l.prog w (K w.params) mg base (L2.CX l.prog w) 6 fa fd ["script"] (spLawK (K w.params))) :
    PySem.W.WalkO q loose XP YP l.row.toRowW d [] (fun f vs => PySem.call f vs) :=
  L2.walk_of (n := 63) (k := 6) (x := "script") (CX := fun w => L2.CX l.prog w) (sp := fun w => spLawK (K w.params)) hn (by decide) hdf ⟨rfl, by decide, by decide⟩ hY F (fun _ _ a ns hl _ hS => ⟨a, ns, rfl, hS, hl, fun _ => rfl⟩) fun _ _ _ _ _ ⟨_, _, _, _, _, _, _, _, _, _, _, _, z⟩ => z
end L2.Zs
open PySem PySem.W PyProof.Rows
set_option maxRecDepth 100000 in
set_option maxHeartbeats 0 in
theorem PySem.Challenge.cw_stephall_k07_groups_taken_holds : PySem.Challenge.rw_stephall_k07_groups_taken.Holds := by
  w_on; o_law; k_head; (case hw => w_witness2)
  k_fill
  refine L2.Zs.walk (l := PySem.Challenge.rw_stephall_k07_groups_taken) rfl rfl (fun w h Y => PySem.W.kIn_of Y) ?F
  case F =>
    intro w mg fa h Y G hmg
    refine' L2.Zs.all_mk Y G hmg ?b_len ?b_range ?b_list ?b_tuple ?b_isinstance ?b_int ?b_bool ?b_max ?b_ValueError ?gx_HallError ?ex_HallError ?kx_HallError ?bx_HallError ?tx_HallError ?ix_HallError ?gx_NoFigure ?ex_NoFigure ?kx_NoFigure ?bx_NoFigure ?tx_NoFigure ?ix_NoFigure ?gx_BadPlan ?ex_BadPlan ?kx_BadPlan ?bx_BadPlan ?tx_BadPlan ?ix_BadPlan ?gx_NoText ?ex_NoText ?kx_NoText ?bx_NoText ?tx_NoText ?ix_NoText ?gx_NoSwitch ?ex_NoSwitch ?kx_NoSwitch ?bx_NoSwitch ?tx_NoSwitch ?ix_NoSwitch ?gx_NoLine ?ex_NoLine ?kx_NoLine ?bx_NoLine ?tx_NoLine ?ix_NoLine ?gx_NotSo ?ex_NotSo ?kx_NotSo ?bx_NotSo ?tx_NotSo ?ix_NotSo ?gx_NoRow ?ex_NoRow ?kx_NoRow ?bx_NoRow ?tx_NoRow ?ix_NoRow ?hg_NoSwitch ?hk_NoSwitch ?hd_NoSwitch ?ha_NoSwitch ?hn_ ?ht_ ?hm_NoSwitch ?ve_NoSwitch ?su_NoSwitch_HallError ?su_NoSwitch_NoSwitch ?su_NoSwitch_BadPlan ?su_BadPlan_BadPlan ?su_NoSwitch_NoFigure ?su_NoFigure_NoFigure ?su_NoSwitch_NoLine ?su_NoLine_NoLine ?su_NoSwitch_NoRow ?su_NoRow_NoRow ?su_NoSwitch_NoText ?su_NoText_NoText ?su_NoSwitch_NotSo ?su_NotSo_NotSo ?gx_Group ?pg_Group ?hd_Group ?po_Group ?sa_Group ?kc_Group ?no_Group_held_by ?no_Group_broken ?no_Group_taken ?a_Lcell ?l_Lcell ?c_Lcell ?k_Lcell ?a_Ldraws ?l_Ldraws ?c_Ldraws ?k_Ldraws ?a_Lnumber ?l_Lnumber ?c_Lnumber ?k_Lnumber ?a_Lwhole ?l_Lwhole ?c_Lwhole ?k_Lwhole ?at_Rack_need_Group ?i_Rack_need ?l_Rack_need ?c_Rack_need ?k_Rack_need ?at_Rack_is_ready_Group ?i_Rack_is_ready ?l_Rack_is_ready ?c_Rack_is_ready ?k_Rack_is_ready ?at_Rack_given_Group ?i_Rack_given ?l_Rack_given ?c_Rack_given ?k_Rack_given ?at_Rack_free_Group ?i_Rack_free ?l_Rack_free ?c_Rack_free ?k_Rack_free ?at_Rack_stick_Group ?i_Rack_stick ?l_Rack_stick ?c_Rack_stick ?k_Rack_stick ?at_Rack_mend_Group ?i_Rack_mend ?l_Rack_mend ?c_Rack_mend ?k_Rack_mend ?at_Rack_shares_Group ?i_Rack_shares ?l_Rack_shares ?c_Rack_shares ?k_Rack_shares ?at_RackQ_initQ_Group ?i_RackQ_initQ ?l_RackQ_initQ ?c_RackQ_initQ ?k_RackQ_initQ ?mk_Group ?at_Group_take_Group ?i_Group_take ?l_Group_take ?c_Group_take ?k_Group_take ?at_Group_paper_Group ?i_Group_paper ?l_Group_paper ?c_Group_paper ?k_Group_paper ?a_Lrefused ?l_Lrefused ?c_Lrefused ?k_Lrefused ?a_Lshows ?l_Lshows ?c_Lshows ?k_Lshows ?a_Ldeed ?l_Ldeed ?c_Ldeed ?k_Ldeed ?a_law ?l_law ?c_law ?k_law
    (case b_len => k_is)
    (case b_range => k_is)
    (case b_list => k_is)
    (case b_tuple => k_is)
    (case b_isinstance => k_is)
    (case b_int => k_is)
    (case b_bool => k_is)
    (case b_max => k_is)
    (case b_ValueError => k_is)
    (case gx_HallError => k_is)
    (case ex_HallError => k_exc)
    (case kx_HallError => k_is)
    (case bx_HallError => k_is)
    (case tx_HallError => k_is)
    (case ix_HallError => k_is)
    (case gx_NoFigure => k_is)
    (case ex_NoFigure => k_exc)
    (case kx_NoFigure => k_is)
    (case bx_NoFigure => k_is)
    (case tx_NoFigure => k_is)
    (case ix_NoFigure => k_is)
    (case gx_BadPlan => k_is)
    (case ex_BadPlan => k_exc)
    (case kx_BadPlan => k_is)
    (case bx_BadPlan => k_is)
    (case tx_BadPlan => k_is)
    (case ix_BadPlan => k_is)
    (case gx_NoText => k_is)
    (case ex_NoText => k_exc)
    (case kx_NoText => k_is)
    (case bx_NoText => k_is)
    (case tx_NoText => k_is)
    (case ix_NoText => k_is)
    (case gx_NoSwitch => k_is)
    (case ex_NoSwitch => k_exc)
    (case kx_NoSwitch => k_is)
    (case bx_NoSwitch => k_is)
    (case tx_NoSwitch => k_is)
    (case ix_NoSwitch => k_is)
    (case gx_NoLine => k_is)
    (case ex_NoLine => k_exc)
    (case kx_NoLine => k_is)
    (case bx_NoLine => k_is)
    (case tx_NoLine => k_is)
    (case ix_NoLine => k_is)
    (case gx_NotSo => k_is)
    (case ex_NotSo => k_exc)
    (case kx_NotSo => k_is)
    (case bx_NotSo => k_is)
    (case tx_NotSo => k_is)
    (case ix_NotSo => k_is)
    (case gx_NoRow => k_is)
    (case ex_NoRow => k_exc)
    (case kx_NoRow => k_is)
    (case bx_NoRow => k_is)
    (case tx_NoRow => k_is)
    (case ix_NoRow => k_is)
    (case hg_NoSwitch => k_is)
    (case hk_NoSwitch => k_is)
    (case hd_NoSwitch => k_is)
    (case ha_NoSwitch => k_is)
    (case hn_ => k_is)
    (case ht_ => k_is)
    (case hm_NoSwitch => k_is)
    (case ve_NoSwitch => k_is)
    (case su_NoSwitch_HallError => k_is)
    (case su_NoSwitch_NoSwitch => first | rfl | k_is)
    (case su_NoSwitch_BadPlan => k_is)
    (case su_BadPlan_BadPlan => first | rfl | k_is)
    (case su_NoSwitch_NoFigure => k_is)
    (case su_NoFigure_NoFigure => first | rfl | k_is)
    (case su_NoSwitch_NoLine => k_is)
    (case su_NoLine_NoLine => first | rfl | k_is)
    (case su_NoSwitch_NoRow => k_is)
    (case su_NoRow_NoRow => first | rfl | k_is)
    (case su_NoSwitch_NoText => k_is)
    (case su_NoText_NoText => first | rfl | k_is)
    (case su_NoSwitch_NotSo => k_is)
    (case su_NotSo_NotSo => first | rfl | k_is)
    (case gx_Group => k_is)
    (case pg_Group => k_is)
    (case hd_Group => k_is)
    (case po_Group => k_is)
    (case sa_Group => k_is)
    (case kc_Group => k_is)
    (case no_Group_held_by => k_is)
    (case no_Group_broken => k_is)
    (case no_Group_taken => k_is)
    (case a_Lcell => k_is)
    (case l_Lcell => k_is)
    (case c_Lcell => k_is)
    (case k_Lcell => k_is)
    (case a_Ldraws => k_is)
    (case l_Ldraws => k_is)
    (case c_Ldraws => k_is)
    (case k_Ldraws => k_is)
    (case a_Lnumber => k_is)
    (case l_Lnumber => k_is)
    (case c_Lnumber => k_is)
    (case k_Lnumber => k_is)
    (case a_Lwhole => k_is)
    (case l_Lwhole => k_is)
    (case c_Lwhole => k_is)
    (case k_Lwhole => k_is)
    (case at_Rack_need_Group => k_is)
    (case i_Rack_need => k_is)
    (case l_Rack_need => k_is)
    (case c_Rack_need => k_is)
    (case k_Rack_need => k_is)
    (case at_Rack_is_ready_Group => k_is)
    (case i_Rack_is_ready => k_is)
    (case l_Rack_is_ready => k_is)
    (case c_Rack_is_ready => k_is)
    (case k_Rack_is_ready => k_is)
    (case at_Rack_given_Group => k_is)
    (case i_Rack_given => k_is)
    (case l_Rack_given => k_is)
    (case c_Rack_given => k_is)
    (case k_Rack_given => k_is)
    (case at_Rack_free_Group => k_is)
    (case i_Rack_free => k_is)
    (case l_Rack_free => k_is)
    (case c_Rack_free => k_is)
    (case k_Rack_free => k_is)
    (case at_Rack_stick_Group => k_is)
    (case i_Rack_stick => k_is)
    (case l_Rack_stick => k_is)
    (case c_Rack_stick => k_is)
    (case k_Rack_stick => k_is)
    (case at_Rack_mend_Group => k_is)
    (case i_Rack_mend => k_is)
    (case l_Rack_mend => k_is)
    (case c_Rack_mend => k_is)
    (case k_Rack_mend => k_is)
    (case at_Rack_shares_Group => k_is)
    (case i_Rack_shares => k_is)
    (case l_Rack_shares => k_is)
    (case c_Rack_shares => k_is)
    (case k_Rack_shares => k_is)
    (case at_RackQ_initQ_Group => k_is)
    (case i_RackQ_initQ => k_is)
    (case l_RackQ_initQ => k_is)
    (case c_RackQ_initQ => k_is)
    (case k_RackQ_initQ => k_is)
    (case mk_Group => k_is)
    (case at_Group_take_Group => k_is)
    (case i_Group_take => k_is)
    (case l_Group_take => k_is)
    (case c_Group_take => k_is)
    (case k_Group_take => k_is)
    (case at_Group_paper_Group => k_is)
    (case i_Group_paper => k_is)
    (case l_Group_paper => k_is)
    (case c_Group_paper => k_is)
    (case k_Group_paper => k_is)
    (case a_Lrefused => k_is)
    (case l_Lrefused => k_is)
    (case c_Lrefused => k_is)
    (case k_Lrefused => k_is)
    (case a_Lshows => k_is)
    (case l_Lshows => k_is)
    (case c_Lshows => k_is)
    (case k_Lshows => k_is)
    (case a_Ldeed => k_is)
    (case l_Ldeed => k_is)
    (case c_Ldeed => k_is)
    (case k_Ldeed => k_is)
    (case a_law => k_is)
    (case l_law => k_is)
    (case c_law => k_is)
    (case k_law => k_is)
