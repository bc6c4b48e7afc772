import PyProof.Rows.All
import Wide.All
import OpenK.AllK
import Wide.FinOn
import HandS.ForMost
import HandS.ForExc
import HandS.Wide
import HandS.Flow
import HandS.IsInst
import HandS.ExcIs
import HandS.Conv
import HandS.SetFor
import HandS.More
import HandS.Strs
import HandS.SetTxt0
import HandS.Style
import PySem.Challenge.RW_stephall_k06_whole_seekers_go_round
set_option Elab.async false
set_option maxRecDepth 100000
set_option linter.all false
namespace L2.Zs
open PySem
/-! ## separate pieces of the heap -/
abbrev As := Hp → Prop
def Imm : HO → Bool
  | .tup _ => true
  | _ => false
def Le (H1 H : Hp) : Prop := ∀ a o, H1 a = some o → H a = some o
def Dj (H1 H2 : Hp) : Prop := ∀ a o, H1 a = some o → ∀ o', H2 a = some o' → Imm o = true ∧ Imm o' = true
theorem Dj.symm {H1 H2 : Hp} (d : Dj H1 H2) : Dj H2 H1 := fun a o h o' h' => ⟨(d a o' h' o h).2, (d a o' h' o h).1⟩
theorem Le.refl (H : Hp) : Le H H := fun _ _ h => h
theorem Le.trans {H1 H2 H3 : Hp} (a : Le H1 H2) (b : Le H2 H3) : Le H1 H3 := fun x o h => b x o (a x o h)
theorem Dj.le {H1 H2 H1' H2' : Hp} (d : Dj H1 H2) (a : Le H1' H1) (b : Le H2' H2) : Dj H1' H2' := fun x o h o' h' => d x o (a x o h) o' (b x o' h')
def uni (H1 H2 : Hp) : Hp := fun a => (H1 a).or (H2 a)
theorem uni_or {H1 H2 : Hp} {a : Addr} {o : HO} (h : uni H1 H2 a = some o) : H1 a = some o ∨ H2 a = some o := by
  unfold uni at h
  cases e : H1 a with
  | none => rw [e] at h; exact .inr h
  | some u => rw [e] at h; exact .inl h
theorem uni_le {H1 H2 H : Hp} (a : Le H1 H) (b : Le H2 H) : Le (uni H1 H2) H := fun x o h => (uni_or h).elim (a x o) (b x o)
theorem le_uni1 {H1 H2 : Hp} : Le H1 (uni H1 H2) := fun x o h => by unfold uni; rw [h]; rfl
theorem le_uni2 {H1 H2 H : Hp} (a : Le H1 H) (b : Le H2 H) : Le H2 (uni H1 H2) := fun x o h => by
  unfold uni
  cases e : H1 x with
  | none => exact h
  | some u => have := (a x u e).symm.trans (b x o h); exact this
theorem dj_uni {H1 H2 H3 : Hp} (a : Dj H1 H3) (b : Dj H2 H3) : Dj (uni H1 H2) H3 := fun x o h o' h' => (uni_or h).elim (fun h => a x o h o' h') (fun h => b x o h o' h')
/-- the chunks stand apart (written tuples may be shared) -/
def Sep : List As → As
  | [] => fun _ => True
  | c :: cs => fun H => ∃ H1 H2, Le H1 H ∧ Le H2 H ∧ Dj H1 H2 ∧ c H1 ∧ Sep cs H2
theorem Sep.up {cs : List As} {H H' : Hp} (h : Sep cs H) (l : Le H H') : Sep cs H' := by
  cases cs with
  | nil => trivial
  | cons c cs =>
    obtain ⟨H1, H2, a, b, d, x, y⟩ := h
    exact ⟨H1, H2, a.trans l, b.trans l, d, x, y⟩
theorem Sep.swap {c d : As} {cs : List As} {H : Hp} (h : Sep (c :: d :: cs) H) : Sep (d :: c :: cs) H := by
  obtain ⟨H1, H2, a, b, e, x, H3, H4, a2, b2, e2, x2, y⟩ := h
  refine ⟨H3, uni H1 H4, a2.trans b, uni_le a (b2.trans b), ?_, x2, H1, H4, le_uni1, le_uni2 a (b2.trans b), e.le (Le.refl _) b2, x, y⟩
  exact (dj_uni (e.le (Le.refl _) a2) e2.symm).symm
theorem Sep.cons {c : As} {cs cs' : List As} (f : ∀ H, Sep cs H → Sep cs' H) {H : Hp} (h : Sep (c :: cs) H) : Sep (c :: cs') H := by
  obtain ⟨H1, H2, a, b, e, x, y⟩ := h
  exact ⟨H1, H2, a, b, e, x, f _ y⟩
theorem Sep.tail {c : As} {cs : List As} {H : Hp} (h : Sep (c :: cs) H) : Sep cs H := by
  obtain ⟨H1, H2, a, b, e, x, y⟩ := h
  exact y.up b
theorem Sep.imp {c c' : As} {cs : List As} {H : Hp} (h : Sep (c :: cs) H) (f : ∀ H, c H → c' H) : Sep (c' :: cs) H := by
  obtain ⟨H1, H2, a, b, e, x, y⟩ := h
  exact ⟨H1, H2, a, b, e, f _ x, y⟩
/-- c stands in cs, the others are ds -/
inductive Pick : As → List As → List As → Prop
  | here {c cs} : Pick c (c :: cs) cs
  | there {c d cs ds} : Pick c cs ds → Pick c (d :: cs) (d :: ds)
theorem Sep.pick {c : As} {cs ds : List As} (p : Pick c cs ds) {H : Hp} (h : Sep cs H) : Sep (c :: ds) H := by
  induction p generalizing H with
  | here => exact h
  | there p ih => exact Sep.swap (Sep.cons (fun _ => ih) h)
theorem Sep.unpick {c : As} {cs ds : List As} (p : Pick c cs ds) {H : Hp} (h : Sep (c :: ds) H) : Sep cs H := by
  induction p generalizing H with
  | here => exact h
  | there p ih => exact Sep.cons (fun _ => ih) (Sep.swap h)
/-- the chunks ps stand in cs, the others are F -/
inductive Sub : List As → List As → List As → Prop
  | nil {cs} : Sub cs [] cs
  | cons {c ps cs ds F} : Pick c cs ds → Sub ds ps F → Sub cs (c :: ps) F
theorem Sub.sep {cs ps F : List As} (s : Sub cs ps F) {H : Hp} (h : Sep cs H) : Sep (ps ++ F) H := by
  induction s generalizing H with
  | nil => exact h
  | cons p s ih => exact Sep.cons (fun _ => ih) (Sep.pick p h)
theorem Sub.unsep {cs ps F : List As} (s : Sub cs ps F) {H : Hp} (h : Sep (ps ++ F) H) : Sep cs H := by
  induction s generalizing H with
  | nil => exact h
  | cons p s ih => exact Sep.unpick p (Sep.cons (fun _ => ih) h)
theorem Sep.drop {ps F : List As} {H : Hp} (h : Sep (ps ++ F) H) : Sep F H := by
  induction ps generalizing H with
  | nil => exact h
  | cons c ps ih => exact ih h.tail
theorem Sep.left {ps F : List As} {H : Hp} (h : Sep (ps ++ F) H) : Sep ps H := by
  induction ps generalizing H with
  | nil => trivial
  | cons c ps ih => exact Sep.cons (fun _ => ih) h
theorem Sep.rot {ps F : List As} {H : Hp} (h : Sep (ps ++ F) H) : Sep (F ++ ps) H := by
  induction F generalizing ps H with
  | nil => rw [List.append_nil] at h; exact h
  | cons c F ih =>
    have p : Pick c (ps ++ c :: F) (ps ++ F) := by
      clear ih h
      induction ps with
      | nil => exact .here
      | cons d ps ih => exact .there ih
    exact Sep.cons (fun _ => ih) (Sep.pick p h)
/-- some chunks as one -/
def star (cs : List As) : As := fun H => Sep cs H
theorem Sep.flat {ps F : List As} {H : Hp} (h : Sep (star ps :: F) H) : Sep (ps ++ F) H := by
  obtain ⟨H1, H2, a, b, e, x, y⟩ := h
  induction ps generalizing H1 H with
  | nil => exact y.up b
  | cons c ps ih =>
    obtain ⟨H3, H4, a2, b2, e2, x2, y2⟩ := (show Sep (c :: ps) H1 from x)
    refine ⟨H3, uni H4 H2, a2.trans a, uni_le (b2.trans a) b, ?_, x2, ?_⟩
    · exact (dj_uni e2.symm (e.le a2 (Le.refl _)).symm).symm
    · exact ih H4 le_uni1 (le_uni2 (b2.trans a) b) (e.le b2 (Le.refl _)) y2
theorem Sep.unflat {ps F : List As} {H : Hp} (h : Sep (ps ++ F) H) : Sep (star ps :: F) H := by
  induction ps generalizing H with
  | nil => exact ⟨fun _ => none, H, (fun _ _ q => nomatch q), Le.refl _, (fun _ _ q => nomatch q), trivial, h⟩
  | cons c ps ih =>
    obtain ⟨H1, H2, a, b, e, x, y⟩ := h
    obtain ⟨H3, H4, a2, b2, e2, x2, y2⟩ := ih y
    refine ⟨uni H1 H3, H4, uni_le a (a2.trans b), b2.trans b, ?_, ?_, y2⟩
    · exact dj_uni (e.le (Le.refl _) b2) e2
    · exact ⟨H1, H3, le_uni1, le_uni2 a (a2.trans b), e.le (Le.refl _) a2, x, x2⟩
/-- a chunk with something unnamed in it -/
def ex {α : Type} (f : α → As) : As := fun H => ∃ x, f x H
theorem Sep.ex {α : Type} {f : α → As} {F : List As} {H : Hp} (h : Sep (Zs.ex f :: F) H) : ∃ x, Sep (f x :: F) H := by
  obtain ⟨H1, H2, a, b, e, ⟨x, q⟩, y⟩ := h
  exact ⟨x, H1, H2, a, b, e, q, y⟩
theorem Sep.exI {α : Type} {f : α → As} {F : List As} {H : Hp} (x : α) (h : Sep (f x :: F) H) : Sep (Zs.ex f :: F) H := by
  obtain ⟨H1, H2, a, b, e, q, y⟩ := h
  exact ⟨H1, H2, a, b, e, ⟨x, q⟩, y⟩
/-- a plain fact -/
def pu (p : Prop) : As := fun _ => p
theorem Sep.pu {p : Prop} {F : List As} {H : Hp} (h : Sep (Zs.pu p :: F) H) : p ∧ Sep F H := by
  obtain ⟨H1, H2, a, b, e, q, y⟩ := h
  exact ⟨q, y.up b⟩
theorem Sep.puI {p : Prop} {F : List As} {H : Hp} (q : p) (h : Sep F H) : Sep (Zs.pu p :: F) H :=
  ⟨fun _ => none, H, (fun _ _ q => nomatch q), Le.refl _, (fun _ _ q => nomatch q), q, h⟩
/-- one object -/
def pt (a : Addr) (o : HO) : As := fun H => H a = some o
theorem Sep.hd {a : Addr} {o : HO} {F : List As} {H : Hp} (h : Sep (pt a o :: F) H) : H a = some o := by
  obtain ⟨H1, H2, l, _, _, q, _⟩ := h
  exact l _ _ q
theorem Sep.get {a : Addr} {o : HO} {cs ds : List As} {H : Hp} (h : Sep cs H) (p : Pick (pt a o) cs ds) : H a = some o := (h.pick p).hd
theorem Sep.new {a : Addr} {o : HO} {cs : List As} {H : Hp} (h : Sep cs H) (n : H a = none) : Sep (pt a o :: cs) (upd H a o) := by
  refine ⟨upd (fun _ => none) a o, H, fun x u q => ?_, fun x u q => ?_, fun x u q u' q' => ?_, upd_same, h⟩
  · by_cases e : x = a
    · subst e; rw [upd_same] at q; rw [upd_same]; exact q
    · rw [upd_ne e] at q; cases q
  · rw [upd_ne (ne_of_none q n)]; exact q
  · by_cases e : x = a
    · subst e; rw [n] at q'; cases q'
    · rw [upd_ne e] at q; cases q
theorem Sep.setHd {a : Addr} {o o' : HO} {F : List As} {H : Hp} (h : Sep (pt a o :: F) H) (m : Imm o = false) : Sep (pt a o' :: F) (upd H a o') := by
  obtain ⟨H1, H2, l1, l2, d, q, y⟩ := h
  have n : H2 a = none := by
    cases e : H2 a with
    | none => rfl
    | some u => have z := (d a o q u e).1; rw [m] at z; cases z
  refine ⟨upd H1 a o', H2, fun x u q => ?_, fun x u q => ?_, fun x u q u' q' => ?_, upd_same, y⟩
  · by_cases e : x = a
    · subst e; rw [upd_same] at q; rw [upd_same]; exact q
    · rw [upd_ne e] at q; rw [upd_ne e]; exact l1 _ _ q
  · rw [upd_ne (ne_of_none q n)]; exact l2 _ _ q
  · by_cases e : x = a
    · subst e; rw [n] at q'; cases q'
    · rw [upd_ne e] at q; exact d x u q u' q'
/-- c in cs is c' in cs' -/
inductive Chg : As → As → List As → List As → Prop
  | here {c c' cs} : Chg c c' (c :: cs) (c' :: cs)
  | there {c c' d cs cs'} : Chg c c' cs cs' → Chg c c' (d :: cs) (d :: cs')
theorem Chg.pick {c c' : As} {cs cs' : List As} (g : Chg c c' cs cs') : ∃ ds, Pick c cs ds ∧ Pick c' cs' ds := by
  induction g with
  | here => exact ⟨_, .here, .here⟩
  | there g ih =>
    obtain ⟨ds, h1, h2⟩ := ih
    exact ⟨_, .there h1, .there h2⟩
theorem Sep.set {a : Addr} {o o' : HO} {cs cs' : List As} {H : Hp} (h : Sep cs H) (g : Chg (pt a o) (pt a o') cs cs') (m : Imm o = false) : Sep cs' (upd H a o') := by
  obtain ⟨ds, p1, p2⟩ := g.pick
  exact Sep.unpick p2 ((Sep.pick p1 h).setHd m)
theorem Sep.chg {c c' : As} {cs cs' : List As} {H : Hp} (h : Sep cs H) (g : Chg c c' cs cs') (f : ∀ H, c H → c' H) : Sep cs' H := by
  obtain ⟨ds, p1, p2⟩ := g.pick
  exact Sep.unpick p2 ((Sep.pick p1 h).imp f)
theorem Sep.dup {t : Addr} {xs : List V} {F : List As} {H : Hp} (h : Sep (pt t (.tup xs) :: F) H) : Sep (pt t (.tup xs) :: pt t (.tup xs) :: F) H := by
  obtain ⟨H1, H2, l1, l2, d, q, y⟩ := h
  let G : Hp := upd (fun _ => none) t (.tup xs)
  have hG : G t = some (.tup xs) := upd_same
  have lG : Le G H1 := fun x u e => by
    by_cases z : x = t
    · subst z; rw [hG] at e; cases e; exact q
    · rw [show G x = none from upd_ne z] at e; cases e
  have im : ∀ x u, G x = some u → Imm u = true := fun x u e => by
    by_cases z : x = t
    · subst z; rw [hG] at e; cases e; rfl
    · rw [show G x = none from upd_ne z] at e; cases e
  refine ⟨G, uni G H2, lG.trans l1, uni_le (lG.trans l1) l2, fun x u e u' e' => ?_, hG, G, H2, le_uni1, le_uni2 (lG.trans l1) l2, d.le lG (Le.refl _), hG, y⟩
  refine ⟨im x u e, ?_⟩
  rcases uni_or e' with e' | e'
  · exact im x u' e'
  · exact (d x u (lG x u e) u' e').2
/-- two chunks that are owned stand at two places -/
theorem Sep.ne {a b : Addr} {o u : HO} {F : List As} {H : Hp} (h : Sep (pt a o :: pt b u :: F) H) (m : Imm o = false) : a ≠ b := by
  obtain ⟨H1, H2, l1, l2, d, q, H3, H4, l3, l4, d2, q2, y⟩ := h
  intro e
  subst e
  have z := (d a o q u (l3 _ _ q2)).1
  rw [m] at z
  cases z
/-- the law's list, read alone -/
def sq (K : PySem.W.Frag) (a : Addr) (xs : List V) : As := fun H => SqL K H a xs
theorem Sep.sq {K : PySem.W.Frag} {a : Addr} {xs : List V} {cs ds : List As} {H : Hp} (h : Sep cs H) (p : Pick (Zs.sq K a xs) cs ds) : SqL K H a xs := by
  obtain ⟨H1, H2, l, _, _, q, _⟩ := h.pick p
  rcases q with (q | ⟨o, q⟩) | q
  · exact .inl (.inl (l _ _ q))
  · exact .inl (.inr ⟨o, l _ _ q⟩)
  · exact .inr q
/-- ds stands in cs, the rest is let go -/
inductive Wk : List As → List As → Prop
  | refl {cs} : Wk cs cs
  | pick {c cs ds es} : Pick c cs ds → Wk ds es → Wk cs (c :: es)
  | drop {c cs ds} : Wk cs ds → Wk (c :: cs) ds
theorem Wk.sep {cs ds : List As} (k : Wk cs ds) {H : Hp} (h : Sep cs H) : Sep ds H := by
  induction k generalizing H with
  | refl => exact h
  | pick p k ih => exact Sep.cons (fun _ => ih) (Sep.pick p h)
  | drop k ih => exact ih h.tail
theorem Sep.nil (H : Hp) : Sep [] H := trivial
end L2.Zs
namespace L2.Zs
open PySem PySem.Spec PyProof.Rows
/-! ## calls, whatever they let out is W's -/
section
variable {P : Program} {w : World} {K : PySem.W.Frag} {mg : Str → Option Value} {base : Heap}
/-- the def that the module calls x keeps sp -/
def Cal (P : Program) (w : World) (K : PySem.W.Frag) (mg : Str → Option Value) (base : Heap) (k : Nat) (x : Str) (sp : Sp) : Prop :=
  ∃ f fd ps, FnOk P w K mg base (L2.CX P w) k f fd ps sp ∧ mg x = some (.ref f) ∧ PySem.W.keepIn K (.ref f) = true ∧ Binds K fd ps []
/-- the method m of the class at C keeps sp -/
def Met (P : Program) (w : World) (K : PySem.W.Frag) (mg : Str → Option Value) (base : Heap) (k : Nat) (C : Addr) (m : Str) (sp : Sp) : Prop :=
  ∃ f fd ps, FnOk P w K mg base (L2.CX P w) k f fd ps sp ∧ Meth K C m f ∧ Cls K C ∧ Binds K fd ps []
/-- the class that the module calls x, at C, is made by sp -/
def Mak (P : Program) (w : World) (K : PySem.W.Frag) (mg : Str → Option Value) (base : Heap) (k : Nat) (x : Str) (C : Addr) (sp : Sp) : Prop :=
  ∃ f fd ps, FnOk P w K mg base (L2.CX P w) k f fd ps sp ∧ mg x = some (.ref C) ∧ Mk K C f ∧ Binds K fd ps []
end
def tMt (Cs : List Addr) (m : Str) (sp : Addr → Sp) (E : St → XK) (ta : TE) (t : TA) : TE := fun σ H Q => ta σ H fun x H1 => ∃ a C dx fs, x = .ref a ∧ H1 a = some (.ins C dx fs) ∧ C ∈ Cs ∧ fs.lookup m = none ∧
  t σ H1 fun vs H2 => sp C (x :: vs) H2 Q (E σ)
def tMk (C : Addr) (sp : Sp) (E : St → XK) (t : TA) : TE := fun σ H Q => t σ H fun vs H1 => ∀ x dx, H1 x = none → H1 dx = none → dx ≠ x →
  sp (.ref x :: vs) (upd (upd H1 dx (.own x)) x (.ins C dx [])) (fun v H2 => v = .non ∧ Q (.ref x) H2) (E σ)
section
variable {X : Cx} {W : WX} {k j : Nat} {f C : Addr} {fd : FuncData} {ps : List Str} {sp : Sp} {x m : Str} {p pos apos : Pos} {e o : Expr} {es : List Expr} {ta : TE} {t : TA}
theorem run_makeS {pins : List (Addr × Obj)} {σ : St} {H : Hp} {s : Shared} {Q : VK} {us : List Value} {vs : List V} {E : St → XK} (M : Mk X.K C f) (F : FnOk X.prog X.w X.K X.mg X.base (L2.CX X.prog X.w) k f fd ps sp) (hr : Room (k + 1) X.A) (hb : Binds X.K fd ps [])
    (hx : PassesAt (L2.CX X.prog X.w) X σ (E σ)) (I : Inv X pins σ H s) (r : Vals vs us)
    (h : ∀ x dx, H x = none → H dx = none → dx ≠ x → sp (.ref x :: vs) (upd (upd H dx (.own x)) x (.ins C dx [])) (fun v H2 => v = .non ∧ Q (.ref x) H2) (E σ)) :
    wpAny (model X.prog X.w) X.A (call (.ref C) us) (EP X pins σ Q) X.xe s := by
  have hq := h (s.heap.objs.size + 1) s.heap.objs.size (I.hok.fresh (Nat.le_succ _)) (I.hok.fresh (Nat.le_refl _)) (Nat.ne_of_lt (Nat.lt_succ_self _))
  have I2 := Inv.made (C := C) I
  have r2 : Vals (V.ref (s.heap.objs.size + 1) :: vs) (Value.ref (s.heap.objs.size + 1) :: us) := .cons rfl r
  have hl : (Value.ref (s.heap.objs.size + 1) :: us).length = ps.length := by
    have e := r2.length
    rw [F.len _ _ _ _ hq] at e
    exact e.symm
  have hb' := hb _ (Value.ref (s.heap.objs.size + 1) :: us) I2.kIn (by rw [List.append_nil]; exact hl)
  rw [List.append_nil] at hb'
  refine wpAny_call (make_map (f := f) I.kIn M.makes M.init (beq_iff_eq.mp M.fn) (codeAny_mono (F.run _ X.stack _ _ ⟨Value.ref (s.heap.objs.size + 1) :: us, []⟩ (Value.ref (s.heap.objs.size + 1) :: us) _ _ (E σ) (hr.make C us [])
    (I2.env0.make C us []) hb' r2 hq) fun r s' hq' => ?_))
  cases r with
  | error e => exact hx pins _ _ e s' I2 hq'
  | ok fl =>
    cases fl with
    | ret u =>
      obtain ⟨v, H', I3, rv, ev, q3⟩ := I2.after hq'
      subst ev
      exact ⟨rv, ⟨V.ref (s.heap.objs.size + 1), H', I3, rfl, q3⟩⟩
    | next => exact False.elim hq'
    | brk => exact False.elim hq'
    | cont => exact False.elim hq'
theorem z_call (c : Cal X.prog X.w X.K X.mg X.base k x sp) (tk : Takes X W) (hr : Room j X.A) (hk : k ≤ j) (hg : Gl X x) (ha : PA X (e :: es) t) (hdb : (x == ("__debug__" : Str)) = false := by decide)
    (he : starEach (e :: es) X.env = (false, eval e X.env) :: starEach es X.env := by rfl) (hpl : (backTo pos (starEach es X.env)).any (·.1) = false := by rfl) :
    PE X (.Call (.Name x p) (e :: es) [] pos) (tCallS sp (WE W) t) := by
  obtain ⟨f, fd, ps, F, hm, kp, hb⟩ := c
  exact pe_callS F (hr.mono hk) hg hm kp hb (passAt tk) ha hdb he hpl
theorem z_call0 (c : Cal X.prog X.w X.K X.mg X.base k x sp) (tk : Takes X W) (hr : Room j X.A) (hk : k ≤ j) (hg : Gl X x) (hdb : (x == ("__debug__" : Str)) = false := by decide) :
    PE X (.Call (.Name x p) [] [] pos) (tCallS sp (WE W) tNil) := by
  obtain ⟨f, fd, ps, F, hm, kp, hb⟩ := c
  refine ⟨fun pins s σ H Q I h => ?_⟩
  refine wpAny_Call_Name_kw (ld_glob I hg hm ?_ hdb)
  exact PySem.W.callWith_K0 I.kIn kp (run_fnS (us := []) F (hr.mono hk) hb (passAt tk σ) I .nil h)
theorem z_make (c : Mak X.prog X.w X.K X.mg X.base k x C sp) (tk : Takes X W) (hr : Room j X.A) (hk : k + 1 ≤ j) (hg : Gl X x) (ha : PA X (e :: es) t) (hdb : (x == ("__debug__" : Str)) = false := by decide)
    (he : starEach (e :: es) X.env = (false, eval e X.env) :: starEach es X.env := by rfl) (hpl : (backTo pos (starEach es X.env)).any (·.1) = false := by rfl) :
    PE X (.Call (.Name x p) (e :: es) [] pos) (tMk C sp (WE W) t) := by
  obtain ⟨f, fd, ps, F, hm, M, hb⟩ := c
  refine ⟨fun pins s σ H Q I h => ?_⟩
  refine wpAny_Call_Name_kw (ld_glob I hg hm ?_ hdb)
  refine PySem.W.callWith_K (h₀ := X.base) I.ok.mod.kin M.kp (thn (ha.run pos pins s σ H _ I h) fun us s1 ⟨vs, H1, I1, r, q⟩ => ⟨I1.kIn, ?_⟩) he hpl
  exact run_makeS M F (hr.mono hk) hb (passAt tk σ) I1 r q
theorem z_make0 (c : Mak X.prog X.w X.K X.mg X.base k x C sp) (tk : Takes X W) (hr : Room j X.A) (hk : k + 1 ≤ j) (hg : Gl X x) (hdb : (x == ("__debug__" : Str)) = false := by decide) :
    PE X (.Call (.Name x p) [] [] pos) (tMk C sp (WE W) tNil) := by
  obtain ⟨f, fd, ps, F, hm, M, hb⟩ := c
  refine ⟨fun pins s σ H Q I h => ?_⟩
  refine wpAny_Call_Name_kw (ld_glob I hg hm ?_ hdb)
  exact PySem.W.callWith_K0 I.kIn M.kp (run_makeS (us := []) M F (hr.mono hk) hb (passAt tk σ) I .nil h)
theorem z_meth {pl : Sem Bool} {Cs : List Addr} {sp : Addr → Sp} (he : PE X o ta) (c : ∀ C ∈ Cs, Met X.prog X.w X.K X.mg X.base k C m (sp C)) (tk : Takes X W) (hr : Room j X.A) (hk : k ≤ j) (ha : PA X (e :: es) t)
    (hst : starEach (e :: es) X.env = (false, eval e X.env) :: starEach es X.env := by rfl) (hpl : (backTo pos (starEach es X.env)).any (·.1) = false := by rfl)
    (ht : eval (.Call (.Attribute o m apos) (e :: es) [] pos) X.env = (do
      let ov ← eval o X.env
      standAt apos.atName
      let (f, first) ← holding [ov] (getMethod ov m pl)
      callWith pos f first (backTo pos (starEach (e :: es) X.env)) (backToKw pos (keywordEach [] X.env))) := by rfl) :
    PE X (.Call (.Attribute o m apos) (e :: es) [] pos) (tMt Cs m sp (WE W) ta t) := by
  refine ⟨fun pins s σ H Q I h => ?_⟩
  refine PySem.W.methodCall_KW (pl := pl) (thn (he.run pins s σ H _ I h) fun u s1 ⟨x, H1, I1, rx, a, C, dx, fs, ex, ea, hC, l, q⟩ => ?_) ht
  subst ex
  obtain rfl : u = Value.ref a := rx
  obtain ⟨f, fd, ps, F, hm, cl, hb⟩ := c C hC
  refine getmeth_ok I1 ea cl hm l ?_
  refine PySem.W.callWith_K (first := [.ref a]) (h₀ := X.base) I.ok.mod.kin hm.kp (thn (ha.run pos pins s1 σ H1 _ I1 q) fun us s2 ⟨vs, H2, I2, r, q2⟩ => ⟨I2.kIn, ?_⟩) hst hpl
  exact run_fnS (us := .ref a :: us) (vs := .ref a :: vs) F (hr.mono hk) hb (passAt tk σ) I2 (.cons rfl r) q2
theorem z_meth0 {pl : Sem Bool} {Cs : List Addr} {sp : Addr → Sp} (he : PE X o ta) (c : ∀ C ∈ Cs, Met X.prog X.w X.K X.mg X.base k C m (sp C)) (tk : Takes X W) (hr : Room j X.A) (hk : k ≤ j)
    (ht : eval (.Call (.Attribute o m apos) [] [] pos) X.env = (do
      let ov ← eval o X.env
      standAt apos.atName
      let (f, first) ← holding [ov] (getMethod ov m pl)
      callWith pos f first (backTo pos (starEach [] X.env)) (backToKw pos (keywordEach [] X.env))) := by rfl) :
    PE X (.Call (.Attribute o m apos) [] [] pos) (tMt Cs m sp (WE W) ta tNil) := by
  refine ⟨fun pins s σ H Q I h => ?_⟩
  refine PySem.W.methodCall_KW (pl := pl) (thn (he.run pins s σ H _ I h) fun u s1 ⟨x, H1, I1, rx, a, C, dx, fs, ex, ea, hC, l, q⟩ => ?_) ht
  subst ex
  obtain rfl : u = Value.ref a := rx
  obtain ⟨f, fd, ps, F, hm, cl, hb⟩ := c C hC
  refine getmeth_ok I1 ea cl hm l ?_
  exact PySem.W.callWith_K0 (first := [.ref a]) I1.kIn hm.kp (run_fnS (us := [.ref a]) (vs := [.ref a]) F (hr.mono hk) hb (passAt tk σ) I1 (.cons rfl .nil) q)
end
/-! ## operators of several kinds -/
theorem OpR.or {X : Cx} {f : Value → Value → Sem Value} {r r' : R2} (h : OpR X f r) (h' : OpR X f r') : OpR X f (fun x y H Q => r x y H Q ∨ r' x y H Q) := by
  intro pins s σ H x y v u Q I rx ry q
  rcases q with q | q
  · exact h pins s σ H x y v u Q I rx ry q
  · exact h' pins s σ H x y v u Q I rx ry q
def rAddS : R2 := fun x y H Q => ∃ i j, x = .str i ∧ y = .str j ∧ i.length + j.length ≤ sizeLine ∧ Q (.str (i ++ j)) H
def rAddZ : R2 := fun x y H Q => rI0 (fun i j => .int (i + j)) x y H Q ∨ rAddS x y H Q ∨ rCat x y H Q
def rMulZ : R2 := fun x y H Q => rI CMul (fun i j => .int (i * j)) x y H Q ∨ rRep x y H Q
def rMod : R2 := rI (fun _ j => 0 < j) fun i j => .int (i % j)
def rDiv : R2 := rI CDivW fun i j => .int (i / j)
def rSubI : R2 := rI0 fun i j => .int (i - j)
def rPow : R2 := rI CPow fun i j => .int (i ^ j.toNat)
def rLt : R2 := rI0 fun i j => .bl (decide (i < j))
def rLe : R2 := rI0 fun i j => .bl (decide (i ≤ j))
def rGt : R2 := rI0 fun i j => .bl (decide (j < i))
def rGe : R2 := rI0 fun i j => .bl (decide (j ≤ i))
def rEqZ (K : PySem.W.Frag) : R2 := fun x y H Q => rEq x y H Q ∨ rEqD K x y H Q
def rNeZ (K : PySem.W.Frag) : R2 := fun x y H Q => rNe x y H Q ∨ rNeD K x y H Q
def rIsN : R2 := fun x y H Q => y = .non ∧ Q (.bl (decide (x = .non))) H
def rNotN : R2 := fun x y H Q => y = .non ∧ Q (.bl (!decide (x = .non))) H
def rInS : R2 := fun x y H Q => ∃ (c : Nat) (z : Str), x = .str ⟨#[c]⟩ ∧ y = .str z ∧ Q (.bl (decide (c ∈ z.cps.toList))) H
def rNotInS : R2 := fun x y H Q => ∃ (c : Nat) (z : Str), x = .str ⟨#[c]⟩ ∧ y = .str z ∧ Q (.bl (!decide (c ∈ z.cps.toList))) H
section
variable {X : Cx}
theorem zo_add : OpR X (binaryOp .Add) rAddZ := OpR.or op_add (OpR.or op_add_str op_cat)
theorem zo_mul : OpR X (binaryOp .Mult) rMulZ := OpR.or op_mul op_rep
theorem zo_mod : OpR X (binaryOp .Mod) rMod := op_mod
theorem zo_div : OpR X (binaryOp .FloorDiv) rDiv := op_fdivW
theorem zo_sub : OpR X (binaryOp .Sub) rSubI := op_sub
theorem zo_pow : OpR X (binaryOp .Pow) rPow := op_pow
theorem zo_lt : OpR X (compareOp .Lt) rLt := op_lt
theorem zo_le : OpR X (compareOp .LtE) rLe := op_le
theorem zo_gt : OpR X (compareOp .Gt) rGt := op_gt
theorem zo_ge : OpR X (compareOp .GtE) rGe := op_ge
theorem zo_eq (hu : X.A.units + 64 < cLine) : OpR X (compareOp .Eq) (rEqZ X.K) := OpR.or op_eq (op_eqD hu)
theorem zo_ne (hu : X.A.units + 64 < cLine) : OpR X (compareOp .NotEq) (rNeZ X.K) := OpR.or op_ne (op_neD hu)
theorem zo_isN : OpR X (compareOp .Is) rIsN := op_isN
theorem zo_notN : OpR X (compareOp .IsNot) rNotN := op_notN
theorem zo_inS : OpR X (compareOp .In) rInS := op_in_sign
theorem zo_notInS : OpR X (compareOp .NotIn) rNotInS := op_notIn_sign
theorem zo_inQ : OpR X (compareOp .In) (rIn X.K false) := op_in_seq
theorem zo_notInQ : OpR X (compareOp .NotIn) (rIn X.K true) := op_notIn_seq
end
def tTru (K : PySem.W.Frag) (ta : TE) : TT := fun σ H Q => ta σ H fun x H' => ∃ k, TruV K x H' k ∧ Q k H'
theorem z_tru {X : Cx} {a : Expr} {ta : TE} (ha : PE X a ta) (he : ∀ whole, isTrue a X.env whole = (do let v ← whole; standAt a.pos; holding [v] (truthy v)) := by intro _; rfl) : PT X a (tTru X.K ta) := pt_truth ha he
end L2.Zs
namespace L2.Zs
open PySem PySem.Spec PyProof.Rows
/-! named tails -/
def NewTup (xs : List V) (Q : VK) (H : Hp) : Prop := xs.length ≤ sizeLine ∧ ∀ p, H p = none → Q (.ref p) (upd H p (.tup xs))
def NewLst (xs : List V) (Q : VK) (H : Hp) : Prop := xs.length ≤ sizeLine ∧ ∀ p, H p = none → Q (.ref p) (upd H p (.lst xs))
def FldGet (K : PySem.W.Frag) (f : Str) (x : V) (Q : VK) (H : Hp) : Prop := ∃ a C dx fs v, x = .ref a ∧ H a = some (.ins C dx fs) ∧ Cls K C ∧ NoAttr K C f ∧ fs.lookup f = some v ∧ Q v H
def FldSet (K : PySem.W.Frag) (f : Str) (x y : V) (R : Hp → Prop) (H : Hp) : Prop := ∃ a C dx fs, x = .ref a ∧ H a = some (.ins C dx fs) ∧ Cls K C ∧ NoAttr K C f ∧ fs.length < 1000 ∧ R (upd H a (.ins C dx (putF f y fs)))
def MtGo (Cs : List Addr) (m : Str) (x : V) (R : Addr → Hp → Prop) (H : Hp) : Prop := ∃ a C dx fs, x = .ref a ∧ H a = some (.ins C dx fs) ∧ C ∈ Cs ∧ fs.lookup m = none ∧ R C H
def MkGo (C : Addr) (sp : Sp) (E : XK) (vs : List V) (Q : VK) (H : Hp) : Prop := ∀ x dx, H x = none → H dx = none → dx ≠ x → sp (.ref x :: vs) (upd (upd H dx (.own x)) x (.ins C dx [])) (fun v H2 => v = .non ∧ Q (.ref x) H2) E
def rLen (K : PySem.W.Frag) : List V → Hp → VK → Prop := fun xs H Q => ∃ x n, xs = [x] ∧ LenV K x H n ∧ Q (.int n) H
def rStrI : List V → Hp → VK → Prop := fun xs H Q => ∃ i, xs = [.int i] ∧ i.natAbs.log2 < 1920 ∧ Q (.str (toString i)) H
def rInt1 : List V → Hp → VK → Prop := fun xs H Q => (∃ i, xs = [.int i] ∧ Q (.int i) H) ∨ ∃ k, xs = [.bl k] ∧ Q (.int (if k then 1 else 0)) H
def rIntS : List V → Hp → VK → Prop := fun xs H Q => ∃ a n, xs = [.str a] ∧ PySem.intText? a = some n ∧ a.length ≤ 640 ∧ Q (.int n) H
def rMin2 : List V → Hp → VK → Prop := fun xs H Q => ∃ i j, xs = [.int i, .int j] ∧ Q (.int (if j < i then j else i)) H
def rMax2 : List V → Hp → VK → Prop := fun xs H Q => ∃ i j, xs = [.int i, .int j] ∧ Q (.int (if j > i then j else i)) H
section
variable {X : Cx}
theorem z_len : CallR X (.builtin "len") (rLen X.K) := call_len
theorem z_strI : CallR X (.type "str") rStrI := call_str_int
theorem z_int1 : CallR X (.type "int") rInt1 := call_int1
theorem z_min2 (hc : X.calm = true) : CallR X (.builtin "min") rMin2 := call_min2 hc
theorem z_max2 (hc : X.calm = true) : CallR X (.builtin "max") rMax2 := call_max2 hc
theorem z_intS : CallR X (.type "int") rIntS := call_int_str
end
/-! ## readings, step by step -/
section
variable {K : PySem.W.Frag} {σ : St} {H : Hp} {Q : VK} {v x y : V} {ta tb tc te : TE} {t u : TT} {a b c p q C dx : Addr} {cs ds cs' : List As} {D : Ends} {t1 t2 : TS} {QA : List V → Hp → Prop} {QT : Bool → Hp → Prop} {tr : TA} {xs ys : List V} {i j : Int} {z z' : Str}
theorem s_var {i : Nat} (h : σ[i]? = some (some v)) (k : Q v H) : tVar i σ H Q := ⟨v, h, k⟩
theorem s_c (k : Q v H) : tC v σ H Q := k
theorem s_op {r : R2} (k : ta σ H fun x H1 => tb σ H1 fun y H2 => r x y H2 Q) : tOp r ta tb σ H Q := k
theorem s_un {r : V → Hp → VK → Prop} (k : ta σ H fun x H1 => r x H1 Q) : tUn r ta σ H Q := k
theorem s_addI (k : Q (.int (i + j)) H) : rAddZ (.int i) (.int j) H Q := .inl ⟨i, j, rfl, rfl, k⟩
theorem s_addS (h : z.length + z'.length ≤ sizeLine) (k : Q (.str (z ++ z')) H) : rAddZ (.str z) (.str z') H Q := .inr (.inl ⟨z, z', rfl, rfl, h, k⟩)
theorem s_addL (S : Sep cs H) (p1 : Pick (pt a (.lst xs)) cs ds) (p2 : Pick (pt b (.lst ys)) cs cs') (h : xs.length + ys.length ≤ sizeLine) (k : ∀ p H', Sep (pt p (.lst (xs ++ ys)) :: cs) H' → Q (.ref p) H') : rAddZ (.ref a) (.ref b) H Q :=
  .inr (.inr ⟨a, b, xs, ys, rfl, rfl, S.get p1, S.get p2, h, fun p n => k p _ (S.new n)⟩)
theorem s_mulI (h : CMul i j) (k : Q (.int (i * j)) H) : rMulZ (.int i) (.int j) H Q := .inl ⟨i, j, rfl, rfl, h, k⟩
theorem s_mulL (S : Sep cs H) (p1 : Pick (pt a (.lst xs)) cs ds) (h0 : -(2 ^ 63) ≤ j) (h1 : j < 2 ^ 63) (h : xs.length * j.toNat ≤ sizeLine) (k : ∀ p H', Sep (pt p (.lst (List.replicate j.toNat xs).flatten) :: cs) H' → Q (.ref p) H') : rMulZ (.ref a) (.int j) H Q := by
  refine .inr ⟨a, j, xs, rfl, rfl, S.get p1, h0, h1, h, fun p n => ?_⟩
  first
    | exact k p _ (S.new n)
    | (have := k p _ (S.new n); simpa using this)
theorem s_sub (k : Q (.int (i - j)) H) : rSubI (.int i) (.int j) H Q := ⟨i, j, rfl, rfl, k⟩
theorem s_mod (h : 0 < j) (k : Q (.int (i % j)) H) : rMod (.int i) (.int j) H Q := ⟨i, j, rfl, rfl, h, k⟩
theorem s_div (h : CDivW i j) (k : Q (.int (i / j)) H) : rDiv (.int i) (.int j) H Q := ⟨i, j, rfl, rfl, h, k⟩
theorem s_pow (h : CPow i j) (k : Q (.int (i ^ j.toNat)) H) : rPow (.int i) (.int j) H Q := ⟨i, j, rfl, rfl, h, k⟩
theorem s_lt (k : Q (.bl (decide (i < j))) H) : rLt (.int i) (.int j) H Q := ⟨i, j, rfl, rfl, k⟩
theorem s_le (k : Q (.bl (decide (i ≤ j))) H) : rLe (.int i) (.int j) H Q := ⟨i, j, rfl, rfl, k⟩
theorem s_gt (k : Q (.bl (decide (j < i))) H) : rGt (.int i) (.int j) H Q := ⟨i, j, rfl, rfl, k⟩
theorem s_ge (k : Q (.bl (decide (j ≤ i))) H) : rGe (.int i) (.int j) H Q := ⟨i, j, rfl, rfl, k⟩
theorem s_isN (k : Q (.bl (decide (x = .non))) H) : rIsN x .non H Q := ⟨rfl, k⟩
theorem s_notN (k : Q (.bl (!decide (x = .non))) H) : rNotN x .non H Q := ⟨rfl, k⟩
theorem s_eq (h : scal x y = true) (k : Q (.bl (decide (x = y))) H) : rEqZ K x y H Q := .inl ⟨h, k⟩
theorem s_ne (h : scal x y = true) (k : Q (.bl (!decide (x = y))) H) : rNeZ K x y H Q := .inl ⟨h, k⟩
theorem s_eqI (k : Q (.bl (decide (i = j))) H) : rEqZ K (.int i) (.int j) H Q := by
  refine .inl ⟨rfl, ?_⟩
  have e : decide (V.int i = V.int j) = decide (i = j) := by simp only [V.int.injEq]
  rw [e]
  exact k
theorem s_neI (k : Q (.bl (!decide (i = j))) H) : rNeZ K (.int i) (.int j) H Q := by
  refine .inl ⟨rfl, ?_⟩
  have e : decide (V.int i = V.int j) = decide (i = j) := by simp only [V.int.injEq]
  rw [e]
  exact k
theorem s_eqS (k : Q (.bl (decide (z = z'))) H) : rEqZ K (.str z) (.str z') H Q := by
  refine .inl ⟨rfl, ?_⟩
  have e : decide (V.str z = V.str z') = decide (z = z') := by simp only [V.str.injEq]
  rw [e]
  exact k
theorem s_neS (k : Q (.bl (!decide (z = z'))) H) : rNeZ K (.str z) (.str z') H Q := by
  refine .inl ⟨rfl, ?_⟩
  have e : decide (V.str z = V.str z') = decide (z = z') := by simp only [V.str.injEq]
  rw [e]
  exact k
theorem s_eqD {d e : PyData} (hd : Dp K H x d) (he : Dp K H y e) (h1 : SeqAt.shaped d = true) (h2 : SeqAt.shaped e = true) (k : Q (.bl (PyData.eqv d e)) H) : rEqZ K x y H Q := .inr ⟨d, e, hd, he, h1, h2, k⟩
theorem s_neD {d e : PyData} (hd : Dp K H x d) (he : Dp K H y e) (h1 : SeqAt.shaped d = true) (h2 : SeqAt.shaped e = true) (k : Q (.bl (!PyData.eqv d e)) H) : rNeZ K x y H Q := .inr ⟨d, e, hd, he, h1, h2, k⟩
theorem s_inS {c : Nat} (k : Q (.bl (decide (c ∈ z.cps.toList))) H) : rInS (.str ⟨#[c]⟩) (.str z) H Q := ⟨c, z, rfl, rfl, k⟩
theorem s_notInS {c : Nat} (k : Q (.bl (!decide (c ∈ z.cps.toList))) H) : rNotInS (.str ⟨#[c]⟩) (.str z) H Q := ⟨c, z, rfl, rfl, k⟩
theorem s_inL (S : Sep cs H) (p1 : Pick (pt a (.lst xs)) cs ds) (hx : flatV x = true) (hs : xs.all flatV = true) (k : Q (.bl (inV x xs)) H) : rIn K false x (.ref a) H Q := ⟨a, xs, rfl, .inl (SqL.of (S.get p1)), hx, hs, k⟩
theorem s_notInL (S : Sep cs H) (p1 : Pick (pt a (.lst xs)) cs ds) (hx : flatV x = true) (hs : xs.all flatV = true) (k : Q (.bl (!inV x xs)) H) : rIn K true x (.ref a) H Q := ⟨a, xs, rfl, .inl (SqL.of (S.get p1)), hx, hs, k⟩
theorem s_inT (S : Sep cs H) (p1 : Pick (pt a (.tup xs)) cs ds) (hx : flatV x = true) (hs : xs.all flatV = true) (k : Q (.bl (inV x xs)) H) : rIn K false x (.ref a) H Q := ⟨a, xs, rfl, .inr (SqT.of (S.get p1)), hx, hs, k⟩
theorem s_notInT (S : Sep cs H) (p1 : Pick (pt a (.tup xs)) cs ds) (hx : flatV x = true) (hs : xs.all flatV = true) (k : Q (.bl (!inV x xs)) H) : rIn K true x (.ref a) H Q := ⟨a, xs, rfl, .inr (SqT.of (S.get p1)), hx, hs, k⟩
/-- items by place -/
theorem s_ixL (S : Sep cs H) (p1 : Pick (pt a (.lst xs)) cs ds) (h : atI xs i = some v) (k : Q v H) : rIx K (.ref a) (.int i) H Q := .inl ⟨a, xs, i, v, rfl, rfl, SqL.of (S.get p1), h, k⟩
theorem s_ixQ (S : Sep cs H) (p1 : Pick (sq K a xs) cs ds) (h : atI xs i = some v) (k : Q v H) : rIx K (.ref a) (.int i) H Q := .inl ⟨a, xs, i, v, rfl, rfl, S.sq p1, h, k⟩
theorem s_ixT (S : Sep cs H) (p1 : Pick (pt a (.tup xs)) cs ds) (h : atI xs i = some v) (k : Q v H) : rIx K (.ref a) (.int i) H Q := .inr (.inl ⟨a, xs, i, v, rfl, rfl, SqT.of (S.get p1), h, k⟩)
theorem s_ixS {c : Nat} (h0 : z.length ≤ sizeLine) (h : atI z.cps.toList i = some c) (k : Q (.str ⟨#[c]⟩) H) : rIx K (.str z) (.int i) H Q := .inr (.inr ⟨z, i, c, rfl, rfl, h0, h, k⟩)
/-! tests -/
theorem s_test (k : te σ H fun x H' => ∃ k, x = .bl k ∧ QT k H') : tTest te σ H QT := k
theorem s_tB (k : te σ H fun x H' => ∃ k, x = .bl k ∧ QT k H') : tB te σ H QT := k
theorem s_bl {b : Bool} {R : Bool → Prop} (k : R b) : ∃ c, V.bl b = .bl c ∧ R c := ⟨b, rfl, k⟩
theorem s_tru (k : te σ H fun x H' => ∃ k, TruV K x H' k ∧ QT k H') : tTru K te σ H QT := k
theorem s_truB {b : Bool} {R : Bool → Prop} (k : R b) : ∃ c, TruV K (.bl b) H c ∧ R c := ⟨b, rfl, k⟩
theorem s_truN {R : Bool → Prop} (k : R false) : ∃ c, TruV K .non H c ∧ R c := ⟨false, rfl, k⟩
theorem s_truI {R : Bool → Prop} (k : R (i != 0)) : ∃ c, TruV K (.int i) H c ∧ R c := ⟨_, rfl, k⟩
theorem s_truS {R : Bool → Prop} (h : z.length ≤ sizeLine) (k : R ((z.length : Int) != 0)) : ∃ c, TruV K (.str z) H c ∧ R c := ⟨_, ⟨h, rfl⟩, k⟩
theorem s_truL {R : Bool → Prop} (S : Sep cs H) (p1 : Pick (pt a (.lst xs)) cs ds) (k : R (!xs.isEmpty)) : ∃ c, TruV K (.ref a) H c ∧ R c := ⟨_, .inl ⟨xs, SqL.of (S.get p1), rfl⟩, k⟩
theorem s_truT {R : Bool → Prop} (S : Sep cs H) (p1 : Pick (pt a (.tup xs)) cs ds) (k : R (!xs.isEmpty)) : ∃ c, TruV K (.ref a) H c ∧ R c := ⟨_, .inr (.inl ⟨xs, SqT.of (S.get p1), rfl⟩), k⟩
theorem s_and (k : t σ H fun c H1 => if c = true then u σ H1 QT else QT false H1) : tAnd t u σ H QT := k
theorem s_or (k : t σ H fun c H1 => if c = true then QT true H1 else u σ H1 QT) : tOr t u σ H QT := k
theorem s_not (k : t σ H fun c H1 => QT (!c) H1) : tNot t σ H QT := k
theorem s_andV (k : ta σ H fun x H1 => ∃ c, x = .bl c ∧ if c = true then tb σ H1 Q else Q (.bl false) H1) : tAndV ta tb σ H Q := k
theorem s_orV (k : ta σ H fun x H1 => ∃ c, x = .bl c ∧ if c = true then Q (.bl true) H1 else tb σ H1 Q) : tOrV ta tb σ H Q := k
theorem s_notV (k : ta σ H fun x H1 => ∃ c, x = .bl c ∧ Q (.bl (!c)) H1) : tNotV ta σ H Q := k
theorem s_if (k : t σ H fun c H1 => if c = true then ta σ H1 Q else tb σ H1 Q) : tIf t ta tb σ H Q := k
theorem s_orT (k : ta σ H fun x H1 => ∃ k, TruV K x H1 k ∧ if k = true then Q x H1 else tb σ H1 Q) : tOrT K ta tb σ H Q := k
theorem s_t {A B : Prop} (k : A) : if true = true then A else B := by rw [if_pos rfl]; exact k
theorem s_f {A B : Prop} (k : B) : if false = true then A else B := by rw [if_neg Bool.false_ne_true]; exact k
theorem s_ite {b : Bool} {A B : Prop} (h1 : b = true → A) (h2 : b = false → B) : if b = true then A else B := by
  cases b with
  | true => exact s_t (h1 rfl)
  | false => exact s_f (h2 rfl)
/-! arguments, displays -/
theorem s_nil (k : QA [] H) : tNil σ H QA := k
theorem s_cons (k : ta σ H fun x H1 => tr σ H1 fun xs H2 => QA (x :: xs) H2) : tCons ta tr σ H QA := k
theorem s_tup (k : tr σ H fun xs H1 => NewTup xs Q H1) : tTup tr σ H Q := k
theorem s_lst (k : tr σ H fun xs H1 => NewLst xs Q H1) : tLst tr σ H Q := k
theorem s_newT (h : xs.length ≤ sizeLine) (S : Sep cs H) (k : ∀ p H', Sep (pt p (.tup xs) :: cs) H' → Q (.ref p) H') : NewTup xs Q H := ⟨h, fun p n => k p _ (S.new n)⟩
theorem s_newL (h : xs.length ≤ sizeLine) (S : Sep cs H) (k : ∀ p H', Sep (pt p (.lst xs) :: cs) H' → Q (.ref p) H') : NewLst xs Q H := ⟨h, fun p n => k p _ (S.new n)⟩
/-! statements -/
theorem s_seq (k : t1 { D with nx := t2 D } σ H) : tSeq t1 t2 D σ H := k
theorem s_asg {g : TG} (k : te σ H fun x H1 => g x σ H1 D.nx) : tAsg te g D σ H := k
theorem s_ifS {c : TT} (k : c σ H fun b H1 => if b = true then t1 D σ H1 else t2 D σ H1) : tIfS c t1 t2 D σ H := k
theorem s_ret (k : te σ H D.rt) : tRet te D σ H := k
theorem s_retN (k : D.rt .non H) : tRetN D σ H := k
theorem s_next (k : D.nx σ H) : tNext D σ H := k
theorem s_drop (k : te σ H fun _ H1 => D.nx σ H1) : tDrop te D σ H := k
theorem s_break (k : D.bk σ H) : tBreak D σ H := k
theorem s_cont (k : D.ct σ H) : tCont D σ H := k
theorem s_ipAdd (k : Q (.int (i + j)) H) : ipI (fun i j => i + j) (.int i) (.int j) H Q := ⟨i, j, rfl, rfl, k⟩
/-! targets -/
theorem s_gtup {n : Nat} {g : TGs} {R : St → Hp → Prop} (S : Sep cs H) (p1 : Pick (pt a (.tup xs)) cs ds) (h : xs.length = n) (k : g xs σ H R) : gTup K n g (.ref a) σ H R := ⟨a, xs, rfl, SqT.of (S.get p1), h, k⟩
theorem s_gcons {g : TG} {gs : TGs} {R : St → Hp → Prop} (k : g v σ H fun σ' H' => gs xs σ' H' R) : gCons g gs (v :: xs) σ H R := ⟨v, xs, rfl, k⟩
theorem s_gnil {R : St → Hp → Prop} (k : R σ H) : gNil [] σ H R := ⟨rfl, k⟩
theorem s_gsub {to ti : TE} {r : TSet} {R : St → Hp → Prop} (k : to σ H fun o H1 => ti σ H1 fun i H2 => r o i v H2 fun H3 => R σ H3) : gSub to ti r v σ H R := k
theorem s_setL {n : Nat} {R : Hp → Prop} (S : Sep cs H) (p1 : ∀ cs', Chg (pt a (.lst xs)) (pt a (.lst (xs.set n v))) cs cs' → ∀ H', Sep cs' H' → R H') (g : Chg (pt a (.lst xs)) (pt a (.lst (xs.set n v))) cs cs') (h : ixN xs.length i = some n) : rSetL (.ref a) (.int i) v H R :=
  ⟨a, xs, i, n, rfl, rfl, (let ⟨_, p, _⟩ := g.pick; S.get p), h, p1 _ g _ (S.set g rfl)⟩
/-! fields -/
theorem s_fld {f : Str} (k : ta σ H fun x H1 => FldGet K f x Q H1) : tFld K ta f σ H Q := k
theorem s_fldR {fs : List (Str × V)} {f : Str} (S : Sep cs H) (p1 : Pick (pt a (.ins C dx fs)) cs ds) (hc : Cls K C) (hn : NoAttr K C f) (hl : fs.lookup f = some v) (k : Q v H) : FldGet K f (.ref a) Q H := ⟨a, C, dx, fs, v, rfl, S.get p1, hc, hn, hl, k⟩
theorem s_sfld {tv : TE} {f : Str} (k : tv σ H fun y H1 => ta σ H1 fun x H2 => FldSet K f x y (fun H3 => D.nx σ H3) H2) : sFld K ta tv f D σ H := k
theorem s_sfldR {fs : List (Str × V)} {f : Str} {R : Hp → Prop} (S : Sep cs H) (g : Chg (pt a (.ins C dx fs)) (pt a (.ins C dx (putF f v fs))) cs cs') (hc : Cls K C) (hn : NoAttr K C f) (hl : fs.length < 1000) (k : ∀ H', Sep cs' H' → R H') : FldSet K f (.ref a) v R H :=
  ⟨a, C, dx, fs, rfl, (let ⟨_, p, _⟩ := g.pick; S.get p), hc, hn, hl, k _ (S.set g rfl)⟩
/-! calls -/
theorem s_call {sp : Sp} {E : St → XK} (k : tr σ H fun vs H1 => sp vs H1 Q (E σ)) : tCallS sp E tr σ H Q := k
theorem s_cb {r : List V → Hp → VK → Prop} (k : tr σ H fun vs H1 => r vs H1 Q) : tCB r tr σ H Q := k
theorem s_mt {Cs : List Addr} {m : Str} {sp : Addr → Sp} {E : St → XK} (k : ta σ H fun x H1 => MtGo Cs m x (fun C H1 => tr σ H1 fun vs H2 => sp C (x :: vs) H2 Q (E σ)) H1) : tMt Cs m sp E ta tr σ H Q := k
theorem s_mtR {Cs : List Addr} {m : Str} {fs : List (Str × V)} {R : Addr → Hp → Prop} (S : Sep cs H) (p1 : Pick (pt a (.ins C dx fs)) cs ds) (hC : C ∈ Cs) (hl : fs.lookup m = none) (k : R C H) : MtGo Cs m (.ref a) R H := ⟨a, C, dx, fs, rfl, S.get p1, hC, hl, k⟩
theorem s_mk {sp : Sp} {E : St → XK} (k : tr σ H fun vs H1 => MkGo C sp (E σ) vs Q H1) : tMk C sp E tr σ H Q := k
theorem s_mkR {sp : Sp} {E : XK} {vs : List V} (S : Sep cs H) (k : ∀ x dx H', Sep (pt x (.ins C dx []) :: cs) H' → sp (.ref x :: vs) H' (fun v H2 => v = .non ∧ Q (.ref x) H2) E) : MkGo C sp E vs Q H := fun x dx hx hd ne => by
  refine k x dx _ ((S.new (o := .own x) hd).tail.new ?_)
  rw [upd_ne (Ne.symm ne)]
  exact hx
/-! built-in calls -/
theorem s_lenL (S : Sep cs H) (p1 : Pick (pt a (.lst xs)) cs ds) (k : Q (.int xs.length) H) : rLen K [.ref a] H Q := ⟨_, _, rfl, .inl ⟨xs, SqL.of (S.get p1), rfl⟩, k⟩
theorem s_lenQ (S : Sep cs H) (p1 : Pick (sq K a xs) cs ds) (k : Q (.int xs.length) H) : rLen K [.ref a] H Q := ⟨_, _, rfl, .inl ⟨xs, S.sq p1, rfl⟩, k⟩
theorem s_lenT (S : Sep cs H) (p1 : Pick (pt a (.tup xs)) cs ds) (k : Q (.int xs.length) H) : rLen K [.ref a] H Q := ⟨_, _, rfl, .inr ⟨xs, SqT.of (S.get p1), rfl⟩, k⟩
theorem s_lenS (h : z.length ≤ sizeLine) (k : Q (.int z.length) H) : rLen K [.str z] H Q := ⟨_, _, rfl, ⟨h, rfl⟩, k⟩
theorem s_strI (h : i.natAbs.log2 < 1920) (k : Q (.str (toString i)) H) : rStrI [.int i] H Q := ⟨i, rfl, h, k⟩
theorem s_intI (k : Q (.int i) H) : rInt1 [.int i] H Q := .inl ⟨i, rfl, k⟩
theorem s_intB {b : Bool} (k : Q (.int (if b then 1 else 0)) H) : rInt1 [.bl b] H Q := .inr ⟨b, rfl, k⟩
theorem s_intS (h : PySem.intText? z = some i) (h2 : z.length ≤ 640) (k : Q (.int i) H) : rIntS [.str z] H Q := ⟨z, i, rfl, h, h2, k⟩
/-! methods of built-in types -/
theorem s_bm {T : String} {r : V → List V → Hp → VK → Prop} (k : ta σ H fun x H1 => tyV K T x H1 ∧ tr σ H1 fun xs H2 => r x xs H2 Q) : tBM K T r ta tr σ H Q := k
theorem s_bm0 {T : String} {r : V → List V → Hp → VK → Prop} (k : ta σ H fun x H1 => tyV K T x H1 ∧ r x [] H1 Q) : tBM0 K T r ta σ H Q := k
theorem s_tyL {R : Prop} (S : Sep cs H) (p1 : Pick (pt a (.lst xs)) cs ds) (k : R) : tyV K "list" (.ref a) H ∧ R := ⟨.inl ⟨rfl, _, SqL.of (S.get p1)⟩, k⟩
theorem s_append (S : Sep cs H) (g : Chg (pt a (.lst xs)) (pt a (.lst (xs ++ [v]))) cs cs') (h : xs.length < sizeLine) (k : ∀ H', Sep cs' H' → Q .non H') : rAppend (.ref a) [v] H Q :=
  ⟨a, xs, v, rfl, rfl, (let ⟨_, p, _⟩ := g.pick; S.get p), h, k _ (S.set g rfl)⟩
theorem s_extend (S : Sep cs H) (g : Chg (pt a (.lst xs)) (pt a (.lst (xs ++ ys))) cs cs') (p1 : Pick (pt b (.lst ys)) cs ds) (h : xs.length + ys.length ≤ sizeLine) (k : ∀ H', Sep cs' H' → Q .non H') : rExtend (.ref a) [.ref b] H Q :=
  ⟨a, b, xs, ys, rfl, rfl, (let ⟨_, p, _⟩ := g.pick; S.get p), S.get p1, h, k _ (S.set g rfl)⟩
end
end L2.Zs
namespace L2.Zs
open PySem PySem.Spec PyProof.Rows
inductive SetAt : St → Nat → V → St → Prop
  | here {x σ v} : SetAt (x :: σ) 0 v (some v :: σ)
  | there {x σ i v σ'} : SetAt σ i v σ' → SetAt (x :: σ) (i + 1) v (x :: σ')
theorem SetAt.eq {σ σ' : St} {i : Nat} {v : V} (h : SetAt σ i v σ') : σ.set i (some v) = σ' := by
  induction h with
  | here => rfl
  | there h ih => simp only [List.set_cons_succ, ih]
section
variable {K : PySem.W.Frag} {σ σ' : St} {H : Hp} {Q : VK} {v x y : V} {ta tb tc te : TE} {t u : TT} {a b c p q C dx : Addr} {cs ds cs' : List As} {D : Ends} {t1 t2 tB : TS} {QA : List V → Hp → Prop} {QT : Bool → Hp → Prop} {tr : TA} {xs ys : List V} {i j : Int} {z z' : Str} {g : TG}
theorem s_name {i : Nat} {R : St → Hp → Prop} (h : SetAt σ i v σ') (k : R σ' H) : gName i v σ H R := by
  show R (σ.set i (some v)) H
  rw [h.eq]
  exact k
theorem s_aug {i : Nat} {ti : TIp} (h : σ[i]? = some (some x)) (k : te σ H fun y H1 => ti x y H1 fun z H2 => gName i z σ H2 D.nx) : tAug i te ti D σ H := ⟨x, h, k⟩
theorem s_neg (k : Q (.int (-i)) H) : rU (fun i => .int (-i)) (.int i) H Q := ⟨i, rfl, k⟩
theorem cmul_l (h : -(2 ^ 64) < i ∧ i < 2 ^ 64) : CMul i j := .inl h
theorem cmul_r (h : -(2 ^ 64) < j ∧ j < 2 ^ 64) : CMul i j := .inr h
theorem cdiv_of (h : 0 < j) (h2 : j.natAbs.log2 < 9000) : CDivW i j := ⟨h, h2⟩
theorem cpow_of (h : 0 ≤ j) (h1 : j ≤ 1000000) (h2 : i.natAbs < 2 ^ 64) : CPow i j := ⟨h, h1, h2⟩
/-- a loop by its turns -/
def Lp (J : It) (g : TG) (tb : TS) (D : Ends) (σ : St) (H : Hp) : Prop := ∃ W : Nat → Nat → St → Hp → Prop, (∃ m, W 0 m σ H) ∧ ∀ i m σ H, W i m σ H →
  (J.stop i H ∧ D.nx σ H) ∨ (J.go i H ∧ ∃ N : St → Hp → Prop, (∀ σ' H', N σ' H' → ∃ m', m' < m ∧ W (i + 1) m' σ' H') ∧ ∀ x H', J.yld i H x H' → g x σ H' fun σ2 H2 => tb { D with nx := N, ct := N, bk := D.nx } σ2 H2)
theorem s_forR1 (k : tr σ H fun vs H1 => ∃ j : Int, vs = [.int j] ∧ -(2 ^ 62) ≤ j ∧ j < 2 ^ 62 ∧ Lp (Itr 0 j.toNat) g tB D σ H1) : tFor (iRng1 tr) g tB D σ H := k
theorem s_rng1 (h0 : 0 ≤ j) (h1 : j < 2 ^ 62) (k : Lp (Itr 0 j.toNat) g tB D σ H) : ∃ j' : Int, [V.int j] = [.int j'] ∧ -(2 ^ 62) ≤ j' ∧ j' < 2 ^ 62 ∧ Lp (Itr 0 j'.toNat) g tB D σ H := ⟨j, rfl, by omega, h1, k⟩
theorem s_forL (k : te σ H fun x H1 => ∃ a, x = .ref a ∧ (∃ xs, SqL K H1 a xs) ∧ Lp (Itl K a) g tB D σ H1) : tFor (iList K te) g tB D σ H := k
theorem s_list (S : Sep cs H) (p : Pick (pt a (.lst xs)) cs ds) (k : Lp (Itl K a) g tB D σ H) : ∃ a', V.ref a = .ref a' ∧ (∃ xs, SqL K H a' xs) ∧ Lp (Itl K a') g tB D σ H := ⟨a, rfl, ⟨xs, SqL.of (S.get p)⟩, k⟩
theorem lp_range {n : Nat} (Pv : Nat → St → Hp → Prop) (h0 : Pv 0 σ H) (hs : ∀ i σ H, i < n → Pv i σ H → g (.int (i : Nat)) σ H fun σ2 H2 => tB { D with nx := Pv (i + 1), ct := Pv (i + 1), bk := D.nx } σ2 H2) (hd : ∀ σ H, Pv n σ H → D.nx σ H) :
    Lp (Itr 0 n) g tB D σ H := for_range Pv h0 (fun i σ H hi p => by
      have := hs i σ H hi p
      rw [Int.zero_add]
      exact this) hd
theorem lp_list (Pv : Nat → St → Hp → Prop) (h0 : Pv 0 σ H) (hl : ∀ i σ H, i ≤ xs.length → Pv i σ H → SqL K H a xs)
    (hs : ∀ i x σ H, xs[i]? = some x → Pv i σ H → g x σ H fun σ2 H2 => tB { D with nx := Pv (i + 1), ct := Pv (i + 1), bk := D.nx } σ2 H2) (hd : ∀ σ H, Pv xs.length σ H → D.nx σ H) :
    Lp (Itl K a) g tB D σ H := for_list Pv h0 hl hs hd
theorem s_start {t : TS} {σ0 : St} (h : σ0 = σ) (k : t D σ H) : t D σ0 H := by rw [h]; exact k
/-- a new instance, its fields to come -/
theorem atI_of {α : Type} {xs : List α} {i : Int} {v : α} (h0 : 0 ≤ i) (h : xs[i.toNat]? = some v) : atI xs i = some v := by
  have := atI_nat h
  rwa [Int.toNat_of_nonneg h0] at this
theorem ixN_of {n : Nat} {i : Int} (h0 : 0 ≤ i) (h1 : i < n) : ixN n i = some i.toNat := by
  unfold ixN
  rw [if_pos h0, if_pos h1]
theorem atI_lt {α : Type} {xs : List α} {i : Int} (h0 : 0 ≤ i) (h1 : i < xs.length) : ∃ v, atI xs i = some v ∧ v ∈ xs ∧ xs[i.toNat]? = some v := by
  have h : i.toNat < xs.length := by omega
  exact ⟨xs[i.toNat], atI_of h0 (List.getElem?_eq_getElem h), List.getElem_mem h, List.getElem?_eq_getElem h⟩
end
/-! ## draws -/
/-- what the law's cells are -/
def spCell (K : PySem.W.Frag) : Sp := fun vs H Q _ => ∃ (a : Addr) (ns : List Int) (k : Int) (cs : List As), vs = [.ref a, .int k] ∧ Sep (sq K a (ns.map V.int) :: cs) H ∧ 0 ≤ k ∧ ∀ z, Q (.int z) H
theorem len_cell {K vs H Q E} (h : spCell K vs H Q E) : vs.length = 2 := by obtain ⟨a, ns, k, cs, rfl, _⟩ := h; rfl
/-- a row of draws below base -/
def spDraws (K : PySem.W.Frag) : Sp := fun vs H Q _ => ∃ (a : Addr) (ns : List Int) (k many base : Int) (cs : List As), vs = [.ref a, .int k, .int many, .int base] ∧ Sep (sq K a (ns.map V.int) :: cs) H ∧ 0 ≤ k ∧ k < 1000000 ∧ 0 ≤ many ∧ many < 1000000 ∧ CDivW 0 base ∧
  ∀ (row : List Int) (p : Addr) (H' : Hp), (row.length : Int) = many → (∀ r ∈ row, 0 ≤ r ∧ r < base) → Sep (pt p (.lst (row.map V.int)) :: sq K a (ns.map V.int) :: cs) H' → Q (.ref p) H'
theorem len_draws {K vs H Q E} (h : spDraws K vs H Q E) : vs.length = 4 := by obtain ⟨a, ns, k, many, base, cs, rfl, _⟩ := h; rfl

theorem s_ifd {p A B : Prop} [Decidable p] (h1 : p → A) (h2 : ¬ p → B) : if decide p = true then A else B := by
  by_cases h : p
  · rw [decide_eq_true h]; exact s_t (h1 h)
  · rw [decide_eq_false h]; exact s_f (h2 h)
theorem s_ifn {p A B : Prop} [Decidable p] (h1 : ¬ p → A) (h2 : p → B) : if (!decide p) = true then A else B := by
  by_cases h : p
  · rw [decide_eq_true h]; exact s_f (h2 h)
  · rw [decide_eq_false h]; exact s_t (h1 h)

theorem atI_int {ns : List Int} {i : Int} (h0 : 0 ≤ i) (h1 : i < ns.length) : ∃ z, z ∈ ns ∧ atI (ns.map V.int) i = some (.int z) ∧ ns[i.toNat]? = some z := by
  have h : i.toNat < ns.length := by omega
  refine ⟨ns[i.toNat], List.getElem_mem h, atI_of h0 ?_, List.getElem?_eq_getElem h⟩
  rw [List.getElem?_map, List.getElem?_eq_getElem h]
  rfl
def prL : List Int := [2147483647, 2147483629, 2147483587, 2147483579, 2147483563, 2147483549, 2147483543, 2147483497]
theorem prL_ok : ∀ p ∈ prL, 0 < p ∧ p < 2147483648 := by decide
theorem prL_at (i : Int) : ∃ z, (0 < z ∧ z < 2147483648) ∧ atI (prL.map V.int) (i % 8) = some (.int z) := by
  obtain ⟨z, h, e, _⟩ := atI_int (ns := prL) (i := i % 8) (Int.emod_nonneg _ (by decide)) (Int.emod_lt_of_pos _ (by decide))
  exact ⟨z, prL_ok z h, e⟩
theorem emod_in (x : Int) {p : Int} (h : 0 < p) : 0 ≤ x % p ∧ x % p < p := ⟨Int.emod_nonneg _ (by omega), Int.emod_lt_of_pos _ h⟩

/-- two ways meet: M holds where they meet -/
theorem s_cut {t1 t2 : TS} {D : Ends} {σ : St} {H : Hp} (M : St → Hp → Prop) (h2 : ∀ σ H, M σ H → t2 D σ H) (h1 : ∀ N : St → Hp → Prop, (∀ σ H, M σ H → N σ H) → t1 { D with nx := N } σ H) : tSeq t1 t2 D σ H := h1 _ h2

section
variable {t2 : TS} {D : Ends} {σ : St} {H : Hp} {te ta tv : TE} {g : TG} {wi : TI} {tb : TS} {K : PySem.W.Frag} {f : Str}
theorem s_seqA (k : tAsg te g { D with nx := t2 D } σ H) : tSeq (tAsg te g) t2 D σ H := k
theorem s_seqD (k : tDrop te { D with nx := t2 D } σ H) : tSeq (tDrop te) t2 D σ H := k
theorem s_seqF (k : tFor wi g tb { D with nx := t2 D } σ H) : tSeq (tFor wi g tb) t2 D σ H := k
theorem s_seqS (k : sFld K ta tv f { D with nx := t2 D } σ H) : tSeq (sFld K ta tv f) t2 D σ H := k
theorem s_nxI {f : St → Hp → Prop} {rt : VK} {bk ct : St → Hp → Prop} (k : f σ H) : (Ends.mk f rt bk ct).nx σ H := k
theorem s_ctI {f : St → Hp → Prop} {rt : VK} {bk ct : St → Hp → Prop} (k : ct σ H) : (Ends.mk f rt bk ct).ct σ H := k
theorem s_bkI {f : St → Hp → Prop} {rt : VK} {bk ct : St → Hp → Prop} (k : bk σ H) : (Ends.mk f rt bk ct).bk σ H := k
theorem s_seqR (k : tRet te { D with nx := t2 D } σ H) : tSeq (tRet te) t2 D σ H := k
end
end L2.Zs
namespace L2.Zs
open PySem PySem.Spec PyProof.Rows
/-- a follows from b, by a reading's shape -/
class Stp (a : Prop) (b : outParam Prop) : Prop where
  go : b → a
class AtS (σ : St) (i : Nat) (v : outParam V) : Prop where
  at_ : σ[i]? = some (some v)
instance {σ : St} {v : V} : AtS (some v :: σ) 0 v := ⟨rfl⟩
instance {σ : St} {x : Option V} {i : Nat} {v : V} [h : AtS σ i v] : AtS (x :: σ) (i + 1) v := ⟨h.at_⟩
class PutS (σ : St) (i : Nat) (v : V) (σ' : outParam St) : Prop where
  put : SetAt σ i v σ'
instance {σ : St} {v : V} {x : Option V} : PutS (x :: σ) 0 v (some v :: σ) := ⟨.here⟩
instance {σ σ' : St} {x : Option V} {i : Nat} {v : V} [h : PutS σ i v σ'] : PutS (x :: σ) (i + 1) v (x :: σ') := ⟨.there h.put⟩
section
variable {K : PySem.W.Frag} {σ σ' : St} {H : Hp} {Q : VK} {v x y : V} {ta tb tc te tv : TE} {t u : TT} {a b c p q C dx : Addr} {cs ds cs' : List As} {D : Ends} {t1 t2 tBd : TS} {QA : List V → Hp → Prop} {QT : Bool → Hp → Prop} {tr : TA} {xs ys : List V} {i j : Int} {z z' : Str} {g : TG}
instance : Stp (tSeq (tAsg te g) t2 D σ H) (tAsg te g { D with nx := t2 D } σ H) := ⟨id⟩
instance : Stp (tSeq (tDrop te) t2 D σ H) (tDrop te { D with nx := t2 D } σ H) := ⟨id⟩
instance {wi : TI} : Stp (tSeq (tFor wi g tBd) t2 D σ H) (tFor wi g tBd { D with nx := t2 D } σ H) := ⟨id⟩
instance {f : PySem.Str} : Stp (tSeq (sFld K ta tv f) t2 D σ H) (sFld K ta tv f { D with nx := t2 D } σ H) := ⟨id⟩
instance : Stp (tSeq (tRet te) t2 D σ H) (tRet te { D with nx := t2 D } σ H) := ⟨id⟩
instance {i : Nat} {ti : TIp} : Stp (tSeq (tAug i te ti) t2 D σ H) (tAug i te ti { D with nx := t2 D } σ H) := ⟨id⟩
instance {tk : TE} : Stp (tSeq (sDPut ta tk tv) t2 D σ H) (sDPut ta tk tv { D with nx := t2 D } σ H) := ⟨id⟩
instance {tk : TE} {rd : V → V → Hp → VK → Prop} : Stp (tSeq (sDAug ta tk tv rd) t2 D σ H) (sDAug ta tk tv rd { D with nx := t2 D } σ H) := ⟨id⟩
instance {to ti : TE} {tg : V → V → Hp → VK → Prop} {tip : TIp} {ts : TSet} : Stp (tSeq (tAugS to ti te tg tip ts) t2 D σ H) (tAugS to ti te tg tip ts { D with nx := t2 D } σ H) := ⟨id⟩
instance {f : St → Hp → Prop} {rt : VK} {bk ct : St → Hp → Prop} : Stp ((Ends.mk f rt bk ct).nx σ H) (f σ H) := ⟨id⟩
instance {f : St → Hp → Prop} {rt : VK} {bk ct : St → Hp → Prop} : Stp ((Ends.mk f rt bk ct).ct σ H) (ct σ H) := ⟨id⟩
instance {f : St → Hp → Prop} {rt : VK} {bk ct : St → Hp → Prop} : Stp ((Ends.mk f rt bk ct).bk σ H) (bk σ H) := ⟨id⟩
instance {f : St → Hp → Prop} {rt : VK} {bk ct : St → Hp → Prop} : Stp ((Ends.mk f rt bk ct).rt v H) (rt v H) := ⟨id⟩
instance : Stp (tAsg te g D σ H) (te σ H fun x H1 => g x σ H1 D.nx) := ⟨id⟩
instance {i : Nat} {R : St → Hp → Prop} [h : PutS σ i v σ'] : Stp (gName i v σ H R) (R σ' H) := ⟨s_name h.put⟩
instance {i : Nat} [h : AtS σ i v] : Stp (tVar i σ H Q) (Q v H) := ⟨s_var h.at_⟩
instance : Stp (tC v σ H Q) (Q v H) := ⟨id⟩
instance {r : R2} : Stp (tOp r ta tb σ H Q) (ta σ H fun x H1 => tb σ H1 fun y H2 => r x y H2 Q) := ⟨id⟩
instance {r : V → Hp → VK → Prop} : Stp (tUn r ta σ H Q) (ta σ H fun x H1 => r x H1 Q) := ⟨id⟩
instance : Stp (rAddZ (.int i) (.int j) H Q) (Q (.int (i + j)) H) := ⟨s_addI⟩
instance : Stp (rSubI (.int i) (.int j) H Q) (Q (.int (i - j)) H) := ⟨s_sub⟩
instance : Stp (rLt (.int i) (.int j) H Q) (Q (.bl (decide (i < j))) H) := ⟨s_lt⟩
instance : Stp (rLe (.int i) (.int j) H Q) (Q (.bl (decide (i ≤ j))) H) := ⟨s_le⟩
instance : Stp (rGt (.int i) (.int j) H Q) (Q (.bl (decide (j < i))) H) := ⟨s_gt⟩
instance : Stp (rGe (.int i) (.int j) H Q) (Q (.bl (decide (j ≤ i))) H) := ⟨s_ge⟩
instance : Stp (rIsN x .non H Q) (Q (.bl (decide (x = .non))) H) := ⟨s_isN⟩
instance : Stp (rNotN x .non H Q) (Q (.bl (!decide (x = .non))) H) := ⟨s_notN⟩
instance : Stp (rEqZ K (.int i) (.int j) H Q) (Q (.bl (decide (i = j))) H) := ⟨s_eqI⟩
instance : Stp (rNeZ K (.int i) (.int j) H Q) (Q (.bl (!decide (i = j))) H) := ⟨s_neI⟩
instance : Stp (rEqZ K (.str z) (.str z') H Q) (Q (.bl (decide (z = z'))) H) := ⟨s_eqS⟩
instance : Stp (rNeZ K (.str z) (.str z') H Q) (Q (.bl (!decide (z = z'))) H) := ⟨s_neS⟩
instance {c : Nat} : Stp (rInS (.str ⟨#[c]⟩) (.str z) H Q) (Q (.bl (decide (c ∈ z.cps.toList))) H) := ⟨s_inS⟩
instance {c : Nat} : Stp (rNotInS (.str ⟨#[c]⟩) (.str z) H Q) (Q (.bl (!decide (c ∈ z.cps.toList))) H) := ⟨s_notInS⟩
instance : Stp (rU (fun i => .int (-i)) (.int i) H Q) (Q (.int (-i)) H) := ⟨s_neg⟩
instance {c : TT} : Stp (tIfS c t1 t2 D σ H) (c σ H fun b H1 => if b = true then t1 D σ H1 else t2 D σ H1) := ⟨id⟩
instance : Stp (tTest te σ H QT) (te σ H fun x H' => ∃ k, x = .bl k ∧ QT k H') := ⟨id⟩
instance : Stp (tB te σ H QT) (te σ H fun x H' => ∃ k, x = .bl k ∧ QT k H') := ⟨id⟩
instance : Stp (tTru K te σ H QT) (te σ H fun x H' => ∃ k, TruV K x H' k ∧ QT k H') := ⟨id⟩
instance {b : Bool} {R : Bool → Prop} : Stp (∃ c, V.bl b = .bl c ∧ R c) (R b) := ⟨s_bl⟩
instance {b : Bool} {R : Bool → Prop} : Stp (∃ c, TruV K (.bl b) H c ∧ R c) (R b) := ⟨s_truB⟩
instance {R : Bool → Prop} : Stp (∃ c, TruV K .non H c ∧ R c) (R false) := ⟨s_truN⟩
instance {R : Bool → Prop} : Stp (∃ c, TruV K (.int i) H c ∧ R c) (R (i != 0)) := ⟨s_truI⟩
instance : Stp (tAnd t u σ H QT) (t σ H fun c H1 => if c = true then u σ H1 QT else QT false H1) := ⟨id⟩
instance : Stp (tOr t u σ H QT) (t σ H fun c H1 => if c = true then QT true H1 else u σ H1 QT) := ⟨id⟩
instance : Stp (tNot t σ H QT) (t σ H fun c H1 => QT (!c) H1) := ⟨id⟩
instance : Stp (tAndV ta tb σ H Q) (ta σ H fun x H1 => ∃ c, x = .bl c ∧ if c = true then tb σ H1 Q else Q (.bl false) H1) := ⟨id⟩
instance : Stp (tOrV ta tb σ H Q) (ta σ H fun x H1 => ∃ c, x = .bl c ∧ if c = true then Q (.bl true) H1 else tb σ H1 Q) := ⟨id⟩
instance : Stp (tNotV ta σ H Q) (ta σ H fun x H1 => ∃ c, x = .bl c ∧ Q (.bl (!c)) H1) := ⟨id⟩
instance : Stp (tNotT K ta σ H Q) (ta σ H fun x H1 => ∃ k, TruV K x H1 k ∧ Q (.bl (!k)) H1) := ⟨id⟩
instance : Stp (tIf t ta tb σ H Q) (t σ H fun c H1 => if c = true then ta σ H1 Q else tb σ H1 Q) := ⟨id⟩
instance : Stp (tOrT K ta tb σ H Q) (ta σ H fun x H1 => ∃ k, TruV K x H1 k ∧ if k = true then Q x H1 else tb σ H1 Q) := ⟨id⟩
instance : Stp (tAndT K ta tb σ H Q) (ta σ H fun x H1 => ∃ k, TruV K x H1 k ∧ if k = true then tb σ H1 Q else Q x H1) := ⟨id⟩
instance {A B : Prop} : Stp (if true = true then A else B) A := ⟨s_t⟩
instance {A B : Prop} : Stp (if false = true then A else B) B := ⟨s_f⟩
instance : Stp (tNil σ H QA) (QA [] H) := ⟨id⟩
instance : Stp (tCons ta tr σ H QA) (ta σ H fun x H1 => tr σ H1 fun xs H2 => QA (x :: xs) H2) := ⟨id⟩
instance : Stp (tTup tr σ H Q) (tr σ H fun xs H1 => NewTup xs Q H1) := ⟨id⟩
instance : Stp (tLst tr σ H Q) (tr σ H fun xs H1 => NewLst xs Q H1) := ⟨id⟩
instance : Stp (tRet te D σ H) (te σ H D.rt) := ⟨id⟩
instance : Stp (tRetN D σ H) (D.rt .non H) := ⟨id⟩
instance : Stp (tNext D σ H) (D.nx σ H) := ⟨id⟩
instance : Stp (tDrop te D σ H) (te σ H fun _ H1 => D.nx σ H1) := ⟨id⟩
instance : Stp (tCont D σ H) (D.ct σ H) := ⟨id⟩
instance : Stp (tBreak D σ H) (D.bk σ H) := ⟨id⟩
instance {r : List V → Hp → VK → Prop} : Stp (tCB r tr σ H Q) (tr σ H fun vs H1 => r vs H1 Q) := ⟨id⟩
instance {sp : Sp} {E : St → XK} : Stp (tCallS sp E tr σ H Q) (tr σ H fun vs H1 => sp vs H1 Q (E σ)) := ⟨id⟩
instance {Cs : List Addr} {m : PySem.Str} {sp : Addr → Sp} {E : St → XK} : Stp (tMt Cs m sp E ta tr σ H Q) (ta σ H fun x H1 => MtGo Cs m x (fun C H1 => tr σ H1 fun vs H2 => sp C (x :: vs) H2 Q (E σ)) H1) := ⟨id⟩
instance {sp : Sp} {E : St → XK} : Stp (tMk C sp E tr σ H Q) (tr σ H fun vs H1 => MkGo C sp (E σ) vs Q H1) := ⟨id⟩
instance {T : String} {r : V → List V → Hp → VK → Prop} : Stp (tBM K T r ta tr σ H Q) (ta σ H fun x H1 => tyV K T x H1 ∧ tr σ H1 fun xs H2 => r x xs H2 Q) := ⟨id⟩
instance {T : String} {r : V → List V → Hp → VK → Prop} : Stp (tBM0 K T r ta σ H Q) (ta σ H fun x H1 => tyV K T x H1 ∧ r x [] H1 Q) := ⟨id⟩
instance {to ti : TE} {r : TSet} {R : St → Hp → Prop} : Stp (gSub to ti r v σ H R) (to σ H fun o H1 => ti σ H1 fun i H2 => r o i v H2 fun H3 => R σ H3) := ⟨id⟩
instance {gs : TGs} {R : St → Hp → Prop} : Stp (gCons g gs (v :: xs) σ H R) (g v σ H fun σ' H' => gs xs σ' H' R) := ⟨s_gcons⟩
instance {R : St → Hp → Prop} : Stp (gNil [] σ H R) (R σ H) := ⟨s_gnil⟩
instance {i : Nat} {ti : TIp} [h : AtS σ i x] : Stp (tAug i te ti D σ H) (te σ H fun y H1 => ti x y H1 fun z H2 => gName i z σ H2 D.nx) := ⟨s_aug h.at_⟩
instance : Stp (ipI (fun i j => i + j) (.int i) (.int j) H Q) (Q (.int (i + j)) H) := ⟨s_ipAdd⟩
instance {f : PySem.Str} : Stp (tFld K ta f σ H Q) (ta σ H fun x H1 => FldGet K f x Q H1) := ⟨id⟩
instance {f : PySem.Str} : Stp (sFld K ta tv f D σ H) (tv σ H fun y H1 => ta σ H1 fun x H2 => FldSet K f x y (fun H3 => D.nx σ H3) H2) := ⟨id⟩
instance : Stp (tFor (iRng1 tr) g tBd D σ H) (tr σ H fun vs H1 => ∃ j : Int, vs = [.int j] ∧ -(2 ^ 62) ≤ j ∧ j < 2 ^ 62 ∧ Lp (Itr 0 j.toNat) g tBd D σ H1) := ⟨id⟩
instance : Stp (tFor (iList K te) g tBd D σ H) (te σ H fun x H1 => ∃ a, x = .ref a ∧ (∃ xs, SqL K H1 a xs) ∧ Lp (Itl K a) g tBd D σ H1) := ⟨id⟩
instance : Stp (rInt1 [.int i] H Q) (Q (.int i) H) := ⟨s_intI⟩
instance {b : Bool} : Stp (rInt1 [.bl b] H Q) (Q (.int (if b then 1 else 0)) H) := ⟨s_intB⟩
instance {to ti : TE} {tg : V → V → Hp → VK → Prop} {tip : TIp} {ts : TSet} : Stp (tAugS to ti te tg tip ts D σ H) (to σ H fun o H1 => ti σ H1 fun i H2 => tg o i H2 fun x H3 => te σ H3 fun y H4 => tip x y H4 fun z H5 => ts o i z H5 fun H6 => D.nx σ H6) := ⟨id⟩
end
end L2.Zs
namespace L2.Zs
open PySem PySem.Spec PyProof.Rows
/-! ## the rules that name the written part -/
section
variable {X : Cx} {K : PySem.W.Frag}
theorem k_eq (hK : X.K = K) (hu : X.A.units + 64 < cLine) : OpR X (compareOp .Eq) (rEqZ K) := hK ▸ zo_eq hu
theorem k_ne (hK : X.K = K) (hu : X.A.units + 64 < cLine) : OpR X (compareOp .NotEq) (rNeZ K) := hK ▸ zo_ne hu
theorem k_inQ (hK : X.K = K) : OpR X (compareOp .In) (rIn K false) := hK ▸ zo_inQ
theorem k_notInQ (hK : X.K = K) : OpR X (compareOp .NotIn) (rIn K true) := hK ▸ zo_notInQ
theorem k_ix (hK : X.K = K) : IxR X (rIx K) := hK ▸ ix_seq
theorem k_len (hK : X.K = K) : CallR X (.builtin "len") (rLen K) := hK ▸ z_len
theorem k_isi (hK : X.K = K) : CallR X (.builtin "isinstance") (rIsi K) := hK ▸ call_isi
theorem k_isiT (hK : X.K = K) : CallR X (.builtin "isinstance") (rIsiT K) := hK ▸ call_isiT
theorem k_slL (hK : X.K = K) : SlR X (rSlL K) := hK ▸ sl_list
theorem k_slT (hK : X.K = K) : SlR X (rSlT K) := hK ▸ sl_tup
def rListOf (K : PySem.W.Frag) : List V → Hp → VK → Prop := fun xs H Q => ∃ p ys, xs = [.ref p] ∧ (SqL K H p ys ∨ SqT K H p ys) ∧ ∀ l, H l = none → Q (.ref l) (upd H l (.lst ys))
theorem k_listOf (hK : X.K = K) : CallR X (.type "list") (rListOf K) := hK ▸ call_list_of
theorem k_tru {a : Expr} {ta : TE} (hK : X.K = K) (ha : PE X a ta) (he : ∀ whole, isTrue a X.env whole = (do let v ← whole; standAt a.pos; holding [v] (truthy v)) := by intro _; rfl) : PT X a (tTru K ta) := hK ▸ pt_truth ha he
theorem k_fld {e : Expr} {ta : TE} {f : PySem.Str} {pos : Pos} (hK : X.K = K) (he : PE X e ta) (hb : attributeBase e f X.env (eval e X.env) = eval e X.env) : PE X (.Attribute e f pos) (tFld K ta f) := hK ▸ pe_fld he hb
theorem k_sfld {o value : Expr} {ta tv : TE} {f : PySem.Str} {pos pos' : Pos} (hK : X.K = K) (ha : PE X o ta) (hv : PE X value tv) (hs : swapsWith value (some (.Attribute o f pos')) pos.line X.env = pure false) : PS X (.Assign [.Attribute o f pos'] value pos) (sFld K ta tv f) := hK ▸ ps_fld ha hv hs
theorem k_fldaug {o value : Expr} {ta tv : TE} {f : PySem.Str} {pos tpos : Pos} {op : Operator} {rd : V → V → Hp → VK → Prop} (hK : X.K = K) (ha : PE X o ta) (hv : PE X value tv) (hop : InOp X op rd) : PS X (.AugAssign (.Attribute o f tpos) op value pos) (sFldAug K ta tv rd f) := hK ▸ ps_fldaug ha hv hop
theorem k_list {tg l : Expr} {tl : TE} (hK : X.K = K) (hl : PE X l tl) : PI X tg l (iList K tl) := hK ▸ pi_list hl
theorem k_tup {tg l : Expr} {tl : TE} (hK : X.K = K) (hl : PE X l tl) : PI X tg l (iTup K tl) := hK ▸ pi_tup hl
theorem k_enum {e : Expr} {ta : TA} {p pos tpos : Pos} {elts : List Expr} {kk : Nat} (hK : X.K = K) (hg : Gl X "enumerate") (hm : X.mg "enumerate" = none) (ha : PA X [e] ta) (hs : starEach [e] X.env = [(false, eval e X.env)] := by rfl) :
    PI X (.Tuple elts kk tpos) (.Call (.Name "enumerate" p) [e] [] pos) (iEnum K ta) := hK ▸ pi_enum hg hm ha hs
theorem k_zip {e e2 : Expr} {ta : TA} {p pos tpos : Pos} {elts : List Expr} {kk : Nat} (hK : X.K = K) (hg : Gl X "zip") (hm : X.mg "zip" = none) (ha : PA X [e, e2] ta)
    (hs : starEach [e, e2] X.env = (false, eval e X.env) :: starEach [e2] X.env := by rfl) (hpl : (backTo pos (starEach [e2] X.env)).any (·.1) = false := by rfl) :
    PI X (.Tuple elts kk tpos) (.Call (.Name "zip" p) [e, e2] [] pos) (iZip K ta) := hK ▸ pi_zip hg hm ha hs hpl
theorem k_gtup {es : List Expr} {kk : Nat} {t : TGs} {n : Nat} {pos : Pos} (hK : X.K = K) (hc : X.calm = true) (h : PGs X es t)
    (hn : (assignEach es X.env).length = n := by rfl) (hst : (assignEach es X.env).findIdx? (·.1) = none := by rfl) : PG X (.Tuple es kk pos) (gTup K n t) := hK ▸ pg_tup hc h hn hst
theorem k_tupleOf {a : Expr} {ta : TE} {p pos : Pos} (hK : X.K = K) (hg : Gl X "tuple") (hm : X.mg "tuple" = none) (ha : PE X a ta) (na : starEach [a] X.env = (false, eval a X.env) :: starEach [] X.env := by rfl) :
    PE X (.Call (.Name "tuple" p) [a] [] pos) (tThen ta (kTup K)) := hK ▸ pe_tupleOf hg hm ha na
theorem k_orT {a b : Expr} {rest : List Expr} {ta tb : TE} {pos : Pos} (hK : X.K = K) (ha : PE X a ta) (hb : PE X (.BoolOp .Or (b :: rest) pos) tb) : PE X (.BoolOp .Or (a :: b :: rest) pos) (tOrT K ta tb) := hK ▸ pe_orT ha hb
theorem k_andT {a b : Expr} {rest : List Expr} {ta tb : TE} {pos : Pos} (hK : X.K = K) (ha : PE X a ta) (hb : PE X (.BoolOp .And (b :: rest) pos) tb) : PE X (.BoolOp .And (a :: b :: rest) pos) (tAndT K ta tb) := hK ▸ pe_andT ha hb
theorem k_notT {a : Expr} {ta : TE} {pos : Pos} (hK : X.K = K) (ha : PE X a ta) : PE X (.UnaryOp .Not a pos) (tNotT K ta) := hK ▸ pe_notT ha
section
variable {T id : String} {name : PySem.Str} {r : V → List V → Hp → VK → Prop} {o e : Expr} {es : List Expr} {to : TE} {t : TA} {apos cpos : Pos}
theorem k_bm0 (hK : X.K = K) (pa : PlainAttrs T) (slot : Slot T name id) (hty : typeOf (.builtin id) = pure (.type "method_descriptor")) (hm : MtR X id r) (ho : PE X o to)
    (hbase : attributeBase o name X.env (eval o X.env) = eval o X.env := by rfl) (hline : (apos.endLine == cpos.line) = true := by rfl) : PE X (.Call (.Attribute o name apos) [] [] cpos) (tBM0 K T r to) := hK ▸ pe_bm0 pa slot hty hm ho hbase hline
theorem k_bm (hK : X.K = K) (pa : PlainAttrs T) (slot : Slot T name id) (hty : typeOf (.builtin id) = pure (.type "method_descriptor")) (hm : MtR X id r) (ho : PE X o to) (ha : PA X (e :: es) t)
    (hbase : attributeBase o name X.env (eval o X.env) = eval o X.env := by rfl)
    (hfew : ((backTo cpos (starEach (e :: es) X.env)).all (fun x => !x.1) && (backToKw cpos (keywordEach [] X.env)).all (fun x => x.1.isSome)
      && decide ((e :: es).length + ([] : List Keyword).length + (if ([] : List Keyword).isEmpty then 0 else 1) < 30)) = true := by rfl)
    (hline : (apos.endLine == cpos.line) = true := by rfl) (hs : starEach (e :: es) X.env = (false, eval e X.env) :: starEach es X.env := by rfl) (hplain : (backTo cpos (starEach es X.env)).any (·.1) = false := by rfl) :
    PE X (.Call (.Attribute o name apos) (e :: es) [] cpos) (tBM K T r to t) := hK ▸ pe_bm pa slot hty hm ho ha hbase hfew hline hs hplain
end
theorem z_append : MtR X "list.append" rAppend := mt_append
theorem z_extend : MtR X "list.extend" rExtend := mt_extend
theorem z_pop : MtR X "list.pop" rPop := mt_pop
theorem z_popAt : MtR X "list.pop" rPopAt := mt_popAt
theorem z_remove : MtR X "list.remove" rRemI := mt_remove
theorem k_index (hK : X.K = K) : MtR X "list.index" (rIndex K) := hK ▸ mt_index
/-! ### xs[i] += e -/
theorem k_get (hK : X.K = K) : PGet X (rIxL K) := by
  subst hK
  intro pins s σ H o i ov iv Q I ro ri h
  obtain ⟨p, xs, k, z, rfl, rfl, hq, he, q⟩ := h
  cases ro
  obtain ⟨t, rfl⟩ := ri
  obtain ⟨its, r, pl, hz⟩ := I.list hq
  obtain ⟨j, h1, h2, h3, h4, h5⟩ := atI_get he
  obtain ⟨w, ew, rw'⟩ := r.get h2
  have hl := r.length
  have hn := line63
  have fin : EP X pins σ Q w s := ⟨z, H, I, rw', q⟩
  by_cases h0 : 0 ≤ k
  · have hj : k.toNat = j := by
      rw [seqIndex_of h0 h5] at h1
      exact Option.some.inj h1
    exact wpAny_getItem_list pl.isList h0 (by omega) (by rw [hj]; simpa using ew) fin
  · have hj : (k + (its.toArray.size : Int)).toNat = j := by
      rw [seqIndex_neg (by omega) h4] at h1
      rw [List.size_toArray, ← hl]
      exact Option.some.inj h1
    exact wpAny_getItem_list_neg pl.isList (by omega) (by rw [List.size_toArray] <;> omega) (by omega) (by rw [hj]; simpa using ew) fin
end
end L2.Zs
namespace L2.Zs
open PySem PySem.Spec PyProof.Rows
/-! ## own errors -/
/-- the own error class at C, called x -/
structure XC (K : PySem.W.Frag) (mg : PySem.Str → Option Value) (x : PySem.Str) (C : Addr) : Prop where
  exc : PySem.W.excIn K C [.type "ValueError", .type "Exception", .type "BaseException", .type "object"] "ValueError.__new__" = true
  g : mg x = some (.ref C)
  kp : PySem.W.keepIn K (.ref C) = true
  b : PySem.W.subIn K (.ref C) (.type "BaseException") = some true
  ty : PySem.W.typeIn K (.ref C) = some (.type "type")
  ic : PySem.W.isClsIn K C = true
/-- what isinstance asks of its instances, besides -/
structure XI (K : PySem.W.Frag) (D : Addr) : Prop where
  c : ExcC K D
  ve : PySem.W.subIn K (.ref D) (.type "ValueError") = some true
def tRaise (C : Addr) (W : WX) : TS := fun _ σ H => W (.ref C) none σ H
section
variable {X : Cx} {W : WX} {x m : PySem.Str} {C : Addr} {p p2 pos pos2 : Pos} {j : Nat}
theorem z_raise (hc : X.calm = true) (tk : Takes X W) (T : XC X.K X.mg x C) (hg : Gl X x) (hdb : (x == ("__debug__" : PySem.Str)) = false := by decide) :
    PS X (.Raise (some (.Call (.Name x p) [.Constant (.str m) j p2] [] pos)) none pos2) (tRaise C W) :=
  ps_raise hc tk (pmk_own PySem.F.excBase_ValueError T.exc T.g T.kp (raises_own T.b T.ty) hg hdb)
end
instance {C : Addr} {W : WX} {D : Ends} {σ : St} {H : Hp} : Stp (tRaise C W D σ H) (W (.ref C) none σ H) := ⟨id⟩
instance {C : Addr} {W : WX} {D : Ends} {σ : St} {H : Hp} {t2 : TS} : Stp (tSeq (tRaise C W) t2 D σ H) (W (.ref C) none σ H) := ⟨id⟩
/-- an error of the class at D is an instance of the class at C, or not -/
theorem kit_ref {K : PySem.W.Frag} {D C : Addr} {b : Bool} (h : (Value.ref D == Value.ref C) = true → b = true) (i : PySem.W.isClsIn K C = true) (t : PySem.W.typeIn K (.ref C) = some (.type "type")) (s : PySem.W.subIn K (.ref D) (.ref C) = some b) :
    PySem.W.kitOne K (.ref D) (.ref C) = some b := by
  unfold PySem.W.kitOne
  split
  · rename_i e; rw [h e]
  · have i' : (PySem.W.clsIn K C).isSome = true := i
    show (if ((PySem.W.clsIn K C).isSome && PySem.W.typeIn K (.ref C) == some (.type "type")) = true then PySem.W.subIn K (.ref D) (.ref C) else none) = some b
    rw [i', t, if_pos (by rfl)]
    exact s
theorem kit_ve {K : PySem.W.Frag} {D : Addr} (T : XI K D) : PySem.W.kitOne K (.ref D) (.type "ValueError") = some true := by
  unfold PySem.W.kitOne
  rw [if_neg (by intro q; cases q)]
  show (if PySem.W.kitMeta "ValueError" = true then PySem.W.subIn K (.ref D) (.type "ValueError") else none) = some true
  rw [if_pos (show PySem.W.kitMeta "ValueError" = true by decide +kernel)]
  exact T.ve
theorem kitAny_no {K : PySem.W.Frag} {t : Value} : ∀ {cs : List Value}, (∀ c ∈ cs, PySem.W.kitOne K t c = some false) → PySem.W.kitAny K t cs = some false
  | [], _ => rfl
  | c :: cs, h => by
    unfold PySem.W.kitAny
    rw [h c List.mem_cons_self]
    exact kitAny_no fun d hd => h d (List.mem_cons_of_mem _ hd)
/-- isinstance of the error that the suite holds -/
def rIsEZ (K : PySem.W.Frag) (a : Addr) (cls : Value) (dd : Option Addr) : List V → Hp → VK → Prop := fun xs H Q => ∃ D, cls = .ref D ∧ dd = none ∧ ExcC K D ∧ rIsE K D a xs H Q
def rIsETZ (K : PySem.W.Frag) (a : Addr) (cls : Value) (dd : Option Addr) : List V → Hp → VK → Prop := fun xs H Q => ∃ D tp cs us b, cls = .ref D ∧ dd = none ∧ ExcC K D ∧ xs = [.ref a, .ref tp] ∧ H tp = some (.tup cs) ∧ Paired ClsV cs us ∧ PySem.W.kitAny K (.ref D) us = some b ∧ Q (.bl b) H
section
variable {X : Cx} {a : Addr} {cls : Value} {dd : Option Addr} {oe : Obj} {pn : List (Addr × Obj)}
theorem z_isE (hz : Zc cls dd oe) (hf : ∃ vs, oe.data = .fields vs) : CallR (X.suite a ((a, oe) :: pn)) (.builtin "isinstance") (rIsEZ X.K a cls dd) := by
  intro pins s σ H xs us Q I r h
  obtain ⟨D, rfl, rfl, c, h⟩ := h
  exact call_isE c hz hf pins s σ H xs us Q I r h
theorem z_isET (hz : Zc cls dd oe) (hf : ∃ vs, oe.data = .fields vs) : CallR (X.suite a ((a, oe) :: pn)) (.builtin "isinstance") (rIsETZ X.K a cls dd) := by
  intro pins s σ H xs us Q I r h
  obtain ⟨D, tp, cs, ws, b, rfl, rfl, C, rfl, hT, k, e, q⟩ := h
  obtain ⟨u1, u2, rfl, r1, r2⟩ := vals2 r
  cases (show u1 = Value.ref a from r1)
  cases (show u2 = Value.ref tp from r2)
  obtain ⟨_, its, rv, o, h1, h2, n, h3⟩ := (show ObjOk _ _ H s.heap tp (.tup cs) from I.hok tp _ hT)
  have e3 := ClsV.all k rv
  subst e3
  obtain ⟨oc, od, dt, sl⟩ := o
  simp only at h2 h3
  subst h2 h3
  obtain ⟨hget, _⟩ := I.pin (a, oe) (List.mem_append.mpr (.inl List.mem_cons_self))
  obtain ⟨vs, hv⟩ := hf
  have J : PySem.W.InstAt s.heap a oe D none := by
    obtain ⟨oc, od, oda, osl⟩ := oe
    obtain ⟨h1, h2⟩ := hz
    dsimp only at h1 h2 hv
    subst h1 h2 hv
    exact ⟨hget, rfl, rfl, trivial⟩
  exact PySem.W.kia_tup (PySem.W.handS_kitx_exc C.hg C.hk C.hs C.hd C.ha C.hn C.ht C.hm) I.kIn J h1 e (fun z => nomatch z) fun tk => ⟨.bl b, H, I.kept (t' := tk) fun _ _ z => z, rfl, q⟩
end
section
variable {K : PySem.W.Frag} {H : Hp} {Q : VK} {a D C tp : Addr} {cs : List As} {ds : List As}
theorem s_isE {b : Bool} (T : XI K D) (k1 : PySem.W.kitOne K (.ref D) (.ref C) = some b) (k : Q (.bl b) H) : rIsEZ K a (.ref D) none [.ref a, .ref C] H Q :=
  ⟨D, rfl, rfl, T.c, .ref C, .ref C, b, rfl, (fun u r => r), k1, k⟩
theorem s_isVE (T : XI K D) (k : Q (.bl true) H) : rIsEZ K a (.ref D) none [.ref a, .ty "ValueError"] H Q :=
  ⟨D, rfl, rfl, T.c, .ty "ValueError", .type "ValueError", true, rfl, (fun u r => r), kit_ve T, k⟩
theorem pairedCls : ∀ l : List Addr, Paired ClsV (l.map V.ref) (l.map Value.ref)
  | [] => .nil
  | c :: l => .cons (.own c) (pairedCls l)
theorem s_isET {l : List Addr} {xs : List V} (T : XI K D) (S : Sep cs H) (p : Pick (pt tp (.tup xs)) cs ds) (e : xs = l.map V.ref) (h : ∀ c ∈ l, PySem.W.kitOne K (.ref D) (.ref c) = some false) (k : Q (.bl false) H) : rIsETZ K a (.ref D) none [.ref a, .ref tp] H Q :=
  ⟨D, tp, _, _, false, rfl, rfl, T.c, rfl, S.get p, e ▸ pairedCls l, kitAny_no fun c hc => by obtain ⟨x, hx, rfl⟩ := List.mem_map.mp hc; exact h x hx, k⟩
end
/-- try: .. except x as n: .. -/
def tTry (K : PySem.W.Frag) (c : Value) (i : Nat) (tb : WX → TS) (ts : Addr → Value → Option Addr → TS) (Wout : WX) : TS := fun D σ H => tb (wAs K c i ts Wout D) D σ H
section
variable {X : Cx} {x n : PySem.Str} {c : Value} {i : Nat} {body suite : List Stmt} {b₀ : Stmt} {np pos pos' : Pos} {tb : WX → TS} {ts : Addr → Value → Option Addr → TS} {Wout : WX}
theorem z_try_as (hs : X.stack = X.env :: X.outer) (hf : X.env.frame = some X.env.locals) (hN : X.N.Nodup) (hi : X.N[i]? = some n) (hln : X.env.kindOf n = some .local) (hc : Names X x c) (tk : Takes X Wout)
    (hb : ∀ (W : WX) (pn : List (Addr × Obj)) (xe : Value → Shared → Prop), Takes (X.tr pn xe) W → PassesOwn (model X.prog X.w) X.A X.env xe → PSs (X.tr pn xe) body (tb W))
    (hsu : ∀ (a : Addr) (oe : Obj) (cls : Value) (d : Option Addr) (pn : List (Addr × Obj)), Zc cls d oe → (∃ vs, oe.data = .fields vs) → PSs (X.suite a ((a, oe) :: pn)) (b₀ :: suite) (ts a cls d)) :
    PS X (.Try body [.ExceptHandler (some (.Name x np)) (some n) (b₀ :: suite) pos'] [] [] pos) (tTry X.K c i tb ts Wout) := ps_try_as hs hf hN hi hln hc tk hb hsu
end
theorem s_try {K : PySem.W.Frag} {c : Value} {i : Nat} {tb : WX → TS} {ts : Addr → Value → Option Addr → TS} {Wout : WX} {D : Ends} {σ : St} {H : Hp} (M : Value → St → Hp → Prop) (hs : ∀ cls σ H, M cls σ H → wAs K c i ts Wout D cls none σ H)
    (hb : ∀ W : WX, (∀ cls σ H, M cls σ H → W cls none σ H) → tb W D σ H) : tTry K c i tb ts Wout D σ H := hb _ hs
/-- the clause takes it -/
theorem s_caught {K : PySem.W.Frag} {c cls : Value} {d : Option Addr} {i : Nat} {ts : Addr → Value → Option Addr → TS} {Wout : WX} {D : Ends} {σ : St} {H : Hp} (h : PySem.W.exmOne K cls c = some true)
    (k : ∀ a, ts a cls d { nx := fun σ' H' => D.nx (σ'.set i none) H', rt := D.rt, bk := fun σ' H' => D.bk (σ'.set i none) H', ct := fun σ' H' => D.ct (σ'.set i none) H' } (σ.set i (some (.ref a))) H) : wAs K c i ts Wout D cls d σ H :=
  ⟨true, h, fun _ a _ => k a, fun q => nomatch q⟩
theorem exm_of' {K : PySem.W.Frag} {D C : Addr} (h1 : PySem.W.subIn K (.ref C) (.type "BaseException") = some true) (h2 : PySem.W.isClsIn K C = true) (h3 : PySem.W.typeIn K (.ref C) = some (.type "type")) (h4 : PySem.W.subIn K (.ref D) (.ref C) = some true) :
    PySem.W.exmOne K (.ref D) (.ref C) = some true := by
  have e1 : (PySem.W.subIn K (.ref C) (.type "BaseException") == some true) = true := by rw [h1] <;> rfl
  have e2 : ((PySem.W.clsIn K C).isSome && PySem.W.typeIn K (.ref C) == some (.type "type")) = true := by
    have h2' : (PySem.W.clsIn K C).isSome = true := h2
    rw [h2', h3] <;> rfl
  show (if (PySem.W.subIn K (.ref C) (.type "BaseException") == some true) = true then (if ((PySem.W.clsIn K C).isSome && PySem.W.typeIn K (.ref C) == some (.type "type")) = true then PySem.W.subIn K (.ref D) (.ref C) else none) else none) = some true
  rw [if_pos e1, if_pos e2]
  exact h4
/-! ## fields by name -/
theorem lk_hd {f : PySem.Str} {v : V} {fs : List (PySem.Str × V)} : List.lookup f ((f, v) :: fs) = some v := by simp [List.lookup]
theorem lk_tl {f g : PySem.Str} {v : V} {fs : List (PySem.Str × V)} {r : Option V} (h : (f == g) = false) (k : List.lookup f fs = r) : List.lookup f ((g, v) :: fs) = r := by simp [List.lookup, h, k]
theorem lk_nil {f : PySem.Str} : List.lookup f ([] : List (PySem.Str × V)) = none := rfl
theorem pf_nil {f : PySem.Str} {v : V} : putF f v [] = [(f, v)] := rfl
theorem pf_tl {f g : PySem.Str} {v w : V} {fs r : List (PySem.Str × V)} (h : (f == g) = false) (k : putF f v fs = r) : putF f v ((g, w) :: fs) = (g, w) :: r := by
  show (if g = f then _ else _) = _
  rw [if_neg (by intro e; subst e; simp at h), k]
theorem pf_hd {f : PySem.Str} {v w : V} {fs : List (PySem.Str × V)} : putF f v ((f, w) :: fs) = (f, v) :: fs := by
  show (if f = f then _ else _) = _
  rw [if_pos rfl]
/-! ## figures -/
/-- a text of n figures -/
def figs (n : Nat) (z : PySem.Str) : Prop := z.length = n ∧ ∀ c ∈ z.cps.toList, 48 ≤ c ∧ c ≤ 57
def spNumber : Sp := fun vs H Q _ => ∃ (d n : Int), vs = [.int d, .int n] ∧ 0 ≤ n ∧ n < 100000 ∧ ∀ z, figs n.toNat z → Q (.str z) H
theorem len_number {vs H Q E} (h : spNumber vs H Q E) : vs.length = 2 := by obtain ⟨d, n, rfl, _⟩ := h; rfl
theorem app_codes (a b : PySem.Str) : (a ++ b).cps.toList = a.cps.toList ++ b.cps.toList := by
  show (a.cps ++ b.cps).toList = _
  simp
theorem app_len (a b : PySem.Str) : (a ++ b).length = a.length + b.length := by
  show (a.cps ++ b.cps).size = _
  simp [PySem.Str.length]
theorem digits_codes : (PySem.Str.ofString "0123456789").cps.toList = [48, 49, 50, 51, 52, 53, 54, 55, 56, 57] := by decide +kernel
theorem digit_at (i : Int) : ∃ c, atI (PySem.Str.ofString "0123456789").cps.toList (i % 10) = some c ∧ 48 ≤ c ∧ c ≤ 57 := by
  have h := emod_in i (p := 10) (by decide)
  obtain ⟨c, h1, h2, _⟩ := atI_lt (xs := (PySem.Str.ofString "0123456789").cps.toList) h.1 (by rw [digits_codes]; exact h.2)
  refine ⟨c, h1, ?_⟩
  rw [digits_codes] at h2
  simp only [List.mem_cons, List.not_mem_nil, or_false] at h2
  omega
/-- whether it is a whole number -/
def spWhole : Sp := fun vs H Q _ => (∃ i, vs = [.int i] ∧ Q (.bl true) H) ∨ (vs = [.non] ∧ Q (.bl false) H)
theorem len_whole {vs H Q E} (h : spWhole vs H Q E) : vs.length = 1 := by rcases h with ⟨i, rfl, _⟩ | ⟨rfl, _⟩ <;> rfl
end L2.Zs
namespace L2.Zs
open PySem PySem.Spec PyProof.Rows
section
variable {K : PySem.W.Frag} {H : Hp} {Q : VK} {v : V} {a : Addr} {cs cs' ds : List As} {xs : List V} {i : Int} {R : Hp → Prop}
theorem s_ixG (S : Sep cs H) (p1 : Pick (pt a (.lst xs)) cs ds) (h : atI xs i = some v) (k : Q v H) : rIxL K (.ref a) (.int i) H Q := ⟨a, xs, i, v, rfl, rfl, SqL.of (S.get p1), h, k⟩
theorem s_stL (S : Sep cs H) {n : Nat} (g : Chg (pt a (.lst xs)) (pt a (.lst (xs.set n v))) cs cs') (h : ixN xs.length i = some n) (k : ∀ H', Sep cs' H' → R H') : rSetL (.ref a) (.int i) v H R :=
  ⟨a, xs, i, n, rfl, rfl, (let ⟨_, p, _⟩ := g.pick; S.get p), h, k _ (S.set g rfl)⟩
end
/-! ## built-in classes as values, isinstance -/
theorem z_ty {X : Cx} {x : PySem.Str} {T : String} {pos : Pos} (hg : Gl X x) (hm : X.mg x = none) (hv : bootBuiltins x = some (.type T)) (hd : (x == ("__debug__" : PySem.Str)) = false := by decide) (hn : x ≠ "__name__" := by decide) : PE X (.Name x pos) (tC (.ty T)) :=
  pe_bltn hg hm hv rfl (hn := hn) (hd := hd)
theorem z_cls {X : Cx} {x : PySem.Str} {C : Addr} {pos : Pos} (hg : Gl X x) (hm : X.mg x = some (.ref C)) (hd : (x == ("__debug__" : PySem.Str)) = false := by decide) : PE X (.Name x pos) (tC (.ref C)) :=
  pe_glob hg hm rfl (hd := hd)
theorem isi_b {K : PySem.W.Frag} {H : Hp} {Q : VK} {x : V} {A T : String} {b : Bool} (h : TyX K H x (.type A)) (k : kitB A T = some b) (q : Q (.bl b) H) : rIsi K [x, .ty T] H Q := ⟨x, .ty T, .type A, .type T, b, rfl, .ty T, h, kit_ty k, q⟩
section
variable {K : PySem.W.Frag} {H : Hp} {Q : VK} {i : Int} {b : Bool} {z : PySem.Str} {a : Addr} {xs : List V} {cs ds : List As}
instance : Stp (rIsi K [.int i, .ty "int"] H Q) (Q (.bl true) H) := ⟨isi_b (.base (.int i)) (by decide +kernel)⟩
instance : Stp (rIsi K [.int i, .ty "bool"] H Q) (Q (.bl false) H) := ⟨isi_b (.base (.int i)) (by decide +kernel)⟩
instance : Stp (rIsi K [.int i, .ty "str"] H Q) (Q (.bl false) H) := ⟨isi_b (.base (.int i)) (by decide +kernel)⟩
instance : Stp (rIsi K [.bl b, .ty "int"] H Q) (Q (.bl true) H) := ⟨isi_b (.base (.bl b)) (by decide +kernel)⟩
instance : Stp (rIsi K [.bl b, .ty "bool"] H Q) (Q (.bl true) H) := ⟨isi_b (.base (.bl b)) (by decide +kernel)⟩
instance : Stp (rIsi K [.non, .ty "int"] H Q) (Q (.bl false) H) := ⟨isi_b (.base .non) (by decide +kernel)⟩
instance : Stp (rIsi K [.non, .ty "str"] H Q) (Q (.bl false) H) := ⟨isi_b (.base .non) (by decide +kernel)⟩
instance : Stp (rIsi K [.non, .ty "list"] H Q) (Q (.bl false) H) := ⟨isi_b (.base .non) (by decide +kernel)⟩
instance : Stp (rIsi K [.non, .ty "tuple"] H Q) (Q (.bl false) H) := ⟨isi_b (.base .non) (by decide +kernel)⟩
instance : Stp (rIsi K [.str z, .ty "str"] H Q) (Q (.bl true) H) := ⟨isi_b (.base (.str z)) (by decide +kernel)⟩
instance : Stp (rIsi K [.str z, .ty "int"] H Q) (Q (.bl false) H) := ⟨isi_b (.base (.str z)) (by decide +kernel)⟩
theorem s_isL (S : Sep cs H) (p : Pick (pt a (.lst xs)) cs ds) (k : Q (.bl true) H) : rIsi K [.ref a, .ty "list"] H Q := isi_b (.base (.lst (S.get p))) (by decide +kernel) k
theorem s_isT (S : Sep cs H) (p : Pick (pt a (.tup xs)) cs ds) (k : Q (.bl true) H) : rIsi K [.ref a, .ty "tuple"] H Q := isi_b (.base (.tup (S.get p))) (by decide +kernel) k
theorem s_isTL (S : Sep cs H) (p : Pick (pt a (.tup xs)) cs ds) (k : Q (.bl false) H) : rIsi K [.ref a, .ty "list"] H Q := isi_b (.base (.tup (S.get p))) (by decide +kernel) k
theorem s_isTS (S : Sep cs H) (p : Pick (pt a (.tup xs)) cs ds) (k : Q (.bl false) H) : rIsi K [.ref a, .ty "str"] H Q := isi_b (.base (.tup (S.get p))) (by decide +kernel) k
theorem s_isLS (S : Sep cs H) (p : Pick (pt a (.lst xs)) cs ds) (k : Q (.bl false) H) : rIsi K [.ref a, .ty "str"] H Q := isi_b (.base (.lst (S.get p))) (by decide +kernel) k
end
/-! list(xs), tuple(xs), max -/
section
variable {K : PySem.W.Frag} {H : Hp} {Q : VK} {i j : Int} {a : Addr} {xs : List V} {cs ds : List As} {D : Ends} {σ : St} {ta : TE} {R : List V → Prop}
theorem s_listL (S : Sep cs H) (p : Pick (pt a (.lst xs)) cs ds) (k : ∀ q H', Sep (pt q (.lst xs) :: cs) H' → Q (.ref q) H') : rListOf K [.ref a] H Q := ⟨a, xs, rfl, .inl (SqL.of (S.get p)), fun l hl => k l _ (S.new hl)⟩
theorem s_listT (S : Sep cs H) (p : Pick (pt a (.tup xs)) cs ds) (k : ∀ q H', Sep (pt q (.lst xs) :: cs) H' → Q (.ref q) H') : rListOf K [.ref a] H Q := ⟨a, xs, rfl, .inr (SqT.of (S.get p)), fun l hl => k l _ (S.new hl)⟩
theorem s_tupL (S : Sep cs H) (p : Pick (pt a (.lst xs)) cs ds) (k : ∀ q H', Sep (pt q (.tup xs) :: cs) H' → Q (.ref q) H') : kTup K (.ref a) H Q := .inl ⟨a, xs, rfl, SqL.of (S.get p), fun l hl => k l _ (S.new hl)⟩
instance : Stp (tThen ta (kTup K) σ H Q) (ta σ H fun x H1 => kTup K x H1 Q) := ⟨id⟩
instance : Stp (rMax2 [.int i, .int j] H Q) (Q (.int (if j > i then j else i)) H) := ⟨fun k => ⟨i, j, rfl, k⟩⟩
instance : Stp (rMin2 [.int i, .int j] H Q) (Q (.int (if j < i then j else i)) H) := ⟨fun k => ⟨i, j, rfl, k⟩⟩
end
/-! ## racks -/
structure Rk where
  held : List V
  brk : List Bool
  tak : List Int
structure Rk.ok (r : Rk) : Prop where
  b : r.brk.length = r.held.length
  t : r.tak.length = r.held.length
  n : r.held.length ≤ 60
def Rk.rdy (r : Rk) (i : Nat) : Bool := decide (r.held[i]? = some .non) && !(r.brk.getD i true)
def Rk.give (r : Rk) (i : Nat) (v : V) : Rk := { r with held := r.held.set i v, tak := r.tak.set i (r.tak.getD i 0 + 1) }
def Rk.free (r : Rk) (i : Nat) : Rk := { r with held := r.held.set i .non }
def Rk.brkAt (r : Rk) (i : Nat) (b : Bool) : Rk := { r with brk := r.brk.set i b }
theorem Rk.ok.give {r : Rk} (h : r.ok) (i : Nat) (v : V) : (r.give i v).ok := ⟨by simp [Rk.give, h.b], by simp [Rk.give, h.t], by simp [Rk.give, h.n]⟩
theorem Rk.ok.free {r : Rk} (h : r.ok) (i : Nat) : (r.free i).ok := ⟨by simp [Rk.free, h.b], by simp [Rk.free, h.t], by simp [Rk.free, h.n]⟩
theorem Rk.ok.brkAt {r : Rk} (h : r.ok) (i : Nat) (b : Bool) : (r.brkAt i b).ok := ⟨by simp [Rk.brkAt, h.b], by simp [Rk.brkAt, h.t], by simp [Rk.brkAt, h.n]⟩
/-- where a rack stands -/
structure RL where
  C : Addr
  dx : Addr
  p : Addr
  l1 : Addr
  l2 : Addr
  l3 : Addr
  more : List (PySem.Str × V)
def rkF (l1 l2 l3 : Addr) (more : List (PySem.Str × V)) : List (PySem.Str × V) := ("held_by", .ref l1) :: ("broken", .ref l2) :: ("taken", .ref l3) :: more
@[reducible] def rkC (L : RL) (r : Rk) (F : List As) : List As := pt L.p (.ins L.C L.dx (rkF L.l1 L.l2 L.l3 L.more)) :: pt L.l1 (.lst r.held) :: pt L.l2 (.lst (r.brk.map .bl)) :: pt L.l3 (.lst (r.tak.map .int)) :: F
def rackMeths : List PySem.Str := ["need", "is_ready", "given", "free", "stick", "mend", "shares", "take", "paper", "holders", "stuck", "mark", "steps"]
structure RL.good (L : RL) (Cs : List Addr) : Prop where
  c : L.C ∈ Cs
  nm : ∀ m ∈ rackMeths, L.more.lookup m = none
theorem rkF_held {l1 l2 l3 : Addr} {m : List (PySem.Str × V)} : (rkF l1 l2 l3 m).lookup ("held_by" : PySem.Str) = some (V.ref l1) := lk_hd
theorem rkF_brk {l1 l2 l3 : Addr} {m : List (PySem.Str × V)} : (rkF l1 l2 l3 m).lookup ("broken" : PySem.Str) = some (V.ref l2) := lk_tl (by decide +kernel) lk_hd
theorem rkF_tak {l1 l2 l3 : Addr} {m : List (PySem.Str × V)} : (rkF l1 l2 l3 m).lookup ("taken" : PySem.Str) = some (V.ref l3) := lk_tl (by decide +kernel) (lk_tl (by decide +kernel) lk_hd)
theorem rkF_m : ∀ m ∈ rackMeths, ((m == ("held_by" : PySem.Str)) = false ∧ (m == ("broken" : PySem.Str)) = false ∧ (m == ("taken" : PySem.Str)) = false) := by decide +kernel
theorem rkF_no {l1 l2 l3 : Addr} {more : List (PySem.Str × V)} {m : PySem.Str} (hm : m ∈ rackMeths) (h : ∀ m ∈ rackMeths, more.lookup m = none) : (rkF l1 l2 l3 more).lookup m = none :=
  lk_tl (rkF_m m hm).1 (lk_tl (rkF_m m hm).2.1 (lk_tl (rkF_m m hm).2.2 (h m hm)))
/-- what the racks' classes say -/
structure RT (K : PySem.W.Frag) (Cs : List Addr) : Prop where
  cls : ∀ C ∈ Cs, Cls K C
  n1 : ∀ C ∈ Cs, NoAttr K C "held_by"
  n2 : ∀ C ∈ Cs, NoAttr K C "broken"
  n3 : ∀ C ∈ Cs, NoAttr K C "taken"
section
variable {K : PySem.W.Frag} {Cs : List Addr} {σ : St} {H : Hp} {Q : VK} {L : RL} {r : Rk} {cs ds : List As}
theorem s_held (T : RT K Cs) (g : L.good Cs) (S : Sep cs H) (p : Pick (pt L.p (.ins L.C L.dx (rkF L.l1 L.l2 L.l3 L.more))) cs ds) (k : Q (.ref L.l1) H) : FldGet K "held_by" (.ref L.p) Q H := s_fldR S p (T.cls _ g.c) (T.n1 _ g.c) rkF_held k
theorem s_brk (T : RT K Cs) (g : L.good Cs) (S : Sep cs H) (p : Pick (pt L.p (.ins L.C L.dx (rkF L.l1 L.l2 L.l3 L.more))) cs ds) (k : Q (.ref L.l2) H) : FldGet K "broken" (.ref L.p) Q H := s_fldR S p (T.cls _ g.c) (T.n2 _ g.c) rkF_brk k
theorem s_tak (T : RT K Cs) (g : L.good Cs) (S : Sep cs H) (p : Pick (pt L.p (.ins L.C L.dx (rkF L.l1 L.l2 L.l3 L.more))) cs ds) (k : Q (.ref L.l3) H) : FldGet K "taken" (.ref L.p) Q H := s_fldR S p (T.cls _ g.c) (T.n3 _ g.c) rkF_tak k
theorem s_rm {m : PySem.Str} {R : Addr → Hp → Prop} (g : L.good Cs) (S : Sep cs H) (hm : m ∈ rackMeths) (p : Pick (pt L.p (.ins L.C L.dx (rkF L.l1 L.l2 L.l3 L.more))) cs ds) (k : R L.C H) : MtGo Cs m (.ref L.p) R H := s_mtR S p g.c (rkF_no hm g.nm) k
end
/-! ### what each def of a rack is worth -/
section
variable (Cs : List Addr) (XS : Addr)
def spNeed (C : Addr) : Sp := fun vs H Q E => ∃ (L : RL) (r : Rk) (k : Int) (F : List As), vs = [.ref L.p, .int k] ∧ L.good Cs ∧ Sep (rkC L r F) H ∧ (0 ≤ k ∧ k < r.held.length → Q .non H) ∧ (¬ (0 ≤ k ∧ k < r.held.length) → E (.ref XS) none H)
def spReady (C : Addr) : Sp := fun vs H Q E => ∃ (L : RL) (r : Rk) (k : Int) (F : List As), vs = [.ref L.p, .int k] ∧ L.good Cs ∧ r.ok ∧ Sep (rkC L r F) H ∧ 0 ≤ k ∧ k < r.held.length ∧ Q (.bl (r.rdy k.toNat)) H
def spGiven (C : Addr) : Sp := fun vs H Q E => ∃ (L : RL) (r : Rk) (k : Int) (v : V) (F : List As), vs = [.ref L.p, .int k, v] ∧ L.good Cs ∧ r.ok ∧ Sep (rkC L r F) H ∧ 0 ≤ k ∧ k < r.held.length ∧ ∀ H', Sep (rkC L (r.give k.toNat v) F) H' → Q .non H'
def spFree (C : Addr) : Sp := fun vs H Q E => ∃ (L : RL) (r : Rk) (k : Int) (F : List As), vs = [.ref L.p, .int k] ∧ L.good Cs ∧ Sep (rkC L r F) H ∧
  (0 ≤ k → k < r.held.length → r.held[k.toNat]? ≠ some .non → ∀ H', Sep (rkC L (r.free k.toNat) F) H' → Q .non H') ∧ (¬ (0 ≤ k ∧ k < r.held.length ∧ r.held[k.toNat]? ≠ some .non) → E (.ref XS) none H)
def spStick (b : Bool) (C : Addr) : Sp := fun vs H Q E => ∃ (L : RL) (r : Rk) (k : Int) (F : List As), vs = [.ref L.p, .int k] ∧ L.good Cs ∧ r.ok ∧ Sep (rkC L r F) H ∧
  (0 ≤ k → k < r.held.length → ∀ H', Sep (rkC L (r.brkAt k.toNat b) F) H' → Q .non H') ∧ (¬ (0 ≤ k ∧ k < r.held.length) → E (.ref XS) none H)
def spShares (C : Addr) : Sp := fun vs H Q E => ∃ (L : RL) (r : Rk) (F : List As), vs = [.ref L.p] ∧ L.good Cs ∧ Sep (rkC L r F) H ∧ ∀ q H', Sep (pt q (.lst (r.tak.map .int)) :: (rkC L r F)) H' → Q (.ref q) H'
/-- a new rack of many things -/
def Rk.new (n : Nat) : Rk := ⟨List.replicate n .non, List.replicate n false, List.replicate n 0⟩
theorem Rk.new_ok {n : Nat} (h : n ≤ 60) : (Rk.new n).ok := ⟨by simp [Rk.new], by simp [Rk.new], by simp [Rk.new, h]⟩
def spRack (C : Addr) : Sp := fun vs H Q E => ∃ (p dx : Addr) (n : Int) (F : List As), vs = [.ref p, .int n] ∧ C ∈ Cs ∧ 0 ≤ n ∧ n ≤ 60 ∧ Sep (pt p (.ins C dx []) :: F) H ∧
  ∀ l1 l2 l3 H', Sep (rkC ⟨C, dx, p, l1, l2, l3, []⟩ (Rk.new n.toNat) F) H' → Q .non H'
/-- the first that is neither held nor stuck -/
def Rk.first (r : Rk) : Option Nat := (List.range r.held.length).find? r.rdy
def spTake (C : Addr) : Sp := fun vs H Q E => ∃ (L : RL) (r : Rk) (v : V) (F : List As), vs = [.ref L.p, v] ∧ L.good Cs ∧ r.ok ∧ Sep (rkC L r F) H ∧
  (r.first = none → ∀ H', Sep (rkC L r F) H' → Q .non H') ∧ (∀ k, r.first = some k → k < r.held.length → ∀ H', Sep (rkC L (r.give k v) F) H' → Q (.int k) H')
def Rk.said (r : Rk) (i : Nat) : V := match r.held.getD i .non with
  | .non => if r.brk.getD i false then .str "stuck" else .str "free"
  | v => v
def Rk.paper (r : Rk) : List V := (List.range r.held.length).map r.said
def spPaper (C : Addr) : Sp := fun vs H Q E => ∃ (L : RL) (r : Rk) (F : List As), vs = [.ref L.p] ∧ L.good Cs ∧ r.ok ∧ Sep (rkC L r F) H ∧ ∀ q H', Sep (pt q (.tup r.paper) :: (rkC L r F)) H' → Q (.ref q) H'
end
section
variable {Cs : List Addr} {XS C : Addr} {vs : List V} {H : Hp} {Q : VK} {E : XK}
theorem len_need (h : spNeed Cs XS C vs H Q E) : vs.length = 2 := by obtain ⟨L, r, k, F, rfl, _⟩ := h; rfl
theorem len_ready (h : spReady Cs C vs H Q E) : vs.length = 2 := by obtain ⟨L, r, k, F, rfl, _⟩ := h; rfl
theorem len_given (h : spGiven Cs C vs H Q E) : vs.length = 3 := by obtain ⟨L, r, k, v, F, rfl, _⟩ := h; rfl
theorem len_free (h : spFree Cs XS C vs H Q E) : vs.length = 2 := by obtain ⟨L, r, k, F, rfl, _⟩ := h; rfl
theorem len_stick {b : Bool} (h : spStick Cs XS b C vs H Q E) : vs.length = 2 := by obtain ⟨L, r, k, F, rfl, _⟩ := h; rfl
theorem len_shares (h : spShares Cs C vs H Q E) : vs.length = 1 := by obtain ⟨L, r, F, rfl, _⟩ := h; rfl
theorem len_rack (h : spRack Cs C vs H Q E) : vs.length = 2 := by obtain ⟨p, dx, n, F, rfl, _⟩ := h; rfl
theorem len_take (h : spTake Cs C vs H Q E) : vs.length = 2 := by obtain ⟨L, r, v, F, rfl, _⟩ := h; rfl
theorem len_paper (h : spPaper Cs C vs H Q E) : vs.length = 1 := by obtain ⟨L, r, F, rfl, _⟩ := h; rfl
end
end L2.Zs
namespace L2.Zs
open PySem PySem.Spec PyProof.Rows
open PySem PySem.Spec PyProof.Rows
instance {A B : Prop} : Stp (if (!true) = true then A else B) B := ⟨s_f⟩
instance {A B : Prop} : Stp (if (!false) = true then A else B) A := ⟨s_t⟩
/-! ## flat data compared -/
def dV : V → PyData
  | .bl b => .bool b
  | .int i => .int i
  | .str z => .str z
  | _ => .none
def okV : V → Bool
  | .non => true
  | .bl _ => true
  | .int _ => true
  | .str z => PyData.canLay0 (.str z)
  | _ => false
theorem okV_flat {v : V} (h : okV v = true) : flatV v = true := by cases v <;> first | rfl | cases h
theorem dp_flat {K : PySem.W.Frag} {H : Hp} {v : V} (h : okV v = true) : Dp K H v (dV v) := by
  cases v <;> first | cases h | skip
  · exact .non
  · exact .bl _
  · exact .int _
  · exact .str _
theorem dpAll_flat {K : PySem.W.Frag} {H : Hp} : ∀ {xs : List V}, (∀ v ∈ xs, okV v = true) → DpAll K H xs (xs.map dV)
  | [], _ => .nil
  | x :: xs, h => .cons (dp_flat (h x List.mem_cons_self)) (dpAll_flat fun v hv => h v (List.mem_cons_of_mem _ hv))
theorem can_dV {v : V} (h : okV v = true) : (dV v).canLay0 = true := by
  cases v <;> first | rfl | exact h
theorem dep_dV (v : V) : (dV v).depth = 0 := by cases v <;> rfl
theorem canAll_flat : ∀ {xs : List V}, (∀ v ∈ xs, okV v = true) → PyData.canLayAll0 (xs.map dV) = true
  | [], _ => rfl
  | x :: xs, h => by
    show (PyData.canLay0 (dV x) && PyData.canLayAll0 (xs.map dV)) = true
    rw [can_dV (h x List.mem_cons_self), canAll_flat fun v hv => h v (List.mem_cons_of_mem _ hv)]
    rfl
theorem depAll_flat : ∀ (xs : List V), PyData.depthAll (xs.map dV) = 0
  | [] => rfl
  | x :: xs => by
    show max (PyData.depth (dV x)) (PyData.depthAll (xs.map dV)) = 0
    rw [dep_dV, depAll_flat xs]
    rfl
theorem shaped_lst {xs : List V} (h : ∀ v ∈ xs, okV v = true) : SeqAt.shaped (.list (xs.map dV)) = true := by
  show (PyData.canLayAll0 (xs.map dV) && decide (PyData.depthAll (xs.map dV) + 1 ≤ 64)) = true
  rw [canAll_flat h, depAll_flat]
  rfl
theorem shaped_tup {xs : List V} (h : ∀ v ∈ xs, okV v = true) : SeqAt.shaped (.tuple (xs.map dV)) = true := by
  show (PyData.canLayAll0 (xs.map dV) && decide (PyData.depthAll (xs.map dV) + 1 ≤ 64)) = true
  rw [canAll_flat h, depAll_flat]
  rfl
theorem eqv_same {d : PyData} (h : SeqAt.shaped d = true) : PyData.eqv d d = true := SeqAt.eqv_refl d (SeqAt.canLay_of_shaped h)
section
variable {K : PySem.W.Frag} {H : Hp} {Q : VK} {a b : Addr} {xs ys : List V} {cs ds es : List As}
theorem s_eqLL (S : Sep cs H) (p : Pick (pt a (.lst xs)) cs ds) (q : Pick (pt b (.lst xs)) cs es) (h : ∀ v ∈ xs, okV v = true) (k : Q (.bl true) H) : rEqZ K (.ref a) (.ref b) H Q := by
  refine s_eqD (.lst (SqL.of (S.get p)) (dpAll_flat h)) (.lst (SqL.of (S.get q)) (dpAll_flat h)) (shaped_lst h) (shaped_lst h) ?_
  rw [eqv_same (shaped_lst h)]
  exact k
theorem s_neLL (S : Sep cs H) (p : Pick (pt a (.lst xs)) cs ds) (q : Pick (pt b (.lst xs)) cs es) (h : ∀ v ∈ xs, okV v = true) (k : Q (.bl false) H) : rNeZ K (.ref a) (.ref b) H Q := by
  refine s_neD (.lst (SqL.of (S.get p)) (dpAll_flat h)) (.lst (SqL.of (S.get q)) (dpAll_flat h)) (shaped_lst h) (shaped_lst h) ?_
  rw [eqv_same (shaped_lst h)]
  exact k
theorem s_neTT (S : Sep cs H) (p : Pick (pt a (.tup xs)) cs ds) (q : Pick (pt b (.tup xs)) cs es) (h : ∀ v ∈ xs, okV v = true) (k : Q (.bl false) H) : rNeZ K (.ref a) (.ref b) H Q := by
  refine s_neD (.tup (SqT.of (S.get p)) (dpAll_flat h)) (.tup (SqT.of (S.get q)) (dpAll_flat h)) (shaped_tup h) (shaped_tup h) ?_
  rw [eqv_same (shaped_tup h)]
  exact k
theorem s_eqTT (S : Sep cs H) (p : Pick (pt a (.tup xs)) cs ds) (q : Pick (pt b (.tup xs)) cs es) (h : ∀ v ∈ xs, okV v = true) (k : Q (.bl true) H) : rEqZ K (.ref a) (.ref b) H Q := by
  refine s_eqD (.tup (SqT.of (S.get p)) (dpAll_flat h)) (.tup (SqT.of (S.get q)) (dpAll_flat h)) (shaped_tup h) (shaped_tup h) ?_
  rw [eqv_same (shaped_tup h)]
  exact k
theorem s_eqNil (S : Sep cs H) (p : Pick (pt a (.lst xs)) cs ds) (q : Pick (pt b (.lst [])) cs es) (h : ∀ v ∈ xs, okV v = true) (k : Q (.bl (decide (xs = []))) H) : rEqZ K (.ref a) (.ref b) H Q := by
  refine s_eqD (.lst (SqL.of (S.get p)) (dpAll_flat h)) (.lst (SqL.of (S.get q)) .nil) (shaped_lst h) (shaped_lst (xs := []) (fun _ h => nomatch h)) ?_
  have e : PyData.eqv (.list (xs.map dV)) (.list []) = decide (xs = []) := by cases xs <;> rfl
  rw [e]
  exact k
theorem s_neNil (S : Sep cs H) (p : Pick (pt a (.lst xs)) cs ds) (q : Pick (pt b (.lst [])) cs es) (h : ∀ v ∈ xs, okV v = true) (k : Q (.bl (!decide (xs = []))) H) : rNeZ K (.ref a) (.ref b) H Q := by
  refine s_neD (.lst (SqL.of (S.get p)) (dpAll_flat h)) (.lst (SqL.of (S.get q)) .nil) (shaped_lst h) (shaped_lst (xs := []) (fun _ h => nomatch h)) ?_
  have e : PyData.eqv (.list (xs.map dV)) (.list []) = decide (xs = []) := by cases xs <;> rfl
  rw [e]
  exact k
end
theorem okI (ns : List Int) : ∀ v ∈ ns.map V.int, okV v = true := fun v hv => by obtain ⟨i, _, rfl⟩ := List.mem_map.mp hv; rfl
theorem okB (ns : List Bool) : ∀ v ∈ ns.map V.bl, okV v = true := fun v hv => by obtain ⟨i, _, rfl⟩ := List.mem_map.mp hv; rfl
theorem flatI (ns : List Int) : (ns.map V.int).all flatV = true := List.all_eq_true.mpr fun v hv => okV_flat (okI ns v hv)
theorem inV_int (k : Int) : ∀ ns : List Int, inV (.int k) (ns.map V.int) = decide (k ∈ ns)
  | [] => by simp [inV]
  | n :: ns => by
    have ih := inV_int k ns
    unfold inV at ih ⊢
    rw [List.map_cons, List.any_cons, ih]
    show ((n == k) || _) = _
    by_cases e : n = k
    · subst e; simp
    · have : ¬ k = n := fun z => e z.symm
      simp [e, this]
theorem figs_ok {n : Nat} {z : PySem.Str} (h : figs n z) : PyData.canLay0 (.str z) = true := by
  show z.cps.all (· < 0x110000) = true
  rw [← Array.all_toList, List.all_eq_true]
  intro c hc
  have := h.2 c hc
  exact decide_eq_true (by omega)
/-- list.remove -/
theorem s_remove {K : PySem.W.Frag} {H : Hp} {Q : VK} {a : Addr} {ns : List Int} {k : Int} {cs cs' : List As} (S : Sep cs H) (h : k ∈ ns) (g : Chg (pt a (.lst (ns.map V.int))) (pt a (.lst ((ns.erase k).map V.int))) cs cs') (c : ∀ H', Sep cs' H' → Q .non H') : rRemI (.ref a) [.int k] H Q := by
  have hi : ns.idxOf k < ns.length := List.idxOf_lt_length_of_mem h
  have e : ns.eraseIdx (ns.idxOf k) = ns.erase k := (List.erase_eq_eraseIdx_of_idxOf rfl).symm
  refine ⟨a, ns, k, ns.idxOf k, rfl, rfl, (let ⟨_, p, _⟩ := g.pick; S.get p), ?_, fun m hm => ?_, ?_⟩
  · rw [List.getElem?_eq_getElem hi, List.getElem_idxOf hi]
  · intro q
    obtain ⟨h1, h2⟩ := List.getElem?_eq_some_iff.mp q
    have := List.not_of_lt_findIdx (p := (· == k)) (xs := ns) (i := m) hm
    simp [h2] at this
  · rw [e]
    exact c _ (S.set g rfl)
end L2.Zs
namespace L2.Zs
open PySem PySem.Spec PyProof.Rows
/-! ## list comprehensions -/
def LcGo (J : It) (g : TG) (tt : TT) (te : TE) (vs : List Nat) (σ : St) (Q : VK) (H1 : Hp) : Prop := ∀ D, H1 D = none → ∃ W : Nat → Nat → Hp → Prop, (∃ m, W 0 m (upd H1 D (.lst []))) ∧ ∀ i m H, W i m H →
  (J.stop i H ∧ Q (.ref D) H) ∨ (J.go i H ∧ ∃ Nx : Hp → Prop, (∀ H', Nx H' → ∃ m', m' < m ∧ W (i + 1) m' H') ∧ ∀ x H', J.yld i H x H' → g x (wipe σ vs) H' fun σ2 H2 => wipe σ2 vs = wipe σ vs ∧ tt σ2 H2 fun b H3 =>
    if b = true then te σ2 H3 fun y H4 => ∃ acc, H4 D = some (.lst acc) ∧ acc.length < sizeLine ∧ Nx (upd H4 D (.lst (acc ++ [y]))) else Nx H3)
def LcPut (D : Addr) (y : V) (N : Hp → Prop) (H4 : Hp) : Prop := ∃ acc, H4 D = some (.lst acc) ∧ acc.length < sizeLine ∧ N (upd H4 D (.lst (acc ++ [y])))
section
variable {K : PySem.W.Frag} {H : Hp} {Q : VK} {a b D : Addr} {xs ys : List V} {cs ds es : List As} {wi : TI} {g : TG} {tt : TT} {te : TE} {tr : TA} {vs : List Nat} {σ : St} {R : It → Hp → Prop} {y : V} {N : Hp → Prop}
instance : Stp (tLc wi g tt te vs σ H Q) (wi σ H fun J H1 => LcGo J g tt te vs σ Q H1) := ⟨id⟩
instance : Stp (iRng1 tr σ H R) (tr σ H fun vs H1 => ∃ j : Int, vs = [.int j] ∧ -(2 ^ 62) ≤ j ∧ j < 2 ^ 62 ∧ R (Itr 0 j.toNat) H1) := ⟨id⟩
instance : Stp (iList K te σ H R) (te σ H fun x H1 => ∃ a, x = .ref a ∧ (∃ xs, SqL K H1 a xs) ∧ R (Itl K a) H1) := ⟨id⟩
theorem s_lcput (S : Sep cs H) (g : Chg (pt D (.lst xs)) (pt D (.lst (xs ++ [y]))) cs ds) (h : xs.length < sizeLine) (k : ∀ H', Sep ds H' → N H') : LcPut D y N H :=
  ⟨xs, (let ⟨_, p, _⟩ := g.pick; S.get p), h, k _ (S.set g rfl)⟩
theorem s_lcR {lo : Int} {n : Nat} (S : Sep cs H) (Pv : Addr → Nat → Hp → Prop) (h0 : ∀ D H', Sep (pt D (.lst []) :: cs) H' → Pv D 0 H')
    (hs : ∀ D i H', i < n → Pv D i H' → g (.int (lo + i)) (wipe σ vs) H' fun σ2 H2 => wipe σ2 vs = wipe σ vs ∧ tt σ2 H2 fun b H3 => if b = true then te σ2 H3 fun y H4 => LcPut D y (Pv D (i + 1)) H4 else Pv D (i + 1) H3)
    (hd : ∀ D H', Pv D n H' → Q (.ref D) H') : LcGo (Itr lo n) g tt te vs σ Q H :=
  fun D hD => lc_range (Pv D) (h0 D _ (S.new hD)) (fun i H' hi p => hs D i H' hi p) (fun H' p => hd D H' p)
theorem s_lcL (S : Sep cs H) (Pv : Addr → Nat → Hp → Prop) (h0 : ∀ D H', Sep (pt D (.lst []) :: cs) H' → Pv D 0 H') (hl : ∀ D i H', i ≤ xs.length → Pv D i H' → SqL K H' a xs)
    (hs : ∀ D i x H', xs[i]? = some x → Pv D i H' → g x (wipe σ vs) H' fun σ2 H2 => wipe σ2 vs = wipe σ vs ∧ tt σ2 H2 fun b H3 => if b = true then te σ2 H3 fun y H4 => LcPut D y (Pv D (i + 1)) H4 else Pv D (i + 1) H3)
    (hd : ∀ D H', Pv D xs.length H' → Q (.ref D) H') : LcGo (Itl K a) g tt te vs σ Q H :=
  fun D hD => lc_list (Pv D) (h0 D _ (S.new hD)) (hl D) (fun i x H' e p => hs D i x H' e p) (fun H' p => hd D H' p)
end
/-! ## a pair with a list in it -/
section
variable {K : PySem.W.Frag} {H : Hp} {Q : VK} {a b t1 t2 : Addr} {xs ys : List V} {x : V} {cs ds es ds2 es2 : List As}
theorem shaped_tl {xs : List V} {x : V} (hx : okV x = true) (h : ∀ v ∈ xs, okV v = true) : SeqAt.shaped (.tuple [dV x, .list (xs.map dV)]) = true := by
  show (((dV x).canLay0 && ((PyData.canLayAll0 (xs.map dV)) && true)) && decide (max (PyData.depth (dV x)) (max (PyData.depthAll (xs.map dV) + 1) 0) + 1 ≤ 64)) = true
  rw [can_dV hx, canAll_flat h, dep_dV, depAll_flat]
  rfl
theorem s_neTL (S : Sep cs H) (p1 : Pick (pt t1 (.tup [x, .ref a])) cs ds) (p2 : Pick (pt a (.lst xs)) cs es) (q1 : Pick (pt t2 (.tup [x, .ref b])) cs ds2) (q2 : Pick (pt b (.lst xs)) cs es2) (hx : okV x = true) (h : ∀ v ∈ xs, okV v = true) (k : Q (.bl false) H) : rNeZ K (.ref t1) (.ref t2) H Q := by
  refine s_neD (.tup (SqT.of (S.get p1)) (.cons (dp_flat hx) (.cons (.lst (SqL.of (S.get p2)) (dpAll_flat h)) .nil))) (.tup (SqT.of (S.get q1)) (.cons (dp_flat hx) (.cons (.lst (SqL.of (S.get q2)) (dpAll_flat h)) .nil))) (shaped_tl hx h) (shaped_tl hx h) ?_
  rw [eqv_same (shaped_tl hx h)]
  exact k
end
section
variable {H : Hp} {Q : VK} {i j : Int} {te : TE} {σ : St}
instance : Stp (rMax2 [.int i, .int j] H Q) (Q (.int (if j > i then j else i)) H) := ⟨fun k => ⟨i, j, rfl, k⟩⟩
instance : Stp (rMin2 [.int i, .int j] H Q) (Q (.int (if j < i then j else i)) H) := ⟨fun k => ⟨i, j, rfl, k⟩⟩
/-- one value by many ways -/
theorem s_val (v : V) (h : ∀ Q : VK, Q v H → te σ H Q) (k : Q v H) : te σ H Q := h Q k
end
/-- what a law is to do -/
def spLawK (K : PySem.W.Frag) : Sp := fun vs H Q _ => ∃ (a : Addr) (ns : List Int), vs = [.ref a] ∧ SqL K H a (ns.map V.int) ∧ ns.length ≤ 63 ∧ ∀ H', Q (.bl true) H'
theorem len_law {K vs H Q E} (h : spLawK K vs H Q E) : vs.length = 1 := by obtain ⟨a, ns, rfl, _⟩ := h; rfl
theorem sep_law {K : PySem.W.Frag} {H : Hp} {a : Addr} {xs : List V} (h : SqL K H a xs) : Sep [sq K a xs] H := ⟨H, fun _ => none, Le.refl _, (fun _ _ q => nomatch q), (fun _ _ _ _ q => nomatch q), h, trivial⟩
end L2.Zs
namespace L2.Zs
open PySem PySem.Spec PyProof.Rows
/-! ## C.m(self, ..): a def of a base, through its class -/
/-- the def m of the class at C, called through the class, keeps sp -/
def Bas (P : Program) (w : World) (K : PySem.W.Frag) (mg : PySem.Str → Option Value) (base : Heap) (k : Nat) (C : Addr) (m : PySem.Str) (sp : Sp) : Prop :=
  ∃ f fd ps, FnOk P w K mg base (L2.CX P w) k f fd ps sp ∧ PySem.W.readsIn K C (.type "type") = true ∧ PySem.W.specialIn K (.ref C) "__getattribute__" = some (some (.builtin "type.__getattribute__")) ∧
    PySem.W.findCls K (.ref C) (.type "type") m = some (.val (.ref f)) ∧ PySem.W.keepIn K (.ref f) = true ∧ Binds K fd ps []
def tBas (C : Addr) (sp : Sp) (E : St → XK) (ta : TE) (t : TA) : TE := fun σ H Q => ta σ H fun x H1 => x = .ref C ∧ t σ H1 fun vs H2 => sp vs H2 Q (E σ)
section
variable {X : Cx} {W : WX} {k j : Nat} {C : Addr} {sp : Sp} {m : PySem.Str} {pos apos : Pos} {e o : Expr} {es : List Expr} {ta : TE} {t : TA} {pl : Sem Bool}
theorem z_base (c : Bas X.prog X.w X.K X.mg X.base k C m sp) (tk : Takes X W) (hr : Room j X.A) (hk : k ≤ j) (ho : PE X o ta) (ha : PA X (e :: es) t)
    (hst : starEach (e :: es) X.env = (false, eval e X.env) :: starEach es X.env := by rfl) (hpl : (backTo pos (starEach es X.env)).any (·.1) = false := by rfl)
    (ht : eval (.Call (.Attribute o m apos) (e :: es) [] pos) X.env = (do
      let ov ← eval o X.env
      standAt apos.atName
      let (f, first) ← holding [ov] (getMethod ov m pl)
      callWith pos f first (backTo pos (starEach (e :: es) X.env)) (backToKw pos (keywordEach [] X.env))) := by rfl) :
    PE X (.Call (.Attribute o m apos) (e :: es) [] pos) (tBas C sp (WE W) ta t) := by
  obtain ⟨f, fd, ps, F, h1, h2, h3, kp, hb⟩ := c
  refine ⟨fun pins s σ H Q I h => ?_⟩
  refine PySem.W.methodCall_KW (pl := pl) (thn (ho.run pins s σ H _ I h) fun u s1 ⟨x, H1, I1, rx, ex, q⟩ => ?_) ht
  subst ex
  obtain rfl : u = Value.ref C := rx
  refine PySem.W.method_cls I1.kIn h2 (PySem.W.cls_value I1.kIn h1 h3 rfl ?_)
  refine PySem.W.callWith_K (h₀ := X.base) I1.ok.mod.kin kp (thn (ha.run pos pins _ σ H1 _ (I1.tok _) q) fun us s2 ⟨vs, H2, I2, r, q2⟩ => ⟨I2.kIn, ?_⟩) hst hpl
  exact run_fnS F (hr.mono hk) hb (passAt tk σ) I2 r q2
end
section
variable {K : PySem.W.Frag} {σ : St} {H : Hp} {Q : VK} {v x y : V} {ta tb tv td ty : TE} {a b C : Addr} {cs ds cs' : List As} {D : Ends} {tr : TA} {sp : Sp} {E : St → XK} {R : Prop}
instance : Stp (tBas C sp E ta tr σ H Q) (ta σ H fun x H1 => x = .ref C ∧ tr σ H1 fun vs H2 => sp vs H2 Q (E σ)) := ⟨id⟩
instance : Stp (V.ref C = .ref C ∧ R) R := ⟨fun k => ⟨rfl, k⟩⟩
/-! ## dicts whose keys are texts -/
def DG (x y : V) (Q : VK) (H : Hp) : Prop := ∃ a v, x = .ref a ∧ DGet H a y (some v) ∧ Q v H
def DP (x y v : V) (N : Hp → Prop) (H : Hp) : Prop := ∃ a H4, x = .ref a ∧ DPut H a y v H4 ∧ N H4
instance : Stp (tDGet td ty σ H Q) (td σ H fun x H1 => ty σ H1 fun y H2 => DG x y Q H2) := ⟨id⟩
instance : Stp (sDPut td ty tv D σ H) (tv σ H fun v H1 => td σ H1 fun x H2 => ty σ H2 fun y H3 => DP x y v (fun H4 => D.nx σ H4) H3) := ⟨id⟩
def DA (tv : TE) (rd : V → V → Hp → VK → Prop) (D : Ends) (σ : St) (x y : V) (H : Hp) : Prop := ∃ a v, x = .ref a ∧ DGet H a y (some v) ∧ tv σ H fun y2 H3 => rd v y2 H3 fun z H4 => ∃ H5, DPut H4 a y z H5 ∧ D.nx σ H5
instance {rd : V → V → Hp → VK → Prop} : Stp (sDAug td ty tv rd D σ H) (td σ H fun x H1 => ty σ H1 fun y H2 => DA tv rd D σ x y H2) := ⟨id⟩
theorem s_dget {kvs : List (Key × V)} {z : PySem.Str} (S : Sep cs H) (p : Pick (pt a (.dK kvs)) cs ds) (h : valV kvs (.inr z) = some v) (k : Q v H) : DG (.ref a) (.str z) Q H :=
  ⟨a, v, rfl, h ▸ DGet.k (k := .inr z) (S.get p), k⟩
theorem s_dput {kvs kvs' : List (Key × V)} {z : PySem.Str} {N : Hp → Prop} (S : Sep cs H) (g : Chg (pt a (.dK kvs)) (pt a (.dK kvs')) cs cs') (e : putK kvs (.inr z) v = kvs') (h : kvs.length < sizeLine) (k : ∀ H', Sep cs' H' → N H') : DP (.ref a) (.str z) v N H :=
  ⟨a, _, rfl, e ▸ DPut.k (k := .inr z) (let ⟨_, p, _⟩ := g.pick; S.get p) h, k _ (S.set g rfl)⟩
theorem vv_hd {z : PySem.Str} {v : V} {r : List (Key × V)} : valV ((.inr z, v) :: r) (.inr z : Key) = some v := valV_pos rfl
theorem vv_tl {z z' : PySem.Str} {v : V} {r : List (Key × V)} {o : Option V} (h : z' ≠ z) (k : valV r (.inr z : Key) = o) : valV ((.inr z', v) :: r) (.inr z : Key) = o := by
  rw [valV_neg (fun e => h (Sum.inr.inj e)), k]
end
end L2.Zs
namespace L2.Zs
open PySem PySem.Spec PyProof.Rows
/-! ## seekers -/
structure Sk where
  r : Rk
  pl : Int
  sp : List Int
  gn : List Int
  nx : Nat
def Sk.n (s : Sk) : Nat := s.r.held.length
structure Sk.ok (s : Sk) : Prop where
  r : s.r.ok
  q : s.sp.length = s.r.held.length
  g : s.gn.length = s.r.held.length
  x : s.nx < s.r.held.length
  p : 0 < s.pl
structure SL where
  C : Addr
  dx : Addr
  p : Addr
  l1 : Addr
  l2 : Addr
  l3 : Addr
  l4 : Addr
  l5 : Addr
@[reducible] def skL (B : SL) (s : Sk) : RL := ⟨B.C, B.dx, B.p, B.l1, B.l2, B.l3, [("places", .int s.pl), ("spots", .ref B.l4), ("gone", .ref B.l5), ("next_one", .int s.nx)]⟩
@[reducible] def skC (B : SL) (s : Sk) (F : List As) : List As := rkC (skL B s) s.r (pt B.l4 (.lst (s.sp.map .int)) :: pt B.l5 (.lst (s.gn.map .int)) :: F)
theorem skM : ∀ m ∈ rackMeths, (m == ("places" : PySem.Str)) = false ∧ (m == ("spots" : PySem.Str)) = false ∧ (m == ("gone" : PySem.Str)) = false ∧ (m == ("next_one" : PySem.Str)) = false := by decide +kernel
theorem sk_nm {v1 v2 v3 v4 : V} : ∀ m ∈ rackMeths, List.lookup m [(("places" : PySem.Str), v1), ("spots", v2), ("gone", v3), ("next_one", v4)] = none := fun m hm =>
  lk_tl (skM m hm).1 (lk_tl (skM m hm).2.1 (lk_tl (skM m hm).2.2.1 (lk_tl (skM m hm).2.2.2 lk_nil)))
theorem skL_good {B : SL} {s : Sk} {Cs : List Addr} (h : B.C ∈ Cs) : (skL B s).good Cs := ⟨h, sk_nm⟩
theorem rkF_else {l1 l2 l3 : Addr} {more : List (PySem.Str × V)} {f : PySem.Str} {o : Option V} (h1 : (f == ("held_by" : PySem.Str)) = false) (h2 : (f == ("broken" : PySem.Str)) = false) (h3 : (f == ("taken" : PySem.Str)) = false) (h : more.lookup f = o) : (rkF l1 l2 l3 more).lookup f = o :=
  lk_tl h1 (lk_tl h2 (lk_tl h3 h))
theorem rkF_put {l1 l2 l3 : Addr} {more more' : List (PySem.Str × V)} {f : PySem.Str} {v : V} (h1 : (f == ("held_by" : PySem.Str)) = false) (h2 : (f == ("broken" : PySem.Str)) = false) (h3 : (f == ("taken" : PySem.Str)) = false) (h : putF f v more = more') : putF f v (rkF l1 l2 l3 more) = rkF l1 l2 l3 more' :=
  pf_tl h1 (pf_tl h2 (pf_tl h3 h))
structure ST (K : PySem.W.Frag) (Cs : List Addr) : Prop where
  cls : ∀ C ∈ Cs, Cls K C
  n1 : ∀ C ∈ Cs, NoAttr K C "places"
  n2 : ∀ C ∈ Cs, NoAttr K C "spots"
  n3 : ∀ C ∈ Cs, NoAttr K C "gone"
  n4 : ∀ C ∈ Cs, NoAttr K C "next_one"
section
variable {K : PySem.W.Frag} {Cs : List Addr} {H : Hp} {Q : VK} {C dx p l1 l2 l3 : Addr} {cs ds cs' : List As} {v1 v2 v3 v4 v : V} {R : Hp → Prop}
theorem s_pl (T : ST K Cs) (g : C ∈ Cs) (S : Sep cs H) (q : Pick (pt p (.ins C dx (rkF l1 l2 l3 [("places", v1), ("spots", v2), ("gone", v3), ("next_one", v4)]))) cs ds) (k : Q v1 H) : FldGet K "places" (.ref p) Q H :=
  s_fldR S q (T.cls _ g) (T.n1 _ g) (rkF_else (by decide +kernel) (by decide +kernel) (by decide +kernel) lk_hd) k
theorem s_sp (T : ST K Cs) (g : C ∈ Cs) (S : Sep cs H) (q : Pick (pt p (.ins C dx (rkF l1 l2 l3 [("places", v1), ("spots", v2), ("gone", v3), ("next_one", v4)]))) cs ds) (k : Q v2 H) : FldGet K "spots" (.ref p) Q H :=
  s_fldR S q (T.cls _ g) (T.n2 _ g) (rkF_else (by decide +kernel) (by decide +kernel) (by decide +kernel) (lk_tl (by decide +kernel) lk_hd)) k
theorem s_gn (T : ST K Cs) (g : C ∈ Cs) (S : Sep cs H) (q : Pick (pt p (.ins C dx (rkF l1 l2 l3 [("places", v1), ("spots", v2), ("gone", v3), ("next_one", v4)]))) cs ds) (k : Q v3 H) : FldGet K "gone" (.ref p) Q H :=
  s_fldR S q (T.cls _ g) (T.n3 _ g) (rkF_else (by decide +kernel) (by decide +kernel) (by decide +kernel) (lk_tl (by decide +kernel) (lk_tl (by decide +kernel) lk_hd))) k
theorem s_nx (T : ST K Cs) (g : C ∈ Cs) (S : Sep cs H) (q : Pick (pt p (.ins C dx (rkF l1 l2 l3 [("places", v1), ("spots", v2), ("gone", v3), ("next_one", v4)]))) cs ds) (k : Q v4 H) : FldGet K "next_one" (.ref p) Q H :=
  s_fldR S q (T.cls _ g) (T.n4 _ g) (rkF_else (by decide +kernel) (by decide +kernel) (by decide +kernel) (lk_tl (by decide +kernel) (lk_tl (by decide +kernel) (lk_tl (by decide +kernel) lk_hd)))) k
theorem s_nxS (T : ST K Cs) (g : C ∈ Cs) (S : Sep cs H) (q : Chg (pt p (.ins C dx (rkF l1 l2 l3 [("places", v1), ("spots", v2), ("gone", v3), ("next_one", v4)]))) (pt p (.ins C dx (rkF l1 l2 l3 [("places", v1), ("spots", v2), ("gone", v3), ("next_one", v)]))) cs cs')
    (k : ∀ H', Sep cs' H' → R H') : FldSet K "next_one" (.ref p) v R H := by
  have e : putF "next_one" v (rkF l1 l2 l3 [("places", v1), ("spots", v2), ("gone", v3), ("next_one", v4)]) = rkF l1 l2 l3 [("places", v1), ("spots", v2), ("gone", v3), ("next_one", v)] :=
    rkF_put (by decide +kernel) (by decide +kernel) (by decide +kernel) (pf_tl (by decide +kernel) (pf_tl (by decide +kernel) (pf_tl (by decide +kernel) pf_hd)))
  refine s_sfldR S (e ▸ q) (T.cls _ g) (T.n4 _ g) (by show 7 < 1000; decide) k
end
/-! ### what the defs of seekers are worth -/
def Sk.new (n : Nat) (pl : Int) : Sk := ⟨Rk.new n, pl, List.replicate n 0, List.replicate n 0, 0⟩
theorem Sk.new_ok {n : Nat} {pl : Int} (h0 : 0 < n) (h : n ≤ 60) (hp : 0 < pl) : (Sk.new n pl).ok := ⟨Rk.new_ok h, by simp [Sk.new, Rk.new], by simp [Sk.new, Rk.new], by simpa [Sk.new, Rk.new] using h0, hp⟩
def Sk.ord (s : Sk) : List Nat := (List.range s.r.held.length).map fun far => (s.nx + far) % s.r.held.length
def Sk.first (s : Sk) : Option Nat := s.ord.find? s.r.rdy
def Sk.way (s : Sk) (k : Nat) (place : Int) : Int := (place - s.sp.getD k 0) % s.pl
def Sk.took (s : Sk) (k : Nat) (place : Int) : Sk := { r := s.r.give k (.int place), pl := s.pl, sp := s.sp.set k place, gn := s.gn.set k (s.gn.getD k 0 + s.way k place), nx := (k + 1) % s.r.held.length }
def Rk.jam (r : Rk) : List Int := ((List.range r.held.length).filter fun k => r.brk.getD k false).map fun k => ((k : Nat) : Int)
section
variable (Cs : List Addr)
def spSkInit (C : Addr) : Sp := fun vs H Q E => ∃ (p dx : Addr) (n pl : Int) (F : List As), vs = [.ref p, .int n, .int pl] ∧ C ∈ Cs ∧ 1 ≤ n ∧ n ≤ 60 ∧ Sep (pt p (.ins C dx []) :: F) H ∧
  ∀ l1 l2 l3 l4 l5 H', Sep (skC ⟨C, dx, p, l1, l2, l3, l4, l5⟩ (Sk.new n.toNat pl) F) H' → Q .non H'
def spSkTake (C : Addr) : Sp := fun vs H Q E => ∃ (B : SL) (s : Sk) (place : Int) (F : List As), vs = [.ref B.p, .int place] ∧ B.C ∈ Cs ∧ s.ok ∧ Sep (skC B s F) H ∧
  (s.first = none → ∀ H', Sep (skC B s F) H' → Q .non H') ∧ (∀ k, s.first = some k → k < s.r.held.length → ∀ t H', Sep (pt t (.tup [.int k, .int (s.way k place)]) :: skC B (s.took k place) F) H' → Q (.ref t) H')
def spHolders (C : Addr) : Sp := fun vs H Q E => ∃ (L : RL) (r : Rk) (F : List As), vs = [.ref L.p] ∧ L.good Cs ∧ Sep (rkC L r F) H ∧ ∀ q H', Sep (pt q (.lst r.held) :: (rkC L r F)) H' → Q (.ref q) H'
def spJam (C : Addr) : Sp := fun vs H Q E => ∃ (L : RL) (r : Rk) (F : List As), vs = [.ref L.p] ∧ L.good Cs ∧ r.ok ∧ Sep (rkC L r F) H ∧ ∀ q H', Sep (pt q (.lst (r.jam.map .int)) :: (rkC L r F)) H' → Q (.ref q) H'
def spMark (C : Addr) : Sp := fun vs H Q E => ∃ (B : SL) (s : Sk) (F : List As), vs = [.ref B.p] ∧ B.C ∈ Cs ∧ Sep (skC B s F) H ∧ Q (.int s.nx) H
def spSteps (C : Addr) : Sp := fun vs H Q E => ∃ (B : SL) (s : Sk) (F : List As), vs = [.ref B.p] ∧ B.C ∈ Cs ∧ Sep (skC B s F) H ∧ ∀ q H', Sep (pt q (.lst (s.gn.map .int)) :: (skC B s F)) H' → Q (.ref q) H'
end
section
variable {Cs : List Addr} {C : Addr} {vs : List V} {H : Hp} {Q : VK} {E : XK}
theorem len_skinit (h : spSkInit Cs C vs H Q E) : vs.length = 3 := by obtain ⟨p, dx, n, pl, F, rfl, _⟩ := h; rfl
theorem len_sktake (h : spSkTake Cs C vs H Q E) : vs.length = 2 := by obtain ⟨L, r, v, F, rfl, _⟩ := h; rfl
theorem len_holders (h : spHolders Cs C vs H Q E) : vs.length = 1 := by obtain ⟨L, r, F, rfl, _⟩ := h; rfl
theorem len_jam (h : spJam Cs C vs H Q E) : vs.length = 1 := by obtain ⟨L, r, F, rfl, _⟩ := h; rfl
theorem len_mark (h : spMark Cs C vs H Q E) : vs.length = 1 := by obtain ⟨L, r, F, rfl, _⟩ := h; rfl
theorem len_steps (h : spSteps Cs C vs H Q E) : vs.length = 1 := by obtain ⟨L, r, F, rfl, _⟩ := h; rfl
end
end L2.Zs
namespace L2.Zs
open PySem PySem.Spec PyProof.Rows
/-! ## dicts written out -/
def DDone (p : Addr) (Q : VK) : List (V × V) → Hp → Prop := fun ps H2 => H2 p = some (.dK []) ∧ ∃ kvs : List (Key × V), ps = kvs.map (fun kv => (kV kv.1, kv.2)) ∧ kvs.length ≤ 15 ∧ Q (.ref p) (upd H2 p (.dK (mergeK [] kvs)))
def DNew (trs : List (TE × TE)) (σ : St) (Q : VK) (H : Hp) : Prop := ∀ p, H p = none → tPairs trs σ (upd H p (.dK [])) (DDone p Q)
theorem putK_new {kvs : List (Key × V)} {ks : List Key} {k : Key} {v : V} (e : kvs.map (·.1) = ks) (hn : (k :: ks).Nodup) : putK kvs k v = kvs ++ [(k, v)] := by
  have h : k ∉ ks := (List.nodup_cons.mp hn).1
  unfold putK
  rw [if_neg]
  intro z
  obtain ⟨kv, h1, h2⟩ := List.any_eq_true.mp z
  exact h (e ▸ of_decide_eq_true h2 ▸ List.mem_map_of_mem h1)
theorem merge_acc : ∀ {more acc : List (Key × V)}, ((acc ++ more).map (·.1)).Nodup → mergeK acc more = acc ++ more
  | [], acc, _ => by simp [mergeK]
  | (k, v) :: r, acc, h => by
    show mergeK (putK acc k v) r = _
    rw [putK_new rfl (by
      rw [List.map_append, List.nodup_append] at h
      exact List.nodup_cons.mpr ⟨fun z => h.2.2 k z k (by simp) rfl, h.1⟩), merge_acc (by simpa using h)]
    simp
theorem merge_new {kvs : List (Key × V)} {ks : List Key} (e : kvs.map (·.1) = ks) (h : ks.Nodup) : mergeK [] kvs = kvs := by
  rw [merge_acc (by rw [List.nil_append, e]; exact h)]
  rfl
section
variable {K : PySem.W.Frag} {σ : St} {H : Hp} {Q : VK} {tk tv : TE} {r trs : List (TE × TE)} {QP : List (V × V) → Hp → Prop} {cs cs' ds : List As} {p : Addr} {ps : List (V × V)}
instance : Stp (tDisp trs σ H Q) (DNew trs σ Q H) := ⟨id⟩
instance : Stp (tPairs [] σ H QP) (QP [] H) := ⟨id⟩
instance : Stp (tPairs ((tk, tv) :: r) σ H QP) (tk σ H fun x H1 => tv σ H1 fun y H2 => tPairs r σ H2 fun ps H3 => QP ((x, y) :: ps) H3) := ⟨id⟩
theorem s_dnew (S : Sep cs H) (k : ∀ p H', Sep (pt p (.dK []) :: cs) H' → tPairs trs σ H' (DDone p Q)) : DNew trs σ Q H := fun p hp => k p _ (S.new hp)
theorem s_ddone {kvs : List (Key × V)} {ks : List Key} (S : Sep cs H) (g : Chg (pt p (.dK [])) (pt p (.dK kvs)) cs cs') (e : ps = kvs.map (fun kv => (kV kv.1, kv.2))) (hl : kvs.length ≤ 15) (ek : kvs.map (·.1) = ks) (hn : ks.Nodup) (k : ∀ H', Sep cs' H' → Q (.ref p) H') : DDone p Q ps H := by
  refine ⟨(let ⟨_, q, _⟩ := g.pick; S.get q), kvs, e, hl, ?_⟩
  rw [merge_new ek hn]
  exact k _ (S.set g rfl)
instance {QT : Bool → Hp → Prop} : Stp (tYes σ H QT) (QT true H) := ⟨id⟩
instance {A B : Prop} : Stp (if decide (V.non = V.non) = true then A else B) A := ⟨fun h => by rw [decide_eq_true rfl]; exact s_t h⟩
instance {a : Addr} {A B : Prop} : Stp (if decide (V.ref a = V.non) = true then A else B) B := ⟨fun h => by rw [decide_eq_false (fun z => nomatch z)]; exact s_f h⟩
instance {i : Int} {A B : Prop} : Stp (if decide (V.int i = V.non) = true then A else B) B := ⟨fun h => by rw [decide_eq_false (fun z => nomatch z)]; exact s_f h⟩
instance {a : Addr} {A B : Prop} : Stp (if (!decide (V.ref a = V.non)) = true then A else B) A := ⟨fun h => by rw [decide_eq_false (fun z => nomatch z)]; exact s_t h⟩
instance {A B : Prop} : Stp (if (!decide (V.non = V.non)) = true then A else B) B := ⟨fun h => by rw [decide_eq_true rfl]; exact s_f h⟩
/-! ## sorted -/
theorem s_sorted {a : Addr} {ns : List Int} (S : Sep cs H) (q : Pick (pt a (.lst (ns.map V.int))) cs ds) (h : ns.length < 64) (k : ∀ (ns' : List Int) (l : Addr) (H' : Hp), ns'.Perm ns → ns'.Pairwise (· ≤ ·) → Sep (pt l (.lst (ns'.map V.int)) :: cs) H' → Q (.ref l) H') : rSorted K [.ref a] H Q :=
  ⟨a, ns, rfl, SqL.of (S.get q), h, fun ns' l p1 p2 hl => k ns' l _ p1 p2 (S.new hl)⟩
end
theorem sorted_eq : ∀ {xs ys : List Int}, xs.Perm ys → xs.Pairwise (· ≤ ·) → ys.Pairwise (· ≤ ·) → xs = ys
  | [], ys, p, _, _ => (List.nil_perm.mp p).symm
  | x :: xs, [], p, _, _ => absurd p.length_eq (by simp)
  | x :: xs, y :: ys, p, h1, h2 => by
    have a1 := List.pairwise_cons.mp h1
    have a2 := List.pairwise_cons.mp h2
    have e : x = y := by
      have m1 : x ∈ y :: ys := p.subset List.mem_cons_self
      have m2 : y ∈ x :: xs := p.symm.subset List.mem_cons_self
      rcases List.mem_cons.mp m1 with e | m1
      · exact e
      · rcases List.mem_cons.mp m2 with e | m2
        · exact e.symm
        · have := a1.1 y m2
          have := a2.1 x m1
          omega
    subst e
    rw [sorted_eq ((List.perm_cons x).mp p) a1.2 a2.2]
/-! ## lists of flat lists compared -/
section
variable {K : PySem.W.Frag} {H : Hp} {Q : VK} {t1 t2 a1 a2 a3 a4 b1 b2 b3 b4 : Addr} {x1 x2 x3 x4 : List V} {cs ds es c1 c2 c3 c4 d1 d2 d3 d4 : List As}
theorem shaped_4 (h1 : ∀ v ∈ x1, okV v = true) (h2 : ∀ v ∈ x2, okV v = true) (h3 : ∀ v ∈ x3, okV v = true) (h4 : ∀ v ∈ x4, okV v = true) : SeqAt.shaped (.list [.list (x1.map dV), .list (x2.map dV), .list (x3.map dV), .list (x4.map dV)]) = true := by
  show ((PyData.canLayAll0 (x1.map dV) && (PyData.canLayAll0 (x2.map dV) && (PyData.canLayAll0 (x3.map dV) && (PyData.canLayAll0 (x4.map dV) && true)))) && decide (max (PyData.depthAll (x1.map dV) + 1) (max (PyData.depthAll (x2.map dV) + 1) (max (PyData.depthAll (x3.map dV) + 1) (max (PyData.depthAll (x4.map dV) + 1) 0))) + 1 ≤ 64)) = true
  rw [canAll_flat h1, canAll_flat h2, canAll_flat h3, canAll_flat h4, depAll_flat, depAll_flat, depAll_flat, depAll_flat]
  rfl
theorem s_ne4 (S : Sep cs H) (p : Pick (pt t1 (.lst [.ref a1, .ref a2, .ref a3, .ref a4])) cs ds) (q : Pick (pt t2 (.lst [.ref b1, .ref b2, .ref b3, .ref b4])) cs es)
    (p1 : Pick (pt a1 (.lst x1)) cs c1) (p2 : Pick (pt a2 (.lst x2)) cs c2) (p3 : Pick (pt a3 (.lst x3)) cs c3) (p4 : Pick (pt a4 (.lst x4)) cs c4) (q1 : Pick (pt b1 (.lst x1)) cs d1) (q2 : Pick (pt b2 (.lst x2)) cs d2) (q3 : Pick (pt b3 (.lst x3)) cs d3) (q4 : Pick (pt b4 (.lst x4)) cs d4)
    (h1 : ∀ v ∈ x1, okV v = true) (h2 : ∀ v ∈ x2, okV v = true) (h3 : ∀ v ∈ x3, okV v = true) (h4 : ∀ v ∈ x4, okV v = true) (k : Q (.bl false) H) : rNeZ K (.ref t1) (.ref t2) H Q := by
  have L : ∀ {a : Addr} {x : List V} {cs' : List As}, Pick (pt a (.lst x)) cs cs' → (∀ v ∈ x, okV v = true) → Dp K H (.ref a) (.list (x.map dV)) := fun q h => .lst (SqL.of (S.get q)) (dpAll_flat h)
  refine s_neD (.lst (SqL.of (S.get p)) (.cons (L p1 h1) (.cons (L p2 h2) (.cons (L p3 h3) (.cons (L p4 h4) .nil))))) (.lst (SqL.of (S.get q)) (.cons (L q1 h1) (.cons (L q2 h2) (.cons (L q3 h3) (.cons (L q4 h4) .nil))))) (shaped_4 h1 h2 h3 h4) (shaped_4 h1 h2 h3 h4) ?_
  rw [eqv_same (shaped_4 h1 h2 h3 h4)]
  exact k
end
theorem k_sorted {X : Cx} {K : PySem.W.Frag} (hK : X.K = K) : CallR X (.builtin "sorted") (rSorted K) := hK ▸ cr_sorted
end L2.Zs
namespace L2.Zs
open PySem PySem.Spec PyProof.Rows
/-! ## a text over and over -/
def rRepS : R2 := fun x y H Q => ∃ (z : PySem.Str) (k : Int), x = .str z ∧ y = .int k ∧ 1 ≤ k ∧ k < 1000 ∧ z.length ≤ 10000 ∧ ∀ z' : PySem.Str, z'.length ≤ z.length * k.toNat → Q (.str z') H
theorem fold_len (x : Array Nat) : ∀ (n : Nat) (b : Array Nat), ((List.replicate n x).foldl (· ++ ·) b).size = b.size + x.size * n
  | 0, b => by simp
  | n + 1, b => by
    rw [List.replicate_succ, List.foldl_cons, fold_len x n (b ++ x), Array.size_append, Nat.mul_succ]
    omega
theorem zo_repS {X : Cx} : OpR X (binaryOp .Mult) rRepS := by
  intro pins s σ H x y v u Q I rx ry h
  obtain ⟨z, k, rfl, rfl, k1, k2, hz, q⟩ := h
  obtain ⟨t, rfl⟩ := rx
  obtain ⟨t', rfl⟩ := ry
  have hl : z.length * k.toNat ≤ sizeLine := by
    refine Nat.le_trans (Nat.mul_le_mul hz (show k.toNat ≤ 1000 by omega)) (by decide)
  refine PySem.P.mul_str (by rw [decide_eq_false (by omega), decide_eq_false (by omega)]; rfl) (fun _ _ => ?_) (fun _ _ => ?_) ?_
  · have h1 : (z.length : Int) ≤ 10000 := Int.ofNat_le.mpr hz
    have h2 : (10000 : Int) ≤ (2 ^ 63 - 1) / k := by
      rw [Int.le_ediv_iff_mul_le (by omega)]
      omega
    omega
  · show decide (z.length * k.toNat > sizeLine) = false
    exact decide_eq_false (by omega)
  · rw [if_neg (by omega)]
    split
    · exact ⟨.str z, H, I, ⟨_, rfl⟩, q z (by
        have : 1 ≤ k.toNat := by omega
        exact Nat.le_mul_of_pos_right _ this)⟩
    · refine ⟨PySem.fits_reps (by show decide (z.length * k.toNat > sizeLine) = false; exact decide_eq_false (by omega)), ?_⟩
      · refine ⟨.str _, H, I.tok _, ⟨_, rfl⟩, q _ ?_⟩
        show Array.size _ ≤ _
        rw [fold_len]
        simp [PySem.Str.length]
/-! ## texts walked and cut -/
section
variable {K : PySem.W.Frag} {H : Hp} {Q : VK} {σ : St} {g : TG} {tB : TS} {D : Ends} {te : TE} {R : It → Hp → Prop} {z : PySem.Str} {cs ds cs' : List As}
def ForS (g : TG) (tB : TS) (D : Ends) (σ : St) (x : V) (H : Hp) : Prop := ∃ z, x = .str z ∧ Lp (Its z) g tB D σ H
instance : Stp (tFor (iStr te) g tB D σ H) (te σ H fun x H1 => ForS g tB D σ x H1) := ⟨id⟩
theorem s_forS (k : Lp (Its z) g tB D σ H) : ForS g tB D σ (.str z) H := ⟨z, rfl, k⟩
theorem lp_str (Pv : Nat → St → Hp → Prop) (h0 : Pv 0 σ H) (hs : ∀ i c σ H, z.cps.toList[i]? = some c → Pv i σ H → g (.str ⟨#[c]⟩) σ H fun σ2 H2 => tB { D with nx := Pv (i + 1), ct := Pv (i + 1), bk := D.nx } σ2 H2) (hd : ∀ σ H, Pv z.cps.toList.length σ H → D.nx σ H) :
    Lp (Its z) g tB D σ H := by
  refine ⟨fun i m σ H => m = z.cps.size - i ∧ i ≤ z.cps.size ∧ Pv i σ H, ⟨z.cps.size, by simp, Nat.zero_le _, h0⟩, ?_⟩
  rintro i m σ H ⟨rfl, hi, p⟩
  by_cases hlt : i < z.cps.size
  · refine .inr ⟨hlt, Pv (i + 1), fun σ' H' p' => ⟨z.cps.size - (i + 1), by omega, rfl, hlt, p'⟩, fun x H' y => ?_⟩
    obtain ⟨e, c, hc, rfl⟩ := y
    subst e
    exact hs i c σ _ (by rw [Array.getElem?_toList]; exact hc) p
  · have e : i = z.cps.size := by omega
    subst e
    exact .inl ⟨Nat.le_refl _, hd σ H (by rw [Array.length_toList]; exact p)⟩
theorem s_slS {lo hi : Option Int} (h : z.length ≤ 10000000) (k : ∀ z' : PySem.Str, z'.length ≤ z.length → Q (.str z') H) : rSlS (.str z) lo hi H Q :=
  ⟨z, rfl, Nat.le_trans h (by decide), k _ (cutS_length z lo hi)⟩
end
section
variable {H : Hp} {Q : VK} {σ : St} {te : TE} {lo hi : TO} {r : V → Option Int → Option Int → Hp → VK → Prop} {QO : Option Int → Hp → Prop} {i : Int} {R : Int → Prop}
instance : Stp (L2.tSl r te lo hi σ H Q) (te σ H fun x H1 => lo σ H1 fun l H2 => hi σ H2 fun u H3 => r x l u H3 Q) := ⟨id⟩
instance : Stp (tNoPart σ H QO) (QO none H) := ⟨id⟩
instance : Stp (tPart te σ H QO) (te σ H fun x H1 => ∃ i, x = .int i ∧ QO (some i) H1) := ⟨id⟩
instance : Stp (∃ j, V.int i = .int j ∧ R j) (R i) := ⟨fun k => ⟨i, rfl, k⟩⟩
end
/-! ## many tuples -/
def tl (as : List Addr) (ds : List (List V)) : As := fun H => as.length = ds.length ∧ ∀ (i : Nat) (a : Addr) (d : List V), as[i]? = some a → ds[i]? = some d → H a = some (.tup d)
theorem Sep.join {c d e : As} {F : List As} {H : Hp} (h : Sep (c :: d :: F) H) (f : ∀ H1 H2 H', Le H1 H' → Le H2 H' → c H1 → d H2 → e H') : Sep (e :: F) H := by
  obtain ⟨H1, H2, a, b, x, q, H3, H4, a2, b2, x2, q2, y⟩ := h
  exact ⟨uni H1 H3, H4, uni_le a (a2.trans b), b2.trans b, dj_uni (x.le (Le.refl _) b2) x2, f _ _ _ le_uni1 (le_uni2 a (a2.trans b)) q q2, y⟩
theorem Sep.tl0 {F : List As} {H : Hp} (h : Sep F H) : Sep (tl [] [] :: F) H :=
  ⟨fun _ => none, H, (fun _ _ q => nomatch q), Le.refl _, (fun _ _ q => nomatch q), ⟨rfl, fun i a d h => by simp at h⟩, h⟩
theorem Sep.tlAdd {as : List Addr} {ds : List (List V)} {t : Addr} {d : List V} {n : Nat} {F : List As} {H : Hp} (h : Sep (pt t (.tup d) :: tl as ds :: F) H) : Sep (tl (as ++ List.replicate n t) (ds ++ List.replicate n d) :: F) H := by
  refine h.join fun H1 H2 H' l1 l2 q1 q2 => ⟨by simp [q2.1], fun i a d' h1 h2 => ?_⟩
  by_cases c : i < as.length
  · rw [List.getElem?_append_left c] at h1
    rw [List.getElem?_append_left (q2.1 ▸ c)] at h2
    exact l2 _ _ (q2.2 i a d' h1 h2)
  · rw [List.getElem?_append_right (by omega)] at h1
    rw [List.getElem?_append_right (by rw [← q2.1]; omega)] at h2
    have e1 := List.eq_of_mem_replicate (List.mem_of_getElem? h1)
    have e2 := List.eq_of_mem_replicate (List.mem_of_getElem? h2)
    subst e1 e2
    exact l1 _ _ q1
theorem Sep.tlGet {as : List Addr} {ds : List (List V)} {cs es : List As} {H : Hp} (h : Sep cs H) (p : Pick (tl as ds) cs es) : tl as ds H := by
  obtain ⟨H1, H2, l, _, _, q, _⟩ := h.pick p
  exact ⟨q.1, fun i a d h1 h2 => l _ _ (q.2 i a d h1 h2)⟩
def dT (d : List V) : PyData := .tuple (d.map dV)
theorem dp_tups {K : PySem.W.Frag} {H : Hp} : ∀ {as : List Addr} {ds : List (List V)}, tl as ds H → (∀ d ∈ ds, ∀ v ∈ d, okV v = true) → DpAll K H (as.map V.ref) (ds.map dT)
  | [], [], _, _ => .nil
  | [], _ :: _, h, _ => by cases h.1
  | _ :: _, [], h, _ => by cases h.1
  | a :: as, d :: ds, h, ok => .cons (.tup (SqT.of (h.2 0 a d rfl rfl)) (dpAll_flat (ok d List.mem_cons_self))) (dp_tups ⟨by have := h.1; simpa using this, fun i a d h1 h2 => h.2 (i + 1) a d h1 h2⟩ fun d' h' => ok d' (List.mem_cons_of_mem _ h'))
theorem can_tups : ∀ {ds : List (List V)}, (∀ d ∈ ds, ∀ v ∈ d, okV v = true) → PyData.canLayAll0 (ds.map dT) = true
  | [], _ => rfl
  | d :: ds, ok => by
    show (PyData.canLayAll0 (d.map dV) && PyData.canLayAll0 (ds.map dT)) = true
    rw [canAll_flat (ok d List.mem_cons_self), can_tups fun d' h' => ok d' (List.mem_cons_of_mem _ h')]
    rfl
theorem dep_tups : ∀ (ds : List (List V)), PyData.depthAll (ds.map dT) ≤ 1
  | [] => Nat.zero_le _
  | d :: ds => by
    show max (PyData.depthAll (d.map dV) + 1) (PyData.depthAll (ds.map dT)) ≤ 1
    rw [depAll_flat]
    have := dep_tups ds
    omega
theorem shaped_tups {ds : List (List V)} (ok : ∀ d ∈ ds, ∀ v ∈ d, okV v = true) : SeqAt.shaped (.list (ds.map dT)) = true := by
  show (PyData.canLayAll0 (ds.map dT) && decide (PyData.depthAll (ds.map dT) + 1 ≤ 64)) = true
  rw [can_tups ok, decide_eq_true (by have := dep_tups ds; omega)]
  rfl
section
variable {K : PySem.W.Frag} {H : Hp} {Q : VK} {a b : Addr} {as bs : List Addr} {dd : List (List V)} {cs c1 c2 c3 c4 : List As}
theorem s_neLD (S : Sep cs H) (p : Pick (pt a (.lst (as.map V.ref))) cs c1) (pt' : Pick (tl as dd) cs c2) (q : Pick (pt b (.lst (bs.map V.ref))) cs c3) (qt : Pick (tl bs dd) cs c4) (ok : ∀ d ∈ dd, ∀ v ∈ d, okV v = true) (k : Q (.bl false) H) : rNeZ K (.ref a) (.ref b) H Q := by
  refine s_neD (.lst (SqL.of (S.get p)) (dp_tups (S.tlGet pt') ok)) (.lst (SqL.of (S.get q)) (dp_tups (S.tlGet qt) ok)) (shaped_tups ok) (shaped_tups ok) ?_
  rw [eqv_same (shaped_tups ok)]
  exact k
theorem s_eqLD (S : Sep cs H) (p : Pick (pt a (.lst (as.map V.ref))) cs c1) (pt' : Pick (tl as dd) cs c2) (q : Pick (pt b (.lst (bs.map V.ref))) cs c3) (qt : Pick (tl bs dd) cs c4) (ok : ∀ d ∈ dd, ∀ v ∈ d, okV v = true) (k : Q (.bl true) H) : rEqZ K (.ref a) (.ref b) H Q := by
  refine s_eqD (.lst (SqL.of (S.get p)) (dp_tups (S.tlGet pt') ok)) (.lst (SqL.of (S.get q)) (dp_tups (S.tlGet qt) ok)) (shaped_tups ok) (shaped_tups ok) ?_
  rw [eqv_same (shaped_tups ok)]
  exact k
end
end L2.Zs
namespace L2.Zs
open PySem PySem.Spec PyProof.Rows
/-! ## set(a list of texts): how many are unlike -/
structure Cnt (xs : List PySem.Str) (i c : Nat) : Prop where
  le : c ≤ i
  nd : c = i ↔ (xs.take i).Nodup
theorem Cnt.zero (xs : List PySem.Str) : Cnt xs 0 0 := ⟨Nat.le_refl _, by simp⟩
theorem Cnt.next {xs : List PySem.Str} {i c : Nat} (h : Cnt xs i c) {x : PySem.Str} (hx : xs[i]? = some x) : Cnt xs (i + 1) (if decide (x ∈ xs.take i) = true then c else c + 1) := by
  have e : xs.take (i + 1) = xs.take i ++ [x] := by rw [List.take_succ, hx]; rfl
  have hl := h.le
  by_cases m : x ∈ xs.take i
  · rw [if_pos (decide_eq_true m)]
    refine ⟨by omega, ⟨fun z => by omega, fun z => ?_⟩⟩
    rw [e, List.nodup_append] at z
    exact absurd rfl (z.2.2 x m x List.mem_cons_self)
  · rw [if_neg (by rw [decide_eq_false m]; decide)]
    refine ⟨by omega, ?_⟩
    rw [e, List.nodup_append]
    constructor
    · intro z
      exact ⟨h.nd.mp (by omega), by simp, fun a ha b hb => by rw [List.mem_singleton.mp hb]; exact fun y => m (y ▸ ha)⟩
    · intro z
      have := h.nd.mpr z.1
      omega
section
variable {P : Program} {w : World} {A : Around} {E : Value → Shared → Prop} {s : Shared}
abbrev TxSet (P : Program) (w : World) (h : Heap) (S : Addr) (ys : List PySem.Str) (c : Nat) : Prop := h.SetOf (PySem.strKind P w) S (fun k => decide (k ∈ ys)) c
theorem TxSet.at {h h' : Heap} {S : Addr} {ys : List PySem.Str} {c : Nat} (x : TxSet P w h S ys c) (k : ∀ o, h.get? S = some o → h'.get? S = some o) : TxSet P w h' S ys c := by
  obtain ⟨o, es, ep, t, ho, r⟩ := x
  exact ⟨o, es, ep, t, k o ho, r⟩
/-- the loop that lays the texts, one by one -/
theorem tx_loop {R : Result → Shared → Prop} {I : Addr} {fp wr : List Addr} {G : Array GenState → Array GenState → Prop} {n : Nat} {Pv : Nat → Value → Prop} {St : Nat → Shared → Prop} (W : WalksS P w A.in1 I fp wr G n Pv St) (S : Addr) (out : S ∉ fp) (xs : List PySem.Str) (en : xs.length = n) (few : n + 1 < scanBound)
    (val : ∀ i v, Pv i v → ∃ z t, xs[i]? = some z ∧ v = .str z t) : ∀ (k i : Nat) (s : Shared) (c : Nat), n - i = k → i ≤ n → St i s → TxSet P w s.heap S (xs.take i) c → Cnt xs i c →
      (∀ s' c', Moved (S :: wr) G s s' → TxSet P w s'.heap S xs c' → Cnt xs n c' → R (.ok (.ret .none)) s') → codeAny (model P w) A (.builtin "set.update.loop" ⟨[.ref S, .ref I], []⟩) R s := by
  have out2 : S ∉ wr := fun h => out (W.sub _ h)
  have inn : ∀ b ∈ wr, b ∈ S :: wr := fun _ hb => .tail _ hb
  intro k; induction k with
  | zero =>
    intro i s c hk hi hst hS hc hR
    obtain rfl : i = n := by omega
    refine codeAny_builtin PyProof.Rows.F.entry_set_update_loop ?_; rw [Around.under_plainId PyProof.Rows.F.plain_set_update_loop _]
    change wpAny _ A.in1 (pyNext (.ref I) >>= _) _ _ s; refine wpAny_bind (W.done s _ _ hst fun s' hm => ?_); rw [List.take_of_length_le (by omega)] at hS
    change wpAny _ A.in1 (ret Value.none) _ _ s'; exact wpAny_pure (hR s' c (hm.mono inn) (hS.at fun o e => hm.heap S o out2 e) hc)
  | succ k ih =>
    intro i s c hk hi hst hS hc hR
    have lt : i < n := by omega
    refine codeAny_builtin PyProof.Rows.F.entry_set_update_loop ?_; rw [Around.under_plainId PyProof.Rows.F.plain_set_update_loop _]
    change wpAny _ A.in1 (pyNext (.ref I) >>= _) _ _ s; refine wpAny_bind (W.item i s _ _ lt hst fun v s' hP hst' hm => ?_)
    obtain ⟨z, t, hz, rfl⟩ := val i v hP
    have hS1 : TxSet P w s'.heap S (xs.take i) c := hS.at fun o e => hm.heap S o out2 e
    have ci := hc.le
    change wpAny _ A.in1 (holding [Value.str z t] (setAdd S (.str z t)) >>= _) _ _ s'; refine wpAny_bind (wpAny_holding ?_); unfold setAdd; refine wpAny_holding (wpAny_bind ?_)
    refine (PySem.strKind P w).pyHash (k := z) (strKind_is _ _ _ _) ?_; refine wpAny_setAddHashed_of (knd := PySem.strKind P w) (s := { s' with toks := s'.toks + 1 }) (strKind_is _ _ _ _) rfl hS1 (by omega) fun h2 sb hS2 => ?_
    have hS3 : TxSet P w h2 S (xs.take (i + 1)) (if decide (z ∈ xs.take i) = true then c else c + 1) := PyProof.Rows.SetOf_congr hS2 (fun q => by rw [List.take_succ, hz]; simp [List.mem_append]) rfl
    refine wpAny_pure ⟨plainId_quiet PyProof.Rows.F.plain_set_update_loop _, ih (i + 1) _ _ (by omega) lt (W.frame _ s' _ _ hst' (Nat.le_succ _) fun b hb o e => (sb.2 b fun (y : b = S) => out (y ▸ hb)).trans e) hS3 (hc.next hz) fun s3 c3 m3 x3 y3 => ?_⟩
    exact hR s3 c3 (Moved.trans W.gtrans ((hm.mono inn).then_heap (Nat.le_succ _) fun b o hb e => (sb.2 b fun (y : b = S) => hb (y ▸ .head _)).trans e) m3) x3 y3
abbrev nil0 (led : Bool) : Obj := { cls := .type "set", dict := none, data := .set #[] 0 (.fresh 0 0 led) }
set_option maxHeartbeats 3200000 in
/-- set(l) of a list of texts -/
theorem tx_set {l : Addr} {items : Array Value} {xs : List PySem.Str} {Q : Value → Shared → Prop} (hh : A.handled = none) (hl : s.heap.IsList l items) (val : ∀ (i : Nat) (v : Value), items[i]? = some v → ∃ z t, xs[i]? = some z ∧ v = .str z t) (en : xs.length = items.size) (few : xs.length + 1 < scanBound)
    (h : ∀ (h' : Heap) (tk c : Nat), TxSet P w h' s.heap.objs.size xs c → Cnt xs xs.length c → (∀ b o, b < s.heap.objs.size → s.heap.get? b = some o → h'.get? b = some o) → Q (.ref s.heap.objs.size) { s with heap := h', toks := tk }) : wpAny (model P w) A (call (.type "set") [.ref l]) Q E s := by
  obtain ⟨c0, tl0, hmro⟩ := PySem.F.called_set.mro; have made := PySem.F.called_set.made; have sub0 := PySem.F.called_set.sub
  refine wpAny_call (codeAny_of_tree ?_); change wpAny _ _ (callAny (.type "set") _) _ _ _
  refine wpAny_pure ⟨Code.quiet_builtin _ (by decide +kernel), ?_⟩; refine codeAny_builtin PySem.F.entry_type_call ?_; rw [Around.under_plain (weight_type_call_type "set" [.ref l] []) rfl]
  have k1 := PySem.F.called_set.notType; have k2 := PySem.F.called_set.canCreate; have k3 := PySem.F.typeCall_set_1 (.ref l)
  repeat any_goals first | assumption | wp_step
  refine codeAny_mono (PySem.code_set_new_1 (.ref l) (E := E) (Q₁ := fun ob s1 => ∃ led : Bool, ob = .ref s.heap.objs.size ∧ s1 = { s with heap := s.heap.push (nil0 led) }) fun led => ⟨led, rfl, rfl⟩) fun r s1 hr => ?_
  rcases r with e | fl
  · exact hr
  cases fl <;> first | exact hr.elim | skip
  obtain ⟨led, rfl, rfl⟩ := hr
  have at0 : (s.heap.push (nil0 led)).get? s.heap.objs.size = some (nil0 led) := Heap.get?_push_size _ rfl
  have ty0 : Shared.TypeIs { s with heap := s.heap.push (nil0 led) } (.ref s.heap.objs.size) "set" := ⟨_, at0, rfl⟩
  have i1 := PySem.F.called_set.init.lookup; have i2 := PySem.F.called_set.init.bind (.ref s.heap.objs.size)
  repeat any_goals first | assumption | wp_step
  refine codeAny_mono (codeAny_call_builtin (R := wants (fun r s2 => r = .none ∧ ∃ h' tk c, s2 = { s with heap := h', toks := tk } ∧ TxSet P w h' s.heap.objs.size xs c ∧ Cnt xs xs.length c ∧ ∀ b o, b < s.heap.objs.size → s.heap.get? b = some o → h'.get? b = some o) E)
    PySem.F.called_set.init.plain PySem.F.entry_set_init (PySem.check_set_init_1 ty0 ?_)) fun r2 s2 hr2 => ?_
  · obtain ⟨⟨oc, od, oda, osl⟩, ho, hcl, nl, hdl⟩ := hl
    dsimp only at hcl hdl; subst hcl hdl
    have lh : (s.heap.push (nil0 led)).get? l = some { cls := .type "list", dict := od, data := .seq items nl, slots := osl } := Heap.get?_push_of_some _ ho
    have s1 := PySem.F.sub_list_set; have s2 := PySem.F.sub_list_frozenset; have nd : (Value.type "list" == Value.type "dict") = false := by decide
    have ll : (s.heap.push (nil0 led)).IsList l items := ⟨_, lh, rfl, nl, rfl⟩
    unfold Builtin.«set.__init__» noKeywords Builtin.Frozenset.updateFrom; generalize hPI : pyIter = PI; wp_walk; subst hPI
    refine wpAny_pyIter_list ll (wpAny_bind (wpAny_runValue ?_))
    have lS : l < s.heap.objs.size := Heap.lt_size ho
    have q3 : A.in1.in1.in1.handled = none := by simp [hh]
    have z1 : (s.heap.push (nil0 led)).objs.size = s.heap.objs.size + 1 := Heap.size_push ..
    have n1 : l ≠ (s.heap.push (nil0 led)).objs.size := by rw [z1]; exact Nat.ne_of_lt (Nat.lt_succ_of_lt lS)
    have n2 : s.heap.objs.size ∉ [(s.heap.push (nil0 led)).objs.size, l] := by rw [z1]; simp; exact Nat.ne_of_gt lS
    refine tx_loop ((Walks.list q3 _ l n1 items).toS) s.heap.objs.size n2 xs en (by omega) val (items.size - 0) 0 _ 0 (by omega) (Nat.zero_le _) ⟨⟨_, Heap.get?_push_size _ rfl, rfl, rfl⟩, (ll.push _)⟩ ?_ (Cnt.zero xs) ?_
    · exact PyProof.Rows.SetOf_congr ((PyProof.Rows.setObjOf_fresh (knd := PySem.strKind P w) led).setOf (Heap.get?_push_of_some _ at0) (by decide)) (fun k => by simp) rfl
    · rintro ⟨h', g', d', tk', os'⟩ c' hm hS hC
      obtain rfl : g' = s.gens := hm.gens
      obtain rfl : d' = s.drawn := hm.drawn
      obtain rfl : os' = s.os := hm.os
      change wpAny _ _ _ _ _ _; refine wpAny_pure ?_; change wpAny _ _ (ret Value.none) _ _ _
      refine wpAny_pure ⟨rfl, h', tk', c', rfl, hS, en ▸ hC, fun b o hb e => ?_⟩
      exact hm.heap b o (by rw [z1]; simp only [List.mem_cons, List.not_mem_nil, or_false, not_or]; exact ⟨Nat.ne_of_lt hb, Nat.ne_of_lt (Nat.lt_succ_of_lt hb)⟩) (Heap.get?_push_of_some _ (Heap.get?_push_of_some _ e))
  · rcases r2 with e | f2
    · exact hr2
    cases f2 <;> first | exact hr2.elim | skip
    obtain ⟨rfl, h', tk, c, rfl, q1, q2, q3⟩ := hr2
    repeat any_goals first | assumption | wp_step
    exact h _ _ _ q1 q2 q3
end
theorem texts_at : ∀ {xs : List PySem.Str} {us : List Value}, Vals (xs.map V.str) us → ∀ (i : Nat) (v : Value), us[i]? = some v → ∃ z t, xs[i]? = some z ∧ v = .str z t
  | [], _, .nil, i, v, h => by simp at h
  | x :: xs, _, .cons r t, 0, v, h => by
    obtain ⟨k, rfl⟩ := r
    exact ⟨x, k, rfl, (Option.some.inj h).symm⟩
  | x :: xs, _, .cons r t, i + 1, v, h => texts_at t i v h
/-- len(set(a)) of a list of texts -/
def tLenU (K : PySem.W.Frag) (ta : TE) : TE := fun σ H Q => ta σ H fun x H1 => ∃ (l : Addr) (xs : List PySem.Str), x = .ref l ∧ SqL K H1 l (xs.map V.str) ∧ xs.length ≤ 1000 ∧ ∀ c, Cnt xs xs.length c → Q (.int (c : Nat)) H1
theorem z_lenU {X : Cx} {K : PySem.W.Frag} {a : Expr} {ta : TE} {p p2 q pos : Pos} (hK : X.K = K) (hc : X.calm = true) (hg : Gl X "len") (hm : X.mg "len" = none) (hg2 : Gl X "set") (hm2 : X.mg "set" = none) (ha : PE X a ta)
    (na : starEach [a] X.env = (false, eval a X.env) :: starEach [] X.env := by rfl) : PE X (.Call (.Name "len" p) [.Call (.Name "set" p2) [a] [] q] [] pos) (tLenU K ta) := by
  subst hK; refine ⟨fun pins s σ H Q I h => Call_ (ld_blt I hg hm boot_len ?_)⟩
  refine PyProof.Rows.callWith_builtin1 (PyProof.Rows.args_cons (Call_ (ld_blt I hg2 hm2 boot_set ?_)) rfl) rfl rfl
  refine PyProof.Rows.callWith_type1 (PyProof.Rows.args_cons (thn (ha.run pins s σ H _ I h) fun v s1 ⟨x, H1, I1, r1, l, xs, ex, hq, h1, q1⟩ => PyProof.Rows.args_nil ?_) na) na rfl
  subst ex; cases r1; obtain ⟨its, r, pl, hz⟩ := I1.list hq
  have el : xs.length = its.toArray.size := by rw [List.size_toArray, ← r.length, List.length_map]
  refine tx_set (I1.ok.hd hc) pl.isList (fun i v hv => texts_at r i v (by simpa using hv)) el (Nat.lt_of_le_of_lt (show xs.length + 1 ≤ 1001 by omega) (by decide)) fun h' tk c hS hC hk => PyProof.Rows.args_nil ?_
  obtain ⟨o, es, ep, t, ho, hex, hd, _, _, _, hf, hn⟩ := hS
  have I2 : Inv X pins σ H1 { s1 with heap := h', toks := tk } := I1.kept fun b o e => hk b o (Heap.lt_size e) e
  exact call_len_set ho hex hd hf (by have := hC.le; rw [hn]; omega) ⟨.int (c : Nat), H1, I2.tok _, ⟨_, by rw [hn]⟩, q1 c hC⟩
instance {K : PySem.W.Frag} {ta : TE} {σ : St} {H : Hp} {Q : VK} : Stp (tLenU K ta σ H Q) (ta σ H fun x H1 => ∃ (l : Addr) (xs : List PySem.Str), x = .ref l ∧ SqL K H1 l (xs.map V.str) ∧ xs.length ≤ 1000 ∧ ∀ c, Cnt xs xs.length c → Q (.int (c : Nat)) H1) := ⟨id⟩
end L2.Zs
namespace L2.Zs
open PySem PySem.Spec PyProof.Rows PySem.Froz
/-! # set(a list), whatever it holds, its order known to be lawful -/
section
variable {P : Program} {w : World} {A : Around} {E : Value → Shared → Prop} {s : Shared}
/-- what J says it says of the object at S alone -/
def OneJ (S : Addr) (J : Heap → Prop) : Prop := ∀ h h' : Heap, J h → (∀ o, h.get? S = some o → h'.get? S = some o) → J h'
theorem any_loop {R : Result → Shared → Prop} {I : Addr} {fp wr : List Addr} {G : Array GenState → Array GenState → Prop} {n : Nat} {Pv : Nat → Value → Prop} {St : Nat → Shared → Prop} (W : WalksS P w A.in1 I fp wr G n Pv St) (S : Addr) (out : S ∉ fp)
    (J : Nat → Heap → Prop) (hJ : ∀ i, OneJ S (J i))
    (add : ∀ (A : Around) (i : Nat) (v : Value) (s : Shared) (Q : Bool → Shared → Prop) (E : Value → Shared → Prop), i < n → Pv i v → J i s.heap → (∀ h' tk b, s.toks ≤ tk → Heap.SameBut S s.heap h' → J (i + 1) h' → Q b { s with heap := h', toks := tk }) → wpAny (model P w) A (setAdd S v) Q E s) :
    ∀ (k i : Nat) (s : Shared), n - i = k → i ≤ n → St i s → J i s.heap →
      (∀ s', Moved (S :: wr) G s s' → J n s'.heap → R (.ok (.ret .none)) s') → codeAny (model P w) A (.builtin "set.update.loop" ⟨[.ref S, .ref I], []⟩) R s := by
  have out2 : S ∉ wr := fun h => out (W.sub _ h)
  have inn : ∀ b ∈ wr, b ∈ S :: wr := fun _ hb => .tail _ hb
  intro k; induction k with
  | zero =>
    intro i s hk hi hst hS hR
    obtain rfl : i = n := by omega
    refine codeAny_builtin PyProof.Rows.F.entry_set_update_loop ?_; rw [Around.under_plainId PyProof.Rows.F.plain_set_update_loop _]
    change wpAny _ A.in1 (pyNext (.ref I) >>= _) _ _ s; refine wpAny_bind (W.done s _ _ hst fun s' hm => ?_)
    change wpAny _ A.in1 (ret Value.none) _ _ s'; exact wpAny_pure (hR s' (hm.mono inn) (hJ _ _ _ hS fun o e => hm.heap S o out2 e))
  | succ k ih =>
    intro i s hk hi hst hS hR
    have lt : i < n := by omega
    refine codeAny_builtin PyProof.Rows.F.entry_set_update_loop ?_; rw [Around.under_plainId PyProof.Rows.F.plain_set_update_loop _]
    change wpAny _ A.in1 (pyNext (.ref I) >>= _) _ _ s; refine wpAny_bind (W.item i s _ _ lt hst fun v s' hP hst' hm => ?_)
    change wpAny _ A.in1 (holding [v] (setAdd S v) >>= _) _ _ s'; refine wpAny_bind (wpAny_holding ?_)
    refine add _ i v s' _ _ lt hP (hJ _ _ _ hS fun o e => hm.heap S o out2 e) fun h2 tk b htk sb hS2 => ?_
    refine wpAny_pure ⟨plainId_quiet PyProof.Rows.F.plain_set_update_loop _, ih (i + 1) _ (by omega) lt (W.frame _ s' _ _ hst' htk fun b hb o e => (sb.2 b fun (y : b = S) => out (y ▸ hb)).trans e) hS2 fun s3 m3 x3 => ?_⟩
    exact hR s3 (Moved.trans W.gtrans ((hm.mono inn).then_heap htk fun b o hb e => (sb.2 b fun (y : b = S) => hb (y ▸ .head _)).trans e) m3) x3
set_option maxHeartbeats 3200000 in
theorem any_set {l : Addr} {items : Array Value} {Q : Value → Shared → Prop} (hh : A.handled = none) (hl : s.heap.IsList l items)
    (J : Nat → Heap → Prop) (hJ : ∀ i, OneJ s.heap.objs.size (J i)) (j0 : ∀ h : Heap, h.get? s.heap.objs.size = some (nil0 (!w.params.followText "set-order")) → J 0 h)
    (add : ∀ (A : Around) (i : Nat) (v : Value) (s1 : Shared) (Q : Bool → Shared → Prop) (E : Value → Shared → Prop), i < items.size → items[i]? = some v → J i s1.heap → (∀ h' tk b, s1.toks ≤ tk → Heap.SameBut s.heap.objs.size s1.heap h' → J (i + 1) h' → Q b { s1 with heap := h', toks := tk }) → wpAny (model P w) A (setAdd s.heap.objs.size v) Q E s1)
    (h : ∀ (h' : Heap) (tk : Nat), J items.size h' → (∀ b o, b < s.heap.objs.size → s.heap.get? b = some o → h'.get? b = some o) → Q (.ref s.heap.objs.size) { s with heap := h', toks := tk }) : wpAny (model P w) A (call (.type "set") [.ref l]) Q E s := by
  obtain ⟨c0, tl0, hmro⟩ := PySem.F.called_set.mro; have made := PySem.F.called_set.made; have sub0 := PySem.F.called_set.sub
  refine wpAny_call (codeAny_of_tree ?_); change wpAny _ _ (callAny (.type "set") _) _ _ _
  refine wpAny_pure ⟨Code.quiet_builtin _ (by decide +kernel), ?_⟩; refine codeAny_builtin PySem.F.entry_type_call ?_; rw [Around.under_plain (weight_type_call_type "set" [.ref l] []) rfl]
  have k1 := PySem.F.called_set.notType; have k2 := PySem.F.called_set.canCreate; have k3 := PySem.F.typeCall_set_1 (.ref l)
  repeat any_goals first | assumption | wp_step
  refine codeAny_mono (L2.code_set_led1 (.ref l) (E := E) (Q₁ := fun ob s1 => ob = .ref s.heap.objs.size ∧ s1 = { s with heap := s.heap.push (nil0 (!w.params.followText "set-order")) }) ⟨rfl, rfl⟩) fun r s1 hr => ?_
  rcases r with e | fl
  · exact hr
  cases fl <;> first | exact hr.elim | skip
  obtain ⟨rfl, rfl⟩ := hr
  obtain ⟨led, hled⟩ : ∃ led, led = !w.params.followText "set-order" := ⟨_, rfl⟩
  rw [← hled] at j0 ⊢
  have at0 : (s.heap.push (nil0 led)).get? s.heap.objs.size = some (nil0 led) := Heap.get?_push_size _ rfl
  have ty0 : Shared.TypeIs { s with heap := s.heap.push (nil0 led) } (.ref s.heap.objs.size) "set" := ⟨_, at0, rfl⟩
  have i1 := PySem.F.called_set.init.lookup; have i2 := PySem.F.called_set.init.bind (.ref s.heap.objs.size)
  repeat any_goals first | assumption | wp_step
  refine codeAny_mono (codeAny_call_builtin (R := wants (fun r s2 => r = .none ∧ ∃ h' tk, s2 = { s with heap := h', toks := tk } ∧ J items.size h' ∧ ∀ b o, b < s.heap.objs.size → s.heap.get? b = some o → h'.get? b = some o) E)
    PySem.F.called_set.init.plain PySem.F.entry_set_init (PySem.check_set_init_1 ty0 ?_)) fun r2 s2 hr2 => ?_
  · obtain ⟨⟨oc, od, oda, osl⟩, ho, hcl, nl, hdl⟩ := hl
    dsimp only at hcl hdl; subst hcl hdl
    have lh : (s.heap.push (nil0 led)).get? l = some { cls := .type "list", dict := od, data := .seq items nl, slots := osl } := Heap.get?_push_of_some _ ho
    have s1 := PySem.F.sub_list_set; have s2 := PySem.F.sub_list_frozenset; have nd : (Value.type "list" == Value.type "dict") = false := by decide
    have ll : (s.heap.push (nil0 led)).IsList l items := ⟨_, lh, rfl, nl, rfl⟩
    unfold Builtin.«set.__init__» noKeywords Builtin.Frozenset.updateFrom; generalize hPI : pyIter = PI; wp_walk; subst hPI
    refine wpAny_pyIter_list ll (wpAny_bind (wpAny_runValue ?_))
    have lS : l < s.heap.objs.size := Heap.lt_size ho
    have q3 : A.in1.in1.in1.handled = none := by simp [hh]
    have z1 : (s.heap.push (nil0 led)).objs.size = s.heap.objs.size + 1 := Heap.size_push ..
    have n1 : l ≠ (s.heap.push (nil0 led)).objs.size := by rw [z1]; exact Nat.ne_of_lt (Nat.lt_succ_of_lt lS)
    have n2 : s.heap.objs.size ∉ [(s.heap.push (nil0 led)).objs.size, l] := by rw [z1]; simp; exact Nat.ne_of_gt lS
    refine any_loop ((Walks.list q3 _ l n1 items).toS) s.heap.objs.size n2 J hJ (fun A i v s1 Q E hi hv hj k => add A i v s1 Q E hi hv hj k) (items.size - 0) 0 _ (by omega) (Nat.zero_le _) ⟨⟨_, Heap.get?_push_size _ rfl, rfl, rfl⟩, (ll.push _)⟩ ?_ ?_
    · exact j0 _ (Heap.get?_push_of_some _ at0)
    · rintro ⟨h', g', d', tk', os'⟩ hm hS
      obtain rfl : g' = s.gens := hm.gens
      obtain rfl : d' = s.drawn := hm.drawn
      obtain rfl : os' = s.os := hm.os
      change wpAny _ _ _ _ _ _; refine wpAny_pure ?_; change wpAny _ _ (ret Value.none) _ _ _
      refine wpAny_pure ⟨rfl, h', tk', rfl, hS, fun b o hb e => ?_⟩
      exact hm.heap b o (by rw [z1]; simp only [List.mem_cons, List.not_mem_nil, or_false, not_or]; exact ⟨Nat.ne_of_lt hb, Nat.ne_of_lt (Nat.lt_succ_of_lt hb)⟩) (Heap.get?_push_of_some _ (Heap.get?_push_of_some _ e))
  · rcases r2 with e | f2
    · exact hr2
    cases f2 <;> first | exact hr2.elim | skip
    obtain ⟨rfl, h', tk, rfl, q1, q3⟩ := hr2
    repeat any_goals first | assumption | wp_step
    exact h _ _ q1 q3
end
/-! ## of ints -/
section
variable {X : Cx}
def rSetOfI (K : PySem.W.Frag) (w : World) : List V → Hp → VK → Prop := fun vs H Q => ∃ (l : Addr) (ns : List Int), vs = [V.ref l] ∧ SqL K H l (ns.map V.int) ∧ ns.length ≤ 4000 ∧
  ∀ (p : Addr) (c : Nat), H p = none → c ≤ ns.length → Q (.ref p) (upd H p (SetO w p (fun j => decide (j ∈ ns)) c))
theorem cr_setOfI (hc : X.calm = true) : CallR X (.type "set") (rSetOfI X.K X.w) := by
  intro pins s σ H vs us Q I r h
  obtain ⟨l, ns, rfl, hl, few, q⟩ := h
  rw [Vals.ref1 r]
  obtain ⟨its, rv, pl, hz⟩ := I.list hl
  have el : its.length = ns.length := by rw [← rv.length, List.length_map]
  have ez : its.toArray.size = ns.length := by rw [List.size_toArray, el]
  have hi := rv.ints
  refine any_set (P := X.prog) (w := X.w) (I.ok.hd hc) pl.isList (fun i h => ∃ c, c ≤ i ∧ SetR X.w h s.heap.objs.size (fun j => decide (j ∈ ns.take i)) c) (fun i h h' ⟨c, hc, R⟩ k => ⟨c, hc, R.at k⟩)
    (fun h e => ⟨0, Nat.le_refl _, L2.setR_new_at e⟩) (fun A i v s1 Q E hi2 hv ⟨c, hc, R⟩ k => ?_) fun h' tk ⟨c, hc, R⟩ k => ?_
  · rw [List.size_toArray, el] at hi2
    obtain ⟨t, e⟩ := PyProof.Rows.IntsAre.int_at hi i v (by simpa using hv)
    rw [List.getD_eq_getElem?_getD, List.getElem?_eq_getElem hi2] at e
    have e : v = .int ns[i] t := e
    subst e
    unfold setAdd
    refine wpAny_holding (wpAny_bind ((intKind X.prog X.w).pyHash (k := ns[i]) (intKind_is _ _ _ _) ?_))
    refine setR_add_hashed (s := { s1 with toks := s1.toks + 1 }) R (Nat.lt_of_le_of_lt (show c + 1 ≤ 4001 by omega) (by decide)) fun h' sb R2 => ?_
    refine k h' _ _ (Nat.le_succ _) sb ⟨_, ?_, R2.congr fun j => ?_⟩
    · split <;> omega
    · have e2 : ns.take (i + 1) = ns.take i ++ [ns[i]] := by rw [List.take_succ, List.getElem?_eq_getElem hi2]; rfl
      rw [e2, Bool.eq_iff_iff, Bool.or_eq_true, decide_eq_true_eq, decide_eq_true_eq, decide_eq_true_eq, List.mem_append, List.mem_singleton]
  · rw [ez, List.take_length] at R
    rw [ez] at hc
    have kk : ∀ b o, s.heap.get? b = some o → h'.get? b = some o := fun b o e => k b o (Heap.lt_size e) e
    exact ⟨.ref s.heap.objs.size, upd H s.heap.objs.size (SetO X.w s.heap.objs.size (fun j => decide (j ∈ ns)) c), I.laid (t' := tk) kk (Nat.le_refl _) (setO_new R), rfl, q _ c (I.hok.fresh (Nat.le_refl _)) hc⟩
end
/-! ## of texts -/
def TxR (P : Program) (w : World) (h : Heap) (S : Addr) (xs : List PySem.Str) : Prop := ∃ (D : SD) (l : List PySem.Str), h.get? S = some (sObj "set" D) ∧ TxOk P w D l ∧ l.Nodup ∧ (∀ k, k ∈ l ↔ k ∈ xs) ∧ l.length ≤ xs.length ∧ Ris D.2.2.place.toList ∧ (w.params.followText "set-order" = true ∨ D.2.2.led = true)
theorem TxR.one {P : Program} {w : World} {S : Addr} {xs : List PySem.Str} : OneJ S fun h => TxR P w h S xs := fun h h' ⟨D, l, ho, r⟩ k => ⟨D, l, k _ ho, r⟩
theorem tail_ris {ep : Nat} {es1 : Array (Int × Value)} {t2 : SetTable} {wasDummy : Bool} (r : Ris t2.place.toList) : Ris (tailTx ep es1 t2 wasDummy).2.2.place.toList ∧ ((tailTx ep es1 t2 wasDummy).2.2.led = t2.led) := by
  unfold tailTx
  split
  · exact ⟨relayAll_ris t2 es1 _, relayAll_led t2 es1 _⟩
  · exact ⟨r, rfl⟩
theorem add_ris {D : SD} {h : Int} {v : Value} (r : Ris D.2.2.place.toList) : Ris (addTx h v D).2.2.place.toList ∧ (addTx h v D).2.2.led = D.2.2.led := by
  have r1 := layNew_ris D.2.2 D.1 h v r
  have l1 := layNew_led D.2.2 D.1 h v
  unfold addTx
  by_cases c : (layNew D.2.2 D.1 h v).2.1.plain = true
  · rw [if_pos c]
    obtain ⟨a, b⟩ := tail_ris (ep := D.2.1) (es1 := (layNew D.2.2 D.1 h v).1) (t2 := { (layNew D.2.2 D.1 h v).2.1 with plain := false }) (wasDummy := (layNew D.2.2 D.1 h v).2.2.1) r1
    exact ⟨a, b.trans l1⟩
  · rw [if_neg c]
    obtain ⟨a, b⟩ := tail_ris (ep := D.2.1) (es1 := (layNew D.2.2 D.1 h v).1) (t2 := (layNew D.2.2 D.1 h v).2.1) (wasDummy := (layNew D.2.2 D.1 h v).2.2.1) r1
    exact ⟨a, b.trans l1⟩
section
variable {P : Program} {w : World} {A : Around} {E : Value → Shared → Prop} {s : Shared}
/-- a text that is in it already -/
theorem in_x {a : Addr} {T : String} {D : SD} {l : List PySem.Str} {k : PySem.Str} {u : Tok} {Q : Bool → Shared → Prop} (ho : s.heap.get? a = some (sObj T D)) (F : TxOk P w D l) (hk : k ∈ l) (hb : l.length < scanBound) (h : Q false s) : wpAny (model P w) A (setAddHashed a (.str k u) (hashStr w k)) Q E s := by
  obtain ⟨es, ep, t⟩ := D
  have hd : (sObj T (es, ep, t)).data = .set es ep t := rfl
  have hf : t.fits es.size = true := F.fit
  have hel : ElemsOf (strKind P w) es.toList := F.el
  have hsz : es.size = l.length := F.sz
  have hb0 : es.size < scanBound := by omega
  have hkey : (strKind P w).is k (.str k u) = true := is_str k u
  obtain ⟨e, he, q⟩ := (F.mem k).mp hk
  unfold setAddHashed setAddHashedIn
  refine wpAny_holding (wpAny_bind (wpAny_setState_of ho hd hf ?_))
  dsimp only
  rw [byScan_of rfl hb0 hel]
  simp only [↓reduceIte]
  unfold setAddByScan
  refine wpAny_bind ?_
  refine wpAny_bind (wpAny_rule ?_)
  refine wpAny_bind (wpAny_setScan_of (knd := strKind P w) (k := k) hkey ho hd hf hel ?_)
  cases hr : List.findIdx? (fun e => (strKind P w).is k e.2) es.toList with
  | none =>
    have c := List.findIdx?_eq_none_iff.mp hr e he
    rw [q] at c
    cases c
  | some j =>
    dsimp only
    exact wpAny_pure (wpAny_pure h)
theorem txR_add {S : Addr} {xs : List PySem.Str} {z : PySem.Str} {t : Tok} {Q : Bool → Shared → Prop} (R : TxR P w s.heap S xs) (few : xs.length + 1 < scanBound) (k : ∀ h' tk b, s.toks ≤ tk → Heap.SameBut S s.heap h' → TxR P w h' S (xs ++ [z]) → Q b { s with heap := h', toks := tk }) : wpAny (model P w) A (setAdd S (.str z t)) Q E s := by
  obtain ⟨D, l, ho, F, nd, mem, len, ris, led⟩ := R
  unfold setAdd
  refine wpAny_holding (wpAny_bind ((strKind P w).pyHash (k := z) (strKind_is _ _ _ _) ?_))
  by_cases c : z ∈ l
  · refine in_x (s := { s with toks := s.toks + 1 }) ho F c (by omega) (k s.heap _ _ (Nat.le_succ _) (Heap.SameBut.refl ..) ⟨D, l, ho, F, nd, fun y => ?_, by rw [List.length_append]; omega, ris, led⟩)
    rw [mem y, List.mem_append, List.mem_singleton]
    exact ⟨.inl, fun q => q.elim id fun q => by rw [q]; exact (mem z).mp c⟩
  · refine add_x (s := { s with toks := s.toks + 1 }) ho F c (by omega) (k _ _ _ (Nat.le_succ _) (Heap.SameBut.update ..) ⟨_, z :: l, get_upd _ ho rfl, add_ok t F, List.nodup_cons.mpr ⟨c, nd⟩, fun y => ?_, ?_, (add_ris ris).1, led.imp id fun q => (add_ris ris).2.trans q⟩)
    · rw [List.mem_cons, mem y, List.mem_append, List.mem_singleton]; exact Or.comm
    · rw [List.length_append, List.length_cons]; exact Nat.succ_le_succ len
end
theorem perm_sub {α : Type} [DecidableEq α] : ∀ {l ys : List α}, l.Nodup → (∀ x ∈ l, x ∈ ys) → ys.length ≤ l.length → ys.Perm l
  | [], ys, _, _, h => by
    obtain rfl := List.eq_nil_of_length_eq_zero (Nat.le_zero.mp h)
    exact List.Perm.refl _
  | x :: l, ys, nd, sub, h => by
    obtain ⟨a1, a2⟩ := List.nodup_cons.mp nd
    obtain ⟨a, b, rfl⟩ := List.append_of_mem (sub x List.mem_cons_self)
    have pm : (a ++ x :: b).Perm (x :: (a ++ b)) := List.perm_middle
    refine pm.trans ((perm_sub a2 (fun y hy => ?_) ?_).cons x)
    · have := pm.mem_iff.mp (sub y (List.mem_cons_of_mem _ hy))
      rcases List.mem_cons.mp this with e | e
      · exact absurd (e ▸ hy) a1
      · exact e
    · have := pm.length_eq
      rw [List.length_cons] at this h
      omega
theorem strs_are : ∀ (vs : List Value), (∀ v ∈ vs, ∃ z t, v = Value.str z t) → StrsAre vs (vs.map strOf)
  | [], _ => .nil
  | v :: vs, h => by
    obtain ⟨z, t, rfl⟩ := h v List.mem_cons_self
    exact .cons z t (strs_are vs fun v hv => h v (List.mem_cons_of_mem _ hv))
section
variable {P : Program} {w : World} {A : Around} {E : Value → Shared → Prop} {s : Shared}
theorem sorted_tx {a : Addr} {xs : List PySem.Str} {Q : Value → Shared → Prop} (R : TxR P w s.heap a xs) (hh : A.handled = none) (h64 : xs.length < 64)
    (hQ : ∀ s' p (out : Array Value) (c : Nat) (ys : List PySem.Str), (∀ b o, s.heap.get? b = some o → s'.heap.get? b = some o) → s'.gens = s.gens → s'.os = s.os → s.heap.objs.size ≤ p →
      s'.heap.get? p = some (seqObj "list" out c) → StrsAre out.toList ys → sortedS ys = true → ys.Nodup → (∀ k, k ∈ ys ↔ k ∈ xs) → Q (.ref p) s') :
    wpAny (model P w) A (call (.builtin "sorted") [.ref a]) Q E s := by
  obtain ⟨⟨es, ep, t⟩, l, ho, F, nd, mem, len, ris, led⟩ := R
  have hd : (sObj "set" (es, ep, t)).data = .set es ep t := rfl
  have hsz : es.size = l.length := F.sz
  refine Calls.call_function_entry kind_sorted plain_sorted entry_sorted (args_sorted1 _) ?_
  unfold Builtin.«sorted»
  refine wpAny_bind (m := checkCount "sorted" 1 1 _) (wpAny_pure ?_)
  refine wpAny_bind (collect_set (A := A.in1) hh ⟨_, ho, rfl, hd⟩ F.fit (by rw [hsz]; exact Nat.lt_of_le_of_lt (show l.length ≤ 64 by omega) (by decide)) ris led fun s1 vs k1 hz g1 o1 pm => ?_)
  have hvl : vs.length = l.length := by rw [pm.length_eq, List.length_map, Array.length_toList, hsz]
  have hv : ∀ v ∈ vs, ∃ z t, v = Value.str z t := fun v hv => by
    obtain ⟨e, he, rfl⟩ := List.mem_map.mp (pm.mem_iff.mp hv)
    obtain ⟨⟨k, hk, _⟩, _⟩ := F.el e he
    cases hx : e.2 with
    | str z t => exact ⟨z, t, rfl⟩
    | _ => rw [hx] at hk; cases hk
  have hS := strs_are vs hv
  have lp : (vs.map strOf).Perm l := by
    refine perm_sub nd (fun k hk => ?_) (by rw [List.length_map, hvl]; exact Nat.le_refl _)
    obtain ⟨e, he, q⟩ := (F.mem k).mp hk
    refine List.mem_map.mpr ⟨e.2, pm.mem_iff.mpr (List.mem_map.mpr ⟨e, he, rfl⟩), ?_⟩
    cases hx : e.2 with
    | str z t =>
      rw [hx] at q
      have q : Value.isStrOf k (.str z t) = true := q
      simp [Value.isStrOf] at q
      exact q
    | _ => rw [hx] at q; cases q
  refine wpAny_bind (wpAny_newList ?_ (by rw [hvl, sizeLine_eq]; omega))
  have hoL : (s1.heap.push (seqObj "list" vs.toArray 0)).get? s1.heap.objs.size = some (seqObj "list" vs.toArray 0) := Heap.get?_push_size _ rfl
  refine wpAny_bind (wpAny_holding (wpAny_call_entry slot_list_sort ⟨_, hoL, rfl⟩ entry_list_sort (list_sort_treeK strKind_oneLt hoL hS.keysOf (fun v1 v2 rest e => keyKind_strs (by rw [← e]; exact hS)) (by rw [hvl]; omega) fun st' hp hs => ⟨_, rfl, ?_⟩) (args_list_sort _)))
  obtain ⟨ys, h1, h2, h3⟩ := sorted_out_str hS hp hs
  obtain ⟨c, hc⟩ := sortedHeap_at (vs := vs) (out := (arrOf st').map (·.2)) hoL
  have pn : ys.Perm l := h2.trans lp
  refine wpAny_pure ⟨_, rfl, hQ _ s1.heap.objs.size _ c ys (fun b u e => ?_) g1 o1 hz hc h1 h3 (pn.nodup_iff.mpr nd) (fun k => by rw [pn.mem_iff, mem k])⟩
  have q := k1 b u e
  have hlt := Heap.lt_size q
  show (sortedHeap (s1.heap.push (seqObj "list" vs.toArray 0)) s1.heap.objs.size vs _).get? b = some u
  rw [sortedHeap_old (Nat.ne_of_lt hlt) (by rw [size_push']; exact Nat.lt_succ_of_lt hlt)]
  exact Heap.get?_push_of_some _ q
end
def TxO (P : Program) (w : World) (a : Addr) (xs : List PySem.Str) : HO := .ext fun h => TxR P w h a xs
section
variable {X : Cx}
def rSetOfS (K : PySem.W.Frag) (P : Program) (w : World) : List V → Hp → VK → Prop := fun vs H Q => ∃ (l : Addr) (xs : List PySem.Str), vs = [V.ref l] ∧ SqL K H l (xs.map V.str) ∧ xs.length ≤ 1000 ∧ ∀ p : Addr, H p = none → Q (.ref p) (upd H p (TxO P w p xs))
theorem cr_setOfS (hc : X.calm = true) : CallR X (.type "set") (rSetOfS X.K X.prog X.w) := by
  intro pins s σ H vs us Q I r h
  obtain ⟨l, xs, rfl, hl, few, q⟩ := h
  rw [Vals.ref1 r]
  obtain ⟨its, rv, pl, hz⟩ := I.list hl
  have el : its.length = xs.length := by rw [← rv.length, List.length_map]
  have ez : its.toArray.size = xs.length := by rw [List.size_toArray, el]
  refine any_set (P := X.prog) (w := X.w) (I.ok.hd hc) pl.isList (fun i h => TxR X.prog X.w h s.heap.objs.size (xs.take i)) (fun i => TxR.one)
    (fun h e => ⟨(#[], 0, .fresh 0 0 (!X.w.params.followText "set-order")), [], e, TxOk.nil rfl, List.nodup_nil, fun k => by simp, Nat.zero_le _, List.Pairwise.nil, by
      show _ ∨ (!X.w.params.followText "set-order") = true
      cases X.w.params.followText "set-order"
      · exact .inr rfl
      · exact .inl rfl⟩) (fun A i v s1 Q E hi2 hv R k => ?_) fun h' tk R k => ?_
  · rw [List.size_toArray, el] at hi2
    obtain ⟨z, t, e, rfl⟩ := texts_at rv i v (by simpa using hv)
    refine txR_add R (Nat.lt_of_le_of_lt (show _ ≤ 1001 by rw [List.length_take]; omega) (by decide)) fun h' tk b htk sb R2 => k h' tk b htk sb ?_
    rw [List.take_succ, e]
    exact R2
  · rw [ez, List.take_length] at R
    have kk : ∀ b o, s.heap.get? b = some o → h'.get? b = some o := fun b o e => k b o (Heap.lt_size e) e
    have ok : ObjOk X.prog X.w H h' s.heap.objs.size (TxO X.prog X.w s.heap.objs.size xs) := by
      have ⟨D, _, ho, _⟩ := R
      exact ⟨R, ⟨_, ho⟩, fun h1 h2 p k => TxR.one _ _ p k⟩
    exact ⟨.ref s.heap.objs.size, upd H s.heap.objs.size (TxO X.prog X.w s.heap.objs.size xs), I.laid (t' := tk) kk (Nat.le_refl _) ok, rfl, q _ (I.hok.fresh (Nat.le_refl _))⟩
def rSortedU (P : Program) (w : World) : List V → Hp → VK → Prop := fun vs H Q => ∃ (a : Addr) (xs : List PySem.Str), vs = [V.ref a] ∧ H a = some (TxO P w a xs) ∧ xs.length < 64 ∧
  ∀ (ys : List PySem.Str) (p : Addr), sortedS ys = true → ys.Nodup → (∀ k, k ∈ ys ↔ k ∈ xs) → H p = none → Q (.ref p) (upd H p (.lst (ys.map V.str)))
theorem cr_sortedU (hc : X.calm = true) : CallR X (.builtin "sorted") (rSortedU X.prog X.w) := by
  intro pins s σ H vs us Q I r h
  obtain ⟨a, xs, rfl, ha, h64, q⟩ := h
  have R : TxR X.prog X.w s.heap a xs := (I.hok a _ ha).1
  rw [Vals.ref1 r]
  refine sorted_tx R (I.ok.hd hc) h64 fun s' p out c ys k g o hp hg hi hs hn hm => ?_
  have hv := vals_of_strs hi
  have hlen : (ys.map V.str).length ≤ sizeLine := by
    have := perm_sub (l := ys) (ys := ys) hn (fun _ h => h) (Nat.le_refl _)
    have : ys.length ≤ xs.length := by
      have h2 := hn.length_le_of_subset (l₂ := xs) fun k hk => (hm k).mp hk
      exact h2
    rw [List.length_map, sizeLine_eq]; omega
  have hn2 : H p = none := I.hok.fresh hp
  have J : Inv X pins σ (upd H p (.lst (ys.map V.str))) { s with heap := s'.heap, gens := s'.gens, drawn := s'.drawn, toks := s'.toks } :=
    I.call (ch := []) (Un.laid k hp hn2) (I.hok.laid k hp ⟨hlen, out.toList, c, hv, hg⟩) (by rw [g]; exact I.bare) (fun _ z => nomatch z)
  have e : s' = { s with heap := s'.heap, gens := s'.gens, drawn := s'.drawn, toks := s'.toks } := by
    cases s'
    cases s
    cases o
    rfl
  rw [e]
  exact ⟨.ref p, _, J, rfl, q ys p hs hn hm hn2⟩
end
end L2.Zs
namespace L2.Zs
open PySem PySem.Spec PyProof.Rows
def rSetOfJ (K : PySem.W.Frag) (w : World) : List V → Hp → VK → Prop := fun vs H Q => ∃ (l : Addr) (ns : List Int), vs = [V.ref l] ∧ SqL K H l (ns.map V.int) ∧ ns.length ≤ 4000 ∧
  ∀ (p : Addr) (c : Nat), H p = none → (∀ m : Nat, (∀ j ∈ ns, 0 ≤ j ∧ j < m) → c ≤ m) → Q (.ref p) (upd H p (SetO w p (fun j => decide (j ∈ ns)) c))
theorem few_keys {ks : List Int} {m : Nat} (nd : ks.Nodup) (h : ∀ j ∈ ks, 0 ≤ j ∧ j < m) : ks.length ≤ m := by
  have n2 : (ks.map Int.toNat).Nodup := by
    rw [List.Nodup, List.pairwise_map]
    refine List.Pairwise.imp_of_mem (fun {a b} ha hb ne e => ne ?_) nd
    have h1 := h a ha
    have h2 := h b hb
    omega
  have := n2.length_le_of_subset (l₂ := List.range m) fun x hx => by
    obtain ⟨j, hj, rfl⟩ := List.mem_map.mp hx
    have := h j hj
    exact List.mem_range.mpr (by omega)
  rwa [List.length_map, List.length_range] at this
theorem cr_setOfJ {X : Cx} (hc : X.calm = true) : CallR X (.type "set") (rSetOfJ X.K X.w) := by
  intro pins s σ H vs us Q I r h
  obtain ⟨l, ns, rfl, hl, few, q⟩ := h
  rw [Vals.ref1 r]
  obtain ⟨its, rv, pl, hz⟩ := I.list hl
  have el : its.length = ns.length := by rw [← rv.length, List.length_map]
  have ez : its.toArray.size = ns.length := by rw [List.size_toArray, el]
  have hi := rv.ints
  refine any_set (P := X.prog) (w := X.w) (I.ok.hd hc) pl.isList (fun i h => ∃ c, c ≤ i ∧ SetR X.w h s.heap.objs.size (fun j => decide (j ∈ ns.take i)) c) (fun i h h' ⟨c, hc, R⟩ k => ⟨c, hc, R.at k⟩)
    (fun h e => ⟨0, Nat.le_refl _, L2.setR_new_at e⟩) (fun A i v s1 Q E hi2 hv ⟨c, hc, R⟩ k => ?_) fun h' tk ⟨c, hc, R⟩ k => ?_
  · rw [List.size_toArray, el] at hi2
    obtain ⟨t, e⟩ := PyProof.Rows.IntsAre.int_at hi i v (by simpa using hv)
    rw [List.getD_eq_getElem?_getD, List.getElem?_eq_getElem hi2] at e
    have e : v = .int ns[i] t := e
    subst e
    unfold setAdd
    refine wpAny_holding (wpAny_bind ((intKind X.prog X.w).pyHash (k := ns[i]) (intKind_is _ _ _ _) ?_))
    refine setR_add_hashed (s := { s1 with toks := s1.toks + 1 }) R (Nat.lt_of_le_of_lt (show c + 1 ≤ 4001 by omega) (by decide)) fun h' sb R2 => ?_
    refine k h' _ _ (Nat.le_succ _) sb ⟨_, ?_, R2.congr fun j => ?_⟩
    · split <;> omega
    · have e2 : ns.take (i + 1) = ns.take i ++ [ns[i]] := by rw [List.take_succ, List.getElem?_eq_getElem hi2]; rfl
      rw [e2, Bool.eq_iff_iff, Bool.or_eq_true, decide_eq_true_eq, decide_eq_true_eq, decide_eq_true_eq, List.mem_append, List.mem_singleton]
  · rw [ez, List.take_length] at R
    have kk : ∀ b o, s.heap.get? b = some o → h'.get? b = some o := fun b o e => k b o (Heap.lt_size e) e
    refine ⟨.ref s.heap.objs.size, upd H s.heap.objs.size (SetO X.w s.heap.objs.size (fun j => decide (j ∈ ns)) c), I.laid (t' := tk) kk (Nat.le_refl _) (setO_new R), rfl, q _ c (I.hok.fresh (Nat.le_refl _)) fun m hm => ?_⟩
    obtain ⟨o, es, ep, t, ho, hex, hd, g, nd, mem, hb, hf, hn, hr, hl⟩ := R
    have := few_keys (m := m) nd fun j hj => hm j (by simpa using (mem j).mpr hj)
    rw [List.length_map, Array.length_toList] at this
    omega
theorem k_setI {X : Cx} {K : PySem.W.Frag} {w : World} (hK : X.K = K) (hw : X.w = w) (hc : X.calm = true) : CallR X (.type "set") (rSetOfJ K w) := by subst hK hw; exact cr_setOfJ hc
theorem k_sortedV {X : Cx} {w : World} (hw : X.w = w) (hc : X.calm = true) : CallR X (.builtin "sorted") (rSortedSet w) := by subst hw; exact cr_sortedSet hc
theorem k_revL {X : Cx} {K : PySem.W.Frag} (hK : X.K = K) {e : Expr} {te : TE} {k : Nat} {p1 p2 p3 pos : Pos} (he : PE X e te) : PE X (.Subscript e (.Slice none none (some (.UnaryOp .USub (.Constant (.int 1) k p1) p2)) p3) pos) (tRevL K te) := hK ▸ pe_revL he
section
variable {K : PySem.W.Frag} {w : World} {H : Hp} {Q : VK} {a : Addr} {cs ds : List As} {σ : St} {ta te : TE} {tr : St → Hp → (Int → Int → Hp → Prop) → Prop} {R : Int → Int → Hp → Prop}
theorem s_setI {ns : List Int} (S : Sep cs H) (p : Pick (pt a (.lst (ns.map V.int))) cs ds) (few : ns.length ≤ 4000) (k : ∀ p c H', (∀ m : Nat, (∀ j ∈ ns, 0 ≤ j ∧ j < m) → c ≤ m) → Sep (pt p (SetO w p (fun j => decide (j ∈ ns)) c) :: cs) H' → Q (.ref p) H') : rSetOfJ K w [.ref a] H Q := ⟨a, ns, rfl, SqL.of (S.get p), few, fun p c n hc => k p c _ hc (S.new n)⟩
theorem s_sortedV {S0 : Int → Bool} {n : Nat} (S : Sep cs H) (p : Pick (pt a (SetO w a S0 n)) cs ds) (few : n < 64) (k : ∀ (ns : List Int) p H', ns.Pairwise (· < ·) → (∀ k, k ∈ ns ↔ S0 k = true) → ns.length = n → Sep (pt p (.lst (ns.map V.int)) :: cs) H' → Q (.ref p) H') : rSortedSet w [.ref a] H Q := ⟨a, S0, n, rfl, S.get p, few, fun ns p h1 h2 h3 n => k ns p _ h1 h2 h3 (S.new n)⟩
instance : Stp (tLstRg tr σ H Q) (tr σ H fun a b H1 => RgOk a b ∧ ∀ q, H1 q = none → Q (.ref q) (upd H1 q (.lst (rgV a b)))) := ⟨id⟩
instance : Stp (tRg1 ta σ H R) (ta σ H fun x H1 => ∃ n, x = .int n ∧ R 0 n H1) := ⟨id⟩
instance : Stp (tRevL K te σ H Q) (te σ H fun x H1 => ∃ a xs, x = .ref a ∧ SqL K H1 a xs ∧ ∀ p, H1 p = none → Q (.ref p) (upd H1 p (.lst xs.reverse))) := ⟨id⟩
theorem rgV_nat (n : Nat) : rgV 0 (n : Int) = ((List.range n).map fun (i : Nat) => (i : Int)).map V.int := by
  unfold rgV
  rw [Int.sub_zero, Int.toNat_natCast, List.map_map]
  exact List.map_congr_left fun i _ => by simp
theorem s_listRg {n : Nat} (h : n ≤ 1000) (S : Sep cs H) (k : ∀ p H', Sep (pt p (.lst (((List.range n).map fun (i : Nat) => (i : Int)).map V.int)) :: cs) H' → Q (.ref p) H') :
    ∃ m, V.int (n : Int) = .int m ∧ RgOk 0 m ∧ ∀ q, H q = none → Q (.ref q) (upd H q (.lst (rgV 0 m))) :=
  ⟨n, rfl, RgOk.of_le (Int.le_refl 0) (by omega) (by decide) (by omega), fun q hq => k q _ (by rw [rgV_nat]; exact S.new hq)⟩
theorem s_revL {xs : List V} (S : Sep cs H) (p : Pick (pt a (.lst xs)) cs ds) (k : ∀ p H', Sep (pt p (.lst xs.reverse) :: cs) H' → Q (.ref p) H') :
    ∃ b ys, V.ref a = .ref b ∧ SqL K H b ys ∧ ∀ p, H p = none → Q (.ref p) (upd H p (.lst ys.reverse)) := ⟨a, xs, rfl, SqL.of (S.get p), fun p hp => k p _ (S.new hp)⟩
end
end L2.Zs
namespace L2.Zs
open PySem PySem.Spec PyProof.Rows
/-! # law 06: round and round (plain) -/
abbrev Ent := Nat × List Int
def Chain (n : Nat) : Nat → List Ent → Nat → Prop
  | m, [], m' => m = m'
  | m, e :: r, m' => ∃ t, t < n ∧ e.1 = (m + t) % n ∧ (∀ j < t, (((m + j) % n : Nat) : Int) ∈ e.2) ∧ Chain n ((e.1 + 1) % n) r m'
theorem Chain.app {n : Nat} : ∀ {xs ys : List Ent} {m m' : Nat}, Chain n m (xs ++ ys) m' ↔ ∃ c, Chain n m xs c ∧ Chain n c ys m'
  | [], ys, m, m' => ⟨fun h => ⟨m, rfl, h⟩, fun ⟨c, h1, h2⟩ => by have h1 : m = c := h1; subst h1; exact h2⟩
  | x :: xs, ys, m, m' => by
    constructor
    · rintro ⟨t, h1, h2, h3, h4⟩
      obtain ⟨c, h5, h6⟩ := Chain.app.mp h4
      exact ⟨c, ⟨t, h1, h2, h3, h5⟩, h6⟩
    · rintro ⟨c, ⟨t, h1, h2, h3, h4⟩, h5⟩
      exact ⟨t, h1, h2, h3, Chain.app.mpr ⟨c, h4, h5⟩⟩
/-- what is passed by these entries -/
def InE (L : List Ent) (x : Int) : Prop := ∃ e ∈ L, x = ((e.1 : Nat) : Int) ∨ x ∈ e.2
theorem Chain.cover {n : Nat} : ∀ {L : List Ent} {m m' : Nat}, Chain n m L m' → m < n → ∃ S, L.length ≤ S ∧ m' = (m + S) % n ∧ ∀ j < S, InE L (((m + j) % n : Nat) : Int)
  | [], m, m', h, hm => ⟨0, Nat.le_refl _, by have h : m = m' := h; rw [← h, Nat.add_zero, Nat.mod_eq_of_lt hm], fun j hj => absurd hj (Nat.not_lt_zero _)⟩
  | e :: L, m, m', ⟨t, h1, h2, h3, h4⟩, hm => by
    have n0 : 0 < n := by omega
    obtain ⟨S, a1, a2, a3⟩ := Chain.cover h4 (Nat.mod_lt _ n0)
    have er : (e.1 + 1) % n = (m + t + 1) % n := by rw [h2, Nat.mod_add_mod]
    refine ⟨t + 1 + S, by rw [List.length_cons]; omega, ?_, fun j hj => ?_⟩
    · rw [a2, er, Nat.mod_add_mod]
      congr 1; omega
    · rcases Nat.lt_trichotomy j t with c | c | c
      · exact ⟨e, List.mem_cons_self, .inr (h3 j c)⟩
      · subst c
        exact ⟨e, List.mem_cons_self, .inl (by rw [h2])⟩
      · obtain ⟨e', he, hx⟩ := a3 (j - t - 1) (by omega)
        rw [er, Nat.mod_add_mod, show m + t + 1 + (j - t - 1) = m + j by omega] at hx
        exact ⟨e', List.mem_cons_of_mem _ he, hx⟩
/-- back where it was: all are passed -/
theorem Chain.round {n : Nat} {L : List Ent} {m : Nat} (h : Chain n m L m) (hm : m < n) (ne : L ≠ []) : ∀ x : Nat, x < n → InE L (x : Int) := by
  intro x hx
  obtain ⟨S, a1, a2, a3⟩ := h.cover hm
  have s1 : 1 ≤ S := Nat.le_trans (by cases L with | nil => exact absurd rfl ne | cons _ _ => exact Nat.succ_pos _) a1
  have sn : n ≤ S := by
    rcases Nat.lt_or_ge S n with c | c
    · exfalso
      rcases Nat.lt_or_ge (m + S) n with d | d
      · rw [Nat.mod_eq_of_lt d] at a2; omega
      · rw [Nat.mod_eq_sub_mod d, Nat.mod_eq_of_lt (by omega)] at a2; omega
    · exact c
  rcases Nat.lt_or_ge x m with c | c
  · have := a3 (x + n - m) (by omega)
    rwa [show m + (x + n - m) = x + n by omega, Nat.add_mod_right, Nat.mod_eq_of_lt hx] at this
  · have := a3 (x - m) (by omega)
    rwa [show m + (x - m) = x by omega, Nat.mod_eq_of_lt hx] at this
theorem strict_eq : ∀ {xs ys : List Int}, xs.Pairwise (· < ·) → ys.Pairwise (· < ·) → (∀ z, z ∈ xs ↔ z ∈ ys) → xs = ys
  | [], ys, _, _, h => by
    cases ys with
    | nil => rfl
    | cons y ys => exact absurd ((h y).mpr List.mem_cons_self) List.not_mem_nil
  | x :: xs, [], _, _, h => absurd ((h x).mp List.mem_cons_self) List.not_mem_nil
  | x :: xs, y :: ys, h1, h2, h => by
    obtain ⟨a1, a2⟩ := List.pairwise_cons.mp h1
    obtain ⟨b1, b2⟩ := List.pairwise_cons.mp h2
    have e : x = y := by
      rcases List.mem_cons.mp ((h x).mp List.mem_cons_self) with e | m1
      · exact e
      · rcases List.mem_cons.mp ((h y).mpr List.mem_cons_self) with e | m2
        · exact e.symm
        · have := a1 y m2
          have := b1 x m1
          omega
    subst e
    rw [strict_eq a2 b2 fun z => ?_]
    constructor
    · intro hz
      rcases List.mem_cons.mp ((h z).mp (List.mem_cons_of_mem _ hz)) with e | m
      · have := a1 z hz; omega
      · exact m
    · intro hz
      rcases List.mem_cons.mp ((h z).mpr (List.mem_cons_of_mem _ hz)) with e | m
      · have := b1 z hz; omega
      · exact m
def upTo (n : Nat) : List Int := (List.range n).map fun (i : Nat) => (i : Int)
theorem upTo_mem {n : Nat} {x : Int} : x ∈ upTo n ↔ 0 ≤ x ∧ x < n := by
  unfold upTo
  rw [List.mem_map]
  constructor
  · rintro ⟨i, hi, rfl⟩
    have := List.mem_range.mp hi
    omega
  · intro h
    exact ⟨x.toNat, List.mem_range.mpr (by omega), by omega⟩
theorem upTo_lt {n : Nat} : (upTo n).Pairwise (· < ·) := by
  unfold upTo
  rw [List.pairwise_map]
  exact List.Pairwise.imp (fun {a b} h => by omega) List.pairwise_lt_range
/-- what is passed, as the law joins it -/
def psOf (L : List Ent) : List Int := L.flatMap fun e => e.2 ++ [((e.1 : Nat) : Int)]
theorem psOf_mem {L : List Ent} {x : Int} : x ∈ psOf L ↔ InE L x := by
  unfold psOf InE
  rw [List.mem_flatMap]
  constructor
  · rintro ⟨e, he, hx⟩
    rw [List.mem_append, List.mem_singleton] at hx
    exact ⟨e, he, hx.symm⟩
  · rintro ⟨e, he, hx⟩
    exact ⟨e, he, by rw [List.mem_append, List.mem_singleton]; exact hx.symm⟩
/-- the takes so far -/
structure Gone (n : Nat) (es : List Ent) (m : Nat) : Prop where
  ch : ∃ m0, m0 < n ∧ Chain n m0 es m
  ra : ∀ e ∈ es, e.1 < n ∧ e.2.length ≤ n ∧ ∀ x ∈ e.2, 0 ≤ x ∧ x < n
theorem Gone.fair {n : Nat} {es : List Ent} {m : Nat} (g : Gone n es m) {k i : Nat} (kl : ∃ e, es.getLast? = some e ∧ e.1 = k) {e : Ent} (hi : es.reverse[i]? = some e) (he : e.1 = k) (i0 : 0 < i) {ns : List Int} (h1 : ns.Pairwise (· < ·)) (h2 : ∀ x, x ∈ ns ↔ x ∈ psOf (es.reverse.take i)) : ns = upTo n := by
  obtain ⟨m0, hm0, ch⟩ := g.ch
  obtain ⟨el, hel, hek⟩ := kl
  have hlt : i < es.reverse.length := (List.getElem?_eq_some_iff.mp hi).1
  rw [List.length_reverse] at hlt
  -- es = A ++ e :: B, B the newer ones
  have er : es.reverse = es.reverse.take i ++ e :: es.reverse.drop (i + 1) := by
    conv => lhs; rw [← List.take_append_drop i es.reverse]
    congr 1
    rw [List.drop_eq_getElem_cons (by rw [List.length_reverse]; exact hlt)]
    congr 1
    exact Option.some.inj ((List.getElem?_eq_getElem (by rw [List.length_reverse]; exact hlt)).symm.trans hi)
  obtain ⟨B, eB⟩ : ∃ B, B = (es.reverse.take i).reverse := ⟨_, rfl⟩
  have eT : es.reverse.take i = B.reverse := by rw [eB, List.reverse_reverse]
  have bl : B.length = i := by rw [eB, List.length_reverse, List.length_take, List.length_reverse]; omega
  have eE : es = (es.reverse.drop (i + 1)).reverse ++ e :: B := by
    have := congrArg List.reverse er
    rw [List.reverse_reverse, List.reverse_append, List.reverse_cons, ← eB, List.append_assoc] at this
    exact this
  rw [eE] at ch
  obtain ⟨c, c1, t, t1, t2, t3, c2⟩ := Chain.app.mp ch
  have bne : B ≠ [] := by intro z; rw [z] at bl; have : 0 = i := bl; omega
  have n0 : 0 < n := by omega
  -- the mark behind the last is the mark behind e
  have em : m = (k + 1) % n := by
    have hB : B.getLast? = some el := by
      rw [eE, List.getLast?_append] at hel
      cases hb : B.getLast? with
      | none => exact absurd (List.getLast?_eq_none_iff.mp hb) bne
      | some y =>
        rw [List.getLast?_cons, hb] at hel
        exact hel
    obtain ⟨B', rfl⟩ : ∃ B', B = B' ++ [el] := by
      refine ⟨B.dropLast, ?_⟩
      have e1 := List.dropLast_concat_getLast bne
      have e2 : B.getLast bne = el := by
        have := List.getLast?_eq_some_getLast bne
        rw [this] at hB
        exact Option.some.inj hB
      rw [← e2]; exact e1.symm
    obtain ⟨c', _, t', _, _, _, c4⟩ := Chain.app.mp c2
    have c4 : (el.1 + 1) % n = m := c4
    rw [← c4, hek]
  rw [he] at c2
  rw [em] at c2
  have all := c2.round (Nat.mod_lt _ n0) bne
  refine strict_eq h1 upTo_lt fun x => ?_
  rw [h2 x, eT, psOf_mem, upTo_mem]
  constructor
  · rintro ⟨e', he', hx⟩
    have hm : e' ∈ es := by rw [eE]; exact List.mem_append_right _ (List.mem_cons_of_mem _ (List.mem_reverse.mp he'))
    obtain ⟨r1, _, r2⟩ := g.ra e' hm
    rcases hx with rfl | hx
    · omega
    · exact r2 x hx
  · intro hx
    obtain ⟨e', he', h'⟩ := all x.toNat (by omega)
    rw [Int.toNat_of_nonneg hx.1] at h'
    exact ⟨e', List.mem_reverse.mpr he', h'⟩
theorem psOf_snoc {L : List Ent} {e : Ent} : psOf (L ++ [e]) = psOf L ++ e.2 ++ [((e.1 : Nat) : Int)] := by
  unfold psOf
  rw [List.flatMap_append, List.append_assoc]
  congr 1
  simp
theorem psOf_len {n : Nat} : ∀ {L : List Ent}, (∀ e ∈ L, e.2.length ≤ n) → (psOf L).length ≤ (n + 1) * L.length
  | [], _ => Nat.zero_le _
  | e :: L, h => by
    have a := h e List.mem_cons_self
    have b := psOf_len (L := L) fun e he => h e (List.mem_cons_of_mem _ he)
    show ((e.2 ++ [((e.1 : Nat) : Int)]) ++ psOf L).length ≤ (n + 1) * (L.length + 1)
    rw [List.length_append, List.length_append, Nat.mul_add]
    show e.2.length + 1 + _ ≤ _
    omega
end L2.Zs
namespace L2.Zs
open PySem PySem.Spec PyProof.Rows
/-! # law 06: the takes so far as a chunk -/
theorem s_gtupT {K : PySem.W.Frag} {n : Nat} {g : TGs} {R : St → Hp → Prop} {σ : St} {H : Hp} {a : Addr} {xs : List V} (h : H a = some (.tup xs)) (hn : xs.length = n) (k : g xs σ H R) : gTup K n g (.ref a) σ H R := ⟨a, xs, rfl, SqT.of h, hn, k⟩
theorem okIz (zs : List Int) : ∀ v ∈ zs.map V.int, okV v = true := fun v hv => by obtain ⟨j, _, rfl⟩ := List.mem_map.mp hv; rfl
def rf (t : Addr × Addr) : V := V.ref t.1
def goE (ts : List (Addr × Addr)) (es : List Ent) : As := fun H => ts.length = es.length ∧ ∀ (i : Nat) (t : Addr × Addr) (e : Ent), ts[i]? = some t → es[i]? = some e → H t.1 = some (.tup [.int (e.1 : Nat), .ref t.2]) ∧ H t.2 = some (.lst (e.2.map V.int))
theorem Sep.go0 {F : List As} {H : Hp} (h : Sep F H) : Sep (goE [] [] :: F) H :=
  ⟨fun _ => none, H, (fun _ _ q => nomatch q), Le.refl _, (fun _ _ q => nomatch q), ⟨rfl, fun i a d h => by simp at h⟩, h⟩
theorem Sep.goAdd {ts : List (Addr × Addr)} {es : List Ent} {t l : Addr} {k : Nat} {aw : List Int} {F : List As} {H : Hp} (h : Sep (pt t (.tup [.int k, .ref l]) :: pt l (.lst (aw.map V.int)) :: goE ts es :: F) H) : Sep (goE (ts ++ [(t, l)]) (es ++ [(k, aw)]) :: F) H := by
  have h : Sep ((fun H => H t = some (.tup [.int k, .ref l]) ∧ H l = some (.lst (aw.map V.int))) :: goE ts es :: F) H := Sep.join h fun H1 H2 H' l1 l2 q1 q2 => ⟨l1 _ _ q1, l2 _ _ q2⟩
  refine h.join fun H1 H2 H' l1 l2 q1 q2 => ⟨by rw [List.length_append, List.length_append, q2.1]; rfl, fun i a e h1 h2 => ?_⟩
  by_cases c : i < ts.length
  · rw [List.getElem?_append_left c] at h1
    rw [List.getElem?_append_left (q2.1 ▸ c)] at h2
    obtain ⟨a1, a2⟩ := q2.2 i a e h1 h2
    exact ⟨l2 _ _ a1, l2 _ _ a2⟩
  · rw [List.getElem?_append_right (by omega)] at h1
    rw [List.getElem?_append_right (by rw [← q2.1]; omega)] at h2
    have e1 := List.mem_singleton.mp (List.mem_of_getElem? h1)
    have e2 := List.mem_singleton.mp (List.mem_of_getElem? h2)
    subst e1 e2
    exact ⟨l1 _ _ q1.1, l1 _ _ q1.2⟩
theorem Sep.goGet {ts : List (Addr × Addr)} {es : List Ent} {cs ds : List As} {H : Hp} (h : Sep cs H) (p : Pick (goE ts es) cs ds) : goE ts es H := by
  obtain ⟨H1, H2, l, _, _, q, _⟩ := h.pick p
  refine ⟨q.1, fun i a e h1 h2 => ?_⟩
  obtain ⟨a1, a2⟩ := q.2 i a e h1 h2
  exact ⟨l _ _ a1, l _ _ a2⟩
theorem goE_at {ts : List (Addr × Addr)} {es : List Ent} {H : Hp} (g : goE ts es H) {i : Nat} {t : Addr × Addr} (h : ts[i]? = some t) : ∃ e, es[i]? = some e := by
  have hi : i < es.length := by rw [← g.1]; exact (List.getElem?_eq_some_iff.mp h).1
  exact ⟨es[i], List.getElem?_eq_getElem hi⟩
theorem goE_rev {ts : List (Addr × Addr)} {es : List Ent} {H : Hp} (g : goE ts es H) : goE ts.reverse es.reverse H := by
  refine ⟨by rw [List.length_reverse, List.length_reverse, g.1], fun i t e h1 h2 => ?_⟩
  have l1 := (List.getElem?_eq_some_iff.mp h1).1
  rw [List.length_reverse] at l1
  rw [List.getElem?_reverse l1] at h1
  rw [List.getElem?_reverse (by rw [← g.1]; exact l1), ← g.1] at h2
  exact g.2 _ t e h1 h2
/-- a list and one that is known by its place -/
theorem s_addLH {H : Hp} {Q : VK} {a b : Addr} {xs ys : List V} {cs ds : List As} (S : Sep cs H) (p1 : Pick (pt a (.lst xs)) cs ds) (hb : H b = some (.lst ys)) (h : xs.length + ys.length ≤ sizeLine) (k : ∀ p H', Sep (pt p (.lst (xs ++ ys)) :: cs) H' → Q (.ref p) H') : rAddZ (.ref a) (.ref b) H Q :=
  .inr (.inr ⟨a, b, xs, ys, rfl, rfl, S.get p1, hb, h, fun p n => k p _ (S.new n)⟩)
def spFair : Sp := fun vs H Q E => ∃ (gp : Addr) (ts : List (Addr × Addr)) (es : List Ent) (k n m : Nat) (F : List As), vs = [.ref gp, .int (k : Nat), .int (n : Nat)] ∧ Gone n es m ∧ (∃ e, es.getLast? = some e ∧ e.1 = k) ∧ n ≤ 12 ∧ es.length ≤ 120 ∧ Sep (pt gp (.lst (ts.map rf)) :: goE ts es :: F) H ∧
  ∀ H', Sep (pt gp (.lst (ts.map rf)) :: goE ts es :: F) H' → Q (.bl true) H'
theorem len_fair {vs H Q E} (h : spFair vs H Q E) : vs.length = 3 := by obtain ⟨_, _, _, _, _, _, _, rfl, _⟩ := h; rfl
end L2.Zs
namespace L2.Zs
open PySem PySem.Spec PyProof.Rows
local macro_rules | `(tactic| wtm_at "pk") => `(tactic| (repeat (first | with_reducible exact Pick.here | with_reducible apply Pick.there)))
local macro_rules | `(tactic| wtm_at "cg") => `(tactic| (repeat (first | with_reducible exact Chg.here | with_reducible apply Chg.there)))
local macro_rules | `(tactic| wtm_at "sa") => `(tactic| (repeat (first | with_reducible exact SetAt.here | with_reducible apply SetAt.there)))
local macro_rules | `(tactic| wtm_at "wk1") => `(tactic| (repeat (first | with_reducible exact Wk.refl | (with_reducible apply Wk.pick; focus (wtm_at "pk"; done)) | with_reducible apply Wk.drop)))
local macro_rules | `(tactic| wtm_at "wk") => `(tactic| (refine Wk.sep ?_ (by assumption); wtm_at "wk1"))
local macro_rules | `(tactic| wtm_at "sz") => `(tactic| first | exact Nat.le_of_ble_eq_true rfl | assumption | omega)
local macro_rules | `(tactic| wtm_at "s1") => `(tactic| first
  | refine Stp.go ?_
  | ((with_reducible show rMod _ _ _ _); (with_reducible refine s_mod (by first | decide | assumption | omega) ?_))
  | ((with_reducible show rMulZ _ _ _ _); (with_reducible refine s_mulI (by first | exact cmul_l (by decide) | exact cmul_r (by decide) | (exact cmul_l (by omega)) | (exact cmul_r (by omega))) ?_))
  | ((with_reducible show rDiv _ _ _ _); (with_reducible refine s_div (cdiv_of (by decide) (by decide)) ?_))
  | ((with_reducible show rPow _ _ _ _); (with_reducible refine s_pow (cpow_of (by decide) (by decide) (by decide)) ?_))
  | ((with_reducible show rLen _ _ _ _); (with_reducible refine s_lenL (by assumption) (by wtm_at "pk") ?_))
  | ((with_reducible show rLen _ _ _ _); (with_reducible refine s_lenQ (by assumption) (by wtm_at "pk") ?_))
  | ((with_reducible show rLen _ _ _ _); (with_reducible refine s_lenT (by assumption) (by wtm_at "pk") ?_))
  | ((with_reducible show tyV _ _ _ _ ∧ _); (with_reducible refine s_tyL (by assumption) (by wtm_at "pk") ?_)))
local macro_rules | `(tactic| wtm_at "st") => `(tactic| (repeat (first | wtm_at "s1" | with_reducible refine s_seq ?_)))
local macro_rules | `(tactic| wtm_at "stc") => `(tactic| (repeat wtm_at "s1"))

def top (i : Nat) : Stmt := PySem.Challenge.pw_stephall_k06_whole_seekers_go_round.main.body.getD i (.Pass ⟨0, 0, 0, 0⟩)
structure Ad where
  HallError : Addr
  NoSwitch : Addr
  Rack : Addr
  Seekers : Addr
structure Txt (K : PySem.W.Frag) (mg : PySem.Str → Option Value) (ad : Ad) : Prop where
  b_len : mg "len" = none
  b_range : mg "range" = none
  b_list : mg "list" = none
  b_set : mg "set" = none
  b_sorted : mg "sorted" = none
  g_Rack : mg "Rack" = some (.ref ad.Rack)
  x_HallError : XC K mg "HallError" ad.HallError
  x_NoSwitch : XC K mg "NoSwitch" ad.NoSwitch
abbrev s_Lcell : Stmt := top 8
abbrev N_Lcell : List Str := ["script", "k"]
theorem sc_Lcell : FnScope N_Lcell ["script", "k"] (defScope s_Lcell) := ⟨rfl, rfl, rfl, by decide +kernel, rfl, by decide +kernel, by decide +kernel⟩
abbrev s_Ldraws : Stmt := top 9
abbrev N_Ldraws : List Str := ["script", "k", "many", "base", "primes", "cell", "rest", "row", "j", "mash"]
theorem sc_Ldraws : FnScope N_Ldraws ["script", "k", "many", "base"] (defScope s_Ldraws) := ⟨rfl, rfl, rfl, by decide +kernel, rfl, by decide +kernel, by decide +kernel⟩
abbrev s_Lfair : Stmt := top 10
abbrev N_Lfair : List Str := ["gone", "k", "many", "passed", "who", "some"]
theorem sc_Lfair : FnScope N_Lfair ["gone", "k", "many"] (defScope s_Lfair) := ⟨rfl, rfl, rfl, by decide +kernel, rfl, by decide +kernel, by decide +kernel⟩
abbrev s_RackQ_initQ : Stmt := inClass (top 5) 0
abbrev N_RackQ_initQ : List Str := ["self", "many"]
theorem sc_RackQ_initQ : FnScope N_RackQ_initQ ["self", "many"] (defScope s_RackQ_initQ) := ⟨rfl, rfl, rfl, by decide +kernel, rfl, by decide +kernel, by decide +kernel⟩
abbrev s_Rack_is_ready : Stmt := inClass (top 5) 1
abbrev N_Rack_is_ready : List Str := ["self", "k"]
theorem sc_Rack_is_ready : FnScope N_Rack_is_ready ["self", "k"] (defScope s_Rack_is_ready) := ⟨rfl, rfl, rfl, by decide +kernel, rfl, by decide +kernel, by decide +kernel⟩
abbrev s_Rack_need : Stmt := inClass (top 5) 2
abbrev N_Rack_need : List Str := ["self", "k"]
theorem sc_Rack_need : FnScope N_Rack_need ["self", "k"] (defScope s_Rack_need) := ⟨rfl, rfl, rfl, by decide +kernel, rfl, by decide +kernel, by decide +kernel⟩
abbrev s_Rack_given : Stmt := inClass (top 5) 3
abbrev N_Rack_given : List Str := ["self", "k", "who"]
theorem sc_Rack_given : FnScope N_Rack_given ["self", "k", "who"] (defScope s_Rack_given) := ⟨rfl, rfl, rfl, by decide +kernel, rfl, by decide +kernel, by decide +kernel⟩
abbrev s_Rack_free : Stmt := inClass (top 5) 4
abbrev N_Rack_free : List Str := ["self", "k"]
theorem sc_Rack_free : FnScope N_Rack_free ["self", "k"] (defScope s_Rack_free) := ⟨rfl, rfl, rfl, by decide +kernel, rfl, by decide +kernel, by decide +kernel⟩
abbrev s_Rack_stick : Stmt := inClass (top 5) 5
abbrev N_Rack_stick : List Str := ["self", "k"]
theorem sc_Rack_stick : FnScope N_Rack_stick ["self", "k"] (defScope s_Rack_stick) := ⟨rfl, rfl, rfl, by decide +kernel, rfl, by decide +kernel, by decide +kernel⟩
abbrev s_Rack_mend : Stmt := inClass (top 5) 6
abbrev N_Rack_mend : List Str := ["self", "k"]
theorem sc_Rack_mend : FnScope N_Rack_mend ["self", "k"] (defScope s_Rack_mend) := ⟨rfl, rfl, rfl, by decide +kernel, rfl, by decide +kernel, by decide +kernel⟩
abbrev s_Rack_shares : Stmt := inClass (top 5) 7
abbrev N_Rack_shares : List Str := ["self"]
theorem sc_Rack_shares : FnScope N_Rack_shares ["self"] (defScope s_Rack_shares) := ⟨rfl, rfl, rfl, by decide +kernel, rfl, by decide +kernel, by decide +kernel⟩
abbrev s_SeekersQ_initQ : Stmt := inClass (top 6) 0
abbrev N_SeekersQ_initQ : List Str := ["self", "many", "places"]
theorem sc_SeekersQ_initQ : FnScope N_SeekersQ_initQ ["self", "many", "places"] (defScope s_SeekersQ_initQ) := ⟨rfl, rfl, rfl, by decide +kernel, rfl, by decide +kernel, by decide +kernel⟩
abbrev s_Seekers_take : Stmt := inClass (top 6) 1
abbrev N_Seekers_take : List Str := ["self", "place", "many", "far", "k", "way"]
theorem sc_Seekers_take : FnScope N_Seekers_take ["self", "place"] (defScope s_Seekers_take) := ⟨rfl, rfl, rfl, by decide +kernel, rfl, by decide +kernel, by decide +kernel⟩
abbrev s_Seekers_holders : Stmt := inClass (top 6) 2
abbrev N_Seekers_holders : List Str := ["self"]
theorem sc_Seekers_holders : FnScope N_Seekers_holders ["self"] (defScope s_Seekers_holders) := ⟨rfl, rfl, rfl, by decide +kernel, rfl, by decide +kernel, by decide +kernel⟩
abbrev s_Seekers_stuck : Stmt := inClass (top 6) 3
abbrev N_Seekers_stuck : List Str := ["self", "k"]
theorem sc_Seekers_stuck : FnScope N_Seekers_stuck ["self"] (defScope s_Seekers_stuck) := ⟨rfl, rfl, rfl, by decide +kernel, rfl, by decide +kernel, by decide +kernel⟩
abbrev s_Seekers_steps : Stmt := inClass (top 6) 5
abbrev N_Seekers_steps : List Str := ["self"]
theorem sc_Seekers_steps : FnScope N_Seekers_steps ["self"] (defScope s_Seekers_steps) := ⟨rfl, rfl, rfl, by decide +kernel, rfl, by decide +kernel, by decide +kernel⟩
abbrev s_law : Stmt := top 11
abbrev N_law : List Str := ["script", "row", "many", "places", "seekers", "gone", "spots", "steps", "draw", "held", "k", "away", "place", "found", "who", "some", "shares"]
theorem sc_law : FnScope N_law ["script"] (defScope s_law) := ⟨rfl, rfl, rfl, by decide +kernel, rfl, by decide +kernel, by decide +kernel⟩
section
variable {P : Program} {w : World} {K : PySem.W.Frag} {mg : PySem.Str → Option Value} {base : Heap} {ad : Ad} {Cs : List Addr} {C : Addr} {f : Addr} {fd : FuncData}
set_option maxHeartbeats 2000000
theorem ok_Lcell {f : Addr} {fd : FuncData} (T : Txt K mg ad) (F : Fun K "_law_cell" "_law_cell" s_Lcell f fd) : FnOk P w K mg base (L2.CX P w) 1 f fd ["script", "k"] (spCell K) := by
  refine F.okX sc_Lcell (fun vs H Q E h => len_cell h) (fun cdv A outer s H vs Q E hr h => ?_)
  refine ⟨_, (pss_cons (ps_if (pt_cmpR zo_lt (pv 1) (pe_callB (k_len (K := K) rfl) (by rfl) T.b_len (by decide +kernel) (pa_cons (pv 0) pa_nil)) (nomark _)) (pss_one (ps_ret (pe_ix (k_ix (K := K) rfl) (pv 0) (pv 1) (fun _ _ => rfl)))) pss_nil)
  (pss_cons (ps_if (pt_cmpR (k_eq (K := K) rfl hr.units) (pe_callB (k_len (K := K) rfl) (by rfl) T.b_len (by decide +kernel) (pa_cons (pv 0) pa_nil)) pe_int (nomark _)) (pss_one (ps_ret (pe_op zo_add (pe_op zo_mul pe_int (pv 1)) pe_int))) pss_nil)
  (pss_one (ps_ret (pe_op zo_add (pe_op zo_mod (pe_ix (k_ix (K := K) rfl) (pv 0) (pe_op zo_mod (pv 1) (pe_callB (k_len (K := K) rfl) (by rfl) T.b_len (by decide +kernel) (pa_cons (pv 0) pa_nil))) (fun _ _ => rfl)) pe_int) (pe_op zo_mul pe_int (pv 1))))))), ?_⟩
  obtain ⟨a, ns, k, cs, rfl, S, h0, q⟩ := h
  refine s_start (σ := [some (.ref a), some (.int k)]) rfl ?_
  wtm_at "st"
  refine s_ifd (fun h1 => ?_) (fun h1 => ?_)
  · wtm_at "st"
    obtain ⟨v, hv, hm, _⟩ := atI_lt (xs := ns.map V.int) h0 h1
    obtain ⟨z, _, rfl⟩ := List.mem_map.mp hm
    exact s_ixQ S (by wtm_at "pk") hv (q z)
  · wtm_at "st"
    refine s_ifd (fun h2 => ?_) (fun h2 => ?_)
    · wtm_at "st"
      exact q _
    · have h3 : (0 : Int) < ((ns.map V.int).length : Nat) := by omega
      wtm_at "st"
      obtain ⟨v, hv, hm, _⟩ := atI_lt (xs := ns.map V.int) (i := k % ((ns.map V.int).length : Nat)) (Int.emod_nonneg _ (by omega)) (Int.emod_lt_of_pos _ h3)
      obtain ⟨z, _, rfl⟩ := List.mem_map.mp hm
      refine s_ixQ S (by wtm_at "pk") hv ?_
      wtm_at "st"
      exact q _
theorem len_nn (n : Nat) : (n : Int) % 8 < 8 ∧ 0 ≤ (n : Int) % 8 := ⟨Int.emod_lt_of_pos _ (by decide), Int.emod_nonneg _ (by decide)⟩
theorem ok_Ldraws {f : Addr} {fd : FuncData} (T : Txt K mg ad) (c_Lcell : Cal P w K mg base 1 "_law_cell" (spCell K)) (F : Fun K "_law_draws" "_law_draws" s_Ldraws f fd) : FnOk P w K mg base (L2.CX P w) 2 f fd ["script", "k", "many", "base"] (spDraws K) := by
  refine F.okX sc_Ldraws (fun vs H Q E h => len_draws h) (fun cdv A outer s H vs Q E hr h => ?_)
  have tk : Takes (cxOf (L2.CX P w) P w K mg base N_Ldraws "_law_draws" (defScope s_Ldraws) f cdv A outer s H E) (fun cls d _ H => E cls d H) := takes_of rfl rfl rfl rfl
  have po_ : PassesOwn (model P w) (cxOf (L2.CX P w) P w K mg base N_Ldraws "_law_draws" (defScope s_Ldraws) f cdv A outer s H E).A (cxOf (L2.CX P w) P w K mg base N_Ldraws "_law_draws" (defScope s_Ldraws) f cdv A outer s H E).env (cxOf (L2.CX P w) P w K mg base N_Ldraws "_law_draws" (defScope s_Ldraws) f cdv A outer s H E).xe := passes_of rfl
  refine ⟨_, (pss_cons (ps_set (i := 4) sc_Ldraws.nd rfl (Or.inl rfl) (pe_tup (pa_cons pe_int (pa_cons pe_int (pa_cons pe_int (pa_cons pe_int (pa_cons pe_int (pa_cons pe_int (pa_cons pe_int (pa_cons pe_int pa_nil))))))))))
  (pss_cons (ps_set (i := 5) sc_Ldraws.nd rfl (Or.inl rfl) (z_call c_Lcell tk hr (by decide) (by rfl) (pa_cons (pv 0) (pa_cons (pv 1) pa_nil))))
  (pss_cons (ps_set (i := 6) sc_Ldraws.nd rfl (Or.inl rfl) pe_int)
  (pss_cons (ps_if (pt_cmpR zo_ge (pv 5) (pe_op zo_pow pe_int pe_int) (nomark _)) (pss_one (ps_set (i := 6) sc_Ldraws.nd rfl (Or.inl rfl) (pv 5))) pss_nil)
  (pss_cons (ps_set (i := 7) sc_Ldraws.nd rfl (Or.inl rfl) (pe_lst pa_nil))
  (pss_cons (ps_for (po_) rfl (pi_range1 (by rfl) T.b_range (pa_cons (pv 2) pa_nil)) (pg_name (i := 8) sc_Ldraws.nd rfl (Or.inl rfl)) (pss_cons (ps_set (i := 9) sc_Ldraws.nd rfl (Or.inl rfl) (pe_op zo_mul (pe_op zo_mod (pv 5) (pe_ix (k_ix (K := K) rfl) (pv 4) (pe_op zo_mod (pv 8) pe_int) (fun _ _ => rfl))) (pe_op zo_add pe_int (pe_op zo_mul (pe_op zo_mul pe_int (pv 8)) (pv 8)))))
  (pss_cons (ps_set (i := 9) sc_Ldraws.nd rfl (Or.inl rfl) (pe_op zo_add (pe_op zo_add (pv 9) (pe_op zo_mul (pe_op zo_mul pe_int (pe_op zo_add (pv 8) pe_int)) (pe_op zo_add (pv 8) pe_int))) (pe_op zo_mul pe_int (pv 1))))
  (pss_cons (ps_set (i := 9) sc_Ldraws.nd rfl (Or.inl rfl) (pe_op zo_mod (pv 9) (pe_ix (k_ix (K := K) rfl) (pv 4) (pe_op zo_mod (pe_op zo_add (pe_op zo_mul pe_int (pv 8)) (pv 1)) pe_int) (fun _ _ => rfl))))
  (pss_cons (ps_set (i := 9) sc_Ldraws.nd rfl (Or.inl rfl) (pe_op zo_mod (pe_op zo_mul (pe_op zo_mul (pv 9) (pv 9)) (pv 9)) (pe_ix (k_ix (K := K) rfl) (pv 4) (pe_op zo_mod (pe_op zo_add (pv 8) pe_int) pe_int) (fun _ _ => rfl))))
  (pss_cons (ps_if (pt_cmpR zo_gt (pv 6) pe_int (nomark _)) (pss_one (ps_set (i := 9) sc_Ldraws.nd rfl (Or.inl rfl) (pv 6))) pss_nil)
  (pss_cons (ps_expr (k_bm (K := K) rfl PySem.F.plainAttrs_list PySem.F.slot_list_append PySem.F.type_list_append z_append (pv 7) (pa_cons (pe_op zo_mod (pv 9) (pv 3)) pa_nil)))
  (pss_one (ps_set (i := 6) sc_Ldraws.nd rfl (Or.inl rfl) (pe_op zo_div (pv 6) (pv 3)))))))))))
  (pss_one (ps_ret (pv 7))))))))), ?_⟩
  obtain ⟨a, ns, k, many, bs, cs, rfl, S, h0, h00, h1, h2, h3, q⟩ := h
  refine s_start (σ := [some (.ref a), some (.int k), some (.int many), some (.int bs), none, none, none, none, none, none]) rfl ?_
  wtm_at "st"
  refine s_newT (by wtm_at "sz") S fun p H S => ?_
  wtm_at "st"
  refine ⟨a, ns, k, _, rfl, S.pick (by wtm_at "pk"), h0, fun z => ?_⟩
  wtm_at "stc"
  with_reducible refine s_cut (fun σ H' => H' = H ∧ ∃ rest : Int, 0 ≤ rest ∧ σ = [some (.ref a), some (.int k), some (.int many), some (.int bs), some (.ref p), some (.int z), some (.int rest), none, none, none]) ?_ (fun N go => ?_)
  rotate_left
  · wtm_at "st"
    refine s_ifd (fun h5 => ?_) (fun h5 => ?_)
    · wtm_at "st"
      exact go _ _ ⟨rfl, z, (by have : (0:Int) ≤ 10 ^ (18 : Int).toNat := by decide
                                omega), rfl⟩
    · wtm_at "st"
      exact go _ _ ⟨rfl, 0, by decide, rfl⟩
  rintro _ _ ⟨rfl, rest, hrest, rfl⟩
  have S : Sep (pt p (.tup (prL.map V.int)) :: sq K a (ns.map V.int) :: cs) _ := S
  wtm_at "st"
  refine s_newL (by wtm_at "sz") S fun q1 H S => ?_
  wtm_at "st"
  refine s_rng1 h1 (by omega) (lp_range (fun i σ H => ∃ (rest : Int) (row : List Int) (v8 v9 : Option V), σ = [some (.ref a), some (.int k), some (.int many), some (.int bs), some (.ref p), some (.int z), some (.int rest), some (.ref q1), v8, v9] ∧
    0 ≤ rest ∧ row.length = i ∧ (∀ r ∈ row, 0 ≤ r ∧ r < bs) ∧ Sep (pt q1 (.lst (row.map V.int)) :: pt p (.tup (prL.map V.int)) :: sq K a (ns.map V.int) :: cs) H)
    ⟨rest, [], none, none, rfl, hrest, rfl, (fun r hr => nomatch hr), S⟩ ?_ ?_)
  · rintro i σ H hi ⟨rest, row, v8, v9, rfl, hrest, hl, hrow, S⟩
    have hi' : (i : Int) < 1000000 := by omega
    wtm_at "st"
    obtain ⟨p1, hp1, e1⟩ := prL_at i
    refine s_ixT S (by wtm_at "pk") e1 ?_
    have b1 := emod_in z hp1.1
    wtm_at "st"
    obtain ⟨p2, hp2, e2⟩ := prL_at (3 * i + k)
    refine s_ixT S (by wtm_at "pk") e2 ?_
    wtm_at "s1"
    have b2 := emod_in (z % p1 * (48271 + 2 * (i : Int) * i) + 7919 * ((i : Int) + 1) * ((i : Int) + 1) + 104729 * k) hp2.1
    generalize (z % p1 * (48271 + 2 * (i : Int) * i) + 7919 * ((i : Int) + 1) * ((i : Int) + 1) + 104729 * k) % p2 = m at b2 ⊢
    wtm_at "st"
    obtain ⟨p3, hp3, e3⟩ := prL_at (i + 5)
    refine s_ixT S (by wtm_at "pk") e3 ?_
    wtm_at "s1"
    have b3 := emod_in (m * m * m) hp3.1
    generalize (m * m * m) % p3 = m3 at b3 ⊢
    wtm_at "stc"
    with_reducible refine s_cut (fun σ H' => H' = H ∧ ∃ m : Int, σ = [some (.ref a), some (.int k), some (.int many), some (.int bs), some (.ref p), some (.int z), some (.int rest), some (.ref q1), some (.int i), some (.int m)]) ?_ (fun N go => ?_)
    rotate_left
    · wtm_at "st"
      refine s_ifd (fun h5 => ?_) (fun h5 => ?_)
      · wtm_at "st"
        exact go _ _ ⟨rfl, _, rfl⟩
      · wtm_at "st"
        exact go _ _ ⟨rfl, _, rfl⟩
    rintro _ _ ⟨rfl, m4, rfl⟩
    have hb : 0 < bs := h3.1
    have b4 := emod_in m4 hb
    wtm_at "st"
    refine s_append (v := .int (m4 % bs)) (by assumption) (by wtm_at "cg") (by rw [List.length_map, hl]; exact Nat.lt_of_lt_of_le (show i < 1000000 by omega) (by decide)) fun H S => ?_
    wtm_at "st"
    refine s_div h3 ?_
    wtm_at "st"
    refine ⟨rest / bs, row ++ [m4 % bs], _, _, rfl, Int.ediv_nonneg hrest (by omega), by simp [hl], fun r hr => ?_, ?_⟩
    · rcases List.mem_append.mp hr with hr | hr
      · exact hrow r hr
      · rw [List.mem_singleton.mp hr]; exact b4
    · rw [List.map_append]; exact S
  · rintro σ H ⟨rest, row, v8, v9, rfl, hrest, hl, hrow, S⟩
    wtm_at "st"
    refine q row q1 H (by omega) hrow ?_
    wtm_at "wk"

theorem ok_Rack_need (T : Txt K mg ad) (R : RT K Cs) (F : Fun K "need" "Rack.need" s_Rack_need f fd) : FnOk P w K mg base (L2.CX P w) 1 f fd ["self", "k"] (spNeed Cs ad.NoSwitch C) := by
  refine F.okX sc_Rack_need (fun vs H Q E h => len_need h) (fun cdv A outer s H vs Q E hr h => ?_)
  have tk : Takes (cxOf (L2.CX P w) P w K mg base N_Rack_need "Rack.need" (defScope s_Rack_need) f cdv A outer s H E) (fun cls d _ H => E cls d H) := takes_of rfl rfl rfl rfl
  have po_ : PassesOwn (model P w) (cxOf (L2.CX P w) P w K mg base N_Rack_need "Rack.need" (defScope s_Rack_need) f cdv A outer s H E).A (cxOf (L2.CX P w) P w K mg base N_Rack_need "Rack.need" (defScope s_Rack_need) f cdv A outer s H E).env (cxOf (L2.CX P w) P w K mg base N_Rack_need "Rack.need" (defScope s_Rack_need) f cdv A outer s H E).xe := passes_of rfl
  refine ⟨_, (pss_one (ps_if ((pw_or (pt_cmpR zo_lt (pv 1) pe_int (nomark _)) (pw_or1 (pt_cmpR zo_ge (pv 1) (pe_callB (k_len (K := K) rfl) (by rfl) T.b_len (by decide +kernel) (pa_cons (k_fld (K := K) rfl (pv 0) rfl) pa_nil)) (nomark _))))).pt (pss_one (z_raise rfl tk T.x_NoSwitch rfl)) pss_nil)), ?_⟩
  obtain ⟨L, r, k, F, rfl, g, S, h1, h2⟩ := h
  refine s_start (σ := [some (.ref L.p), some (.int k)]) rfl ?_
  wtm_at "st"
  refine s_ifd (fun c1 => ?_) (fun c1 => ?_)
  · wtm_at "st"
    exact h2 (by omega)
  · wtm_at "st"
    refine s_held R g S (by wtm_at "pk") ?_
    wtm_at "st"
    refine s_ifd (fun c2 => ?_) (fun c2 => ?_)
    · wtm_at "st"
      exact h2 (by omega)
    · wtm_at "st"
      exact h1 (by omega)
theorem ok_Rack_is_ready (T : Txt K mg ad) (R : RT K Cs) (F : Fun K "is_ready" "Rack.is_ready" s_Rack_is_ready f fd) : FnOk P w K mg base (L2.CX P w) 1 f fd ["self", "k"] (spReady Cs C) := by
  refine F.okX sc_Rack_is_ready (fun vs H Q E h => len_ready h) (fun cdv A outer s H vs Q E hr h => ?_)
  have tk : Takes (cxOf (L2.CX P w) P w K mg base N_Rack_is_ready "Rack.is_ready" (defScope s_Rack_is_ready) f cdv A outer s H E) (fun cls d _ H => E cls d H) := takes_of rfl rfl rfl rfl
  have po_ : PassesOwn (model P w) (cxOf (L2.CX P w) P w K mg base N_Rack_is_ready "Rack.is_ready" (defScope s_Rack_is_ready) f cdv A outer s H E).A (cxOf (L2.CX P w) P w K mg base N_Rack_is_ready "Rack.is_ready" (defScope s_Rack_is_ready) f cdv A outer s H E).env (cxOf (L2.CX P w) P w K mg base N_Rack_is_ready "Rack.is_ready" (defScope s_Rack_is_ready) f cdv A outer s H E).xe := passes_of rfl
  refine ⟨_, (pss_one (ps_ret (pe_and (pe_cmpR zo_isN (pe_ix (k_ix (K := K) rfl) (k_fld (K := K) rfl (pv 0) rfl) (pv 1) (fun _ _ => rfl)) pe_non (nomark _)) (pe_one (pe_not (pe_ix (k_ix (K := K) rfl) (k_fld (K := K) rfl (pv 0) rfl) (pv 1) (fun _ _ => rfl))))))), ?_⟩
  obtain ⟨L, r, k, F, rfl, g, ok, S, h1, h2, q⟩ := h
  refine s_start (σ := [some (.ref L.p), some (.int k)]) rfl ?_
  wtm_at "st"
  refine s_held R g S (by wtm_at "pk") ?_
  wtm_at "st"
  obtain ⟨v, e, hm, hv⟩ := atI_lt (xs := r.held) h1 h2
  refine s_ixL S (by wtm_at "pk") e ?_
  wtm_at "st"
  have hb : k < (r.brk.map V.bl).length := by rw [List.length_map, ok.b]; exact h2
  obtain ⟨v2, e2, hm2, hv2⟩ := atI_lt (xs := r.brk.map V.bl) h1 hb
  rw [List.getElem?_map] at hv2
  obtain ⟨b, hb2, rfl⟩ := Option.map_eq_some_iff.mp hv2
  have e3 : r.rdy k.toNat = (decide (v = .non) && !b) := by
    unfold Rk.rdy
    rw [hv, List.getD_eq_getElem?_getD, hb2]
    simp
  rw [e3] at q
  refine s_ifd (fun c1 => ?_) (fun c1 => ?_)
  · subst c1
    wtm_at "st"
    refine s_brk R g S (by wtm_at "pk") ?_
    wtm_at "st"
    refine s_ixL S (by wtm_at "pk") e2 ?_
    wtm_at "st"
    simpa using q
  · wtm_at "st"
    rw [decide_eq_false c1] at q
    exact q
theorem ok_Rack_given (T : Txt K mg ad) (R : RT K Cs) (F : Fun K "given" "Rack.given" s_Rack_given f fd) : FnOk P w K mg base (L2.CX P w) 1 f fd ["self", "k", "who"] (spGiven Cs C) := by
  refine F.okX sc_Rack_given (fun vs H Q E h => len_given h) (fun cdv A outer s H vs Q E hr h => ?_)
  have tk : Takes (cxOf (L2.CX P w) P w K mg base N_Rack_given "Rack.given" (defScope s_Rack_given) f cdv A outer s H E) (fun cls d _ H => E cls d H) := takes_of rfl rfl rfl rfl
  have po_ : PassesOwn (model P w) (cxOf (L2.CX P w) P w K mg base N_Rack_given "Rack.given" (defScope s_Rack_given) f cdv A outer s H E).A (cxOf (L2.CX P w) P w K mg base N_Rack_given "Rack.given" (defScope s_Rack_given) f cdv A outer s H E).env (cxOf (L2.CX P w) P w K mg base N_Rack_given "Rack.given" (defScope s_Rack_given) f cdv A outer s H E).xe := passes_of rfl
  refine ⟨_, (pss_cons (ps_asg (pv 2) (pg_sub (k_fld (K := K) rfl (pv 0) rfl) (pv 1) set_list))
  (pss_one (ps_augS (k_fld (K := K) rfl (pv 0) rfl) (pv 1) (k_get (K := K) rfl) pe_int ip_add set_list))), ?_⟩
  obtain ⟨L, r, k, v, F, rfl, g, ok, S, h1, h2, q⟩ := h
  refine s_start (σ := [some (.ref L.p), some (.int k), some v]) rfl ?_
  wtm_at "st"
  refine s_held R g S (by wtm_at "pk") ?_
  wtm_at "st"
  refine s_stL S (n := k.toNat) (by wtm_at "cg") (ixN_of h1 h2) fun H S => ?_
  wtm_at "st"
  refine s_tak R g S (by wtm_at "pk") ?_
  wtm_at "st"
  have ht : k < (r.tak.map V.int).length := by rw [List.length_map, ok.t]; exact h2
  obtain ⟨z, hz, e2, e3⟩ := atI_int (ns := r.tak) h1 (by simpa using ht)
  refine s_ixG S (by wtm_at "pk") e2 ?_
  wtm_at "st"
  refine s_stL S (n := k.toNat) (by wtm_at "cg") (ixN_of h1 ht) fun H S => ?_
  wtm_at "st"
  refine q _ ?_
  have e4 : (r.tak.map V.int).set k.toNat (.int (z + 1)) = (r.give k.toNat v).tak.map V.int := by
    unfold Rk.give
    rw [List.map_set, List.getD_eq_getElem?_getD, e3]
    rfl
  rw [e4] at S
  exact S
theorem ok_Rack_free (T : Txt K mg ad) (R : RT K Cs) (m_Rack_need : ∀ C ∈ Cs, Met P w K mg base 1 C "need" (spNeed Cs ad.NoSwitch C)) (F : Fun K "free" "Rack.free" s_Rack_free f fd) : FnOk P w K mg base (L2.CX P w) 2 f fd ["self", "k"] (spFree Cs ad.NoSwitch C) := by
  refine F.okX sc_Rack_free (fun vs H Q E h => len_free h) (fun cdv A outer s H vs Q E hr h => ?_)
  have tk : Takes (cxOf (L2.CX P w) P w K mg base N_Rack_free "Rack.free" (defScope s_Rack_free) f cdv A outer s H E) (fun cls d _ H => E cls d H) := takes_of rfl rfl rfl rfl
  have po_ : PassesOwn (model P w) (cxOf (L2.CX P w) P w K mg base N_Rack_free "Rack.free" (defScope s_Rack_free) f cdv A outer s H E).A (cxOf (L2.CX P w) P w K mg base N_Rack_free "Rack.free" (defScope s_Rack_free) f cdv A outer s H E).env (cxOf (L2.CX P w) P w K mg base N_Rack_free "Rack.free" (defScope s_Rack_free) f cdv A outer s H E).xe := passes_of rfl
  refine ⟨_, (pss_cons (ps_expr (z_meth (pv 0) m_Rack_need tk hr (by decide) (pa_cons (pv 1) pa_nil)))
  (pss_cons (ps_if (pt_cmpR zo_isN (pe_ix (k_ix (K := K) rfl) (k_fld (K := K) rfl (pv 0) rfl) (pv 1) (fun _ _ => rfl)) pe_non (nomark _)) (pss_one (z_raise rfl tk T.x_NoSwitch rfl)) pss_nil)
  (pss_one (ps_asg pe_non (pg_sub (k_fld (K := K) rfl (pv 0) rfl) (pv 1) set_list))))), ?_⟩
  obtain ⟨L, r, k, F, rfl, g, S, h1, h2⟩ := h
  refine s_start (σ := [some (.ref L.p), some (.int k)]) rfl ?_
  wtm_at "st"
  refine s_rm g S (by decide +kernel) (by wtm_at "pk") ?_
  wtm_at "st"
  refine ⟨L, r, k, F, rfl, g, S, fun c => ?_, fun c => h2 fun z => c ⟨z.1, z.2.1⟩⟩
  wtm_at "st"
  refine s_held R g S (by wtm_at "pk") ?_
  wtm_at "st"
  obtain ⟨v, e, hm, hv⟩ := atI_lt (xs := r.held) c.1 c.2
  refine s_ixL S (by wtm_at "pk") e ?_
  wtm_at "st"
  refine s_ifd (fun c1 => ?_) (fun c1 => ?_)
  · subst c1
    wtm_at "st"
    exact h2 fun z => z.2.2 hv
  · wtm_at "st"
    refine s_held R g S (by wtm_at "pk") ?_
    wtm_at "st"
    refine s_stL S (n := k.toNat) (by wtm_at "cg") (ixN_of c.1 c.2) fun H S => ?_
    wtm_at "st"
    refine h1 c.1 c.2 (by rw [hv]; intro z; exact c1 (Option.some.inj z)) _ S
theorem ok_Rack_stick (T : Txt K mg ad) (R : RT K Cs) (m_Rack_need : ∀ C ∈ Cs, Met P w K mg base 1 C "need" (spNeed Cs ad.NoSwitch C)) (F : Fun K "stick" "Rack.stick" s_Rack_stick f fd) : FnOk P w K mg base (L2.CX P w) 2 f fd ["self", "k"] (spStick Cs ad.NoSwitch true C) := by
  refine F.okX sc_Rack_stick (fun vs H Q E h => len_stick h) (fun cdv A outer s H vs Q E hr h => ?_)
  have tk : Takes (cxOf (L2.CX P w) P w K mg base N_Rack_stick "Rack.stick" (defScope s_Rack_stick) f cdv A outer s H E) (fun cls d _ H => E cls d H) := takes_of rfl rfl rfl rfl
  have po_ : PassesOwn (model P w) (cxOf (L2.CX P w) P w K mg base N_Rack_stick "Rack.stick" (defScope s_Rack_stick) f cdv A outer s H E).A (cxOf (L2.CX P w) P w K mg base N_Rack_stick "Rack.stick" (defScope s_Rack_stick) f cdv A outer s H E).env (cxOf (L2.CX P w) P w K mg base N_Rack_stick "Rack.stick" (defScope s_Rack_stick) f cdv A outer s H E).xe := passes_of rfl
  refine ⟨_, (pss_cons (ps_expr (z_meth (pv 0) m_Rack_need tk hr (by decide) (pa_cons (pv 1) pa_nil)))
  (pss_one (ps_asg pe_bl (pg_sub (k_fld (K := K) rfl (pv 0) rfl) (pv 1) set_list)))), ?_⟩
  obtain ⟨L, r, k, F, rfl, g, ok, S, h1, h2⟩ := h
  refine s_start (σ := [some (.ref L.p), some (.int k)]) rfl ?_
  wtm_at "st"
  refine s_rm g S (by decide +kernel) (by wtm_at "pk") ?_
  wtm_at "st"
  refine ⟨L, r, k, F, rfl, g, S, fun c => ?_, fun c => h2 c⟩
  wtm_at "st"
  refine s_brk R g S (by wtm_at "pk") ?_
  wtm_at "st"
  refine s_stL S (n := k.toNat) (by wtm_at "cg") (ixN_of c.1 (by rw [List.length_map, ok.b]; exact c.2)) fun H S => ?_
  wtm_at "st"
  refine h1 c.1 c.2 _ ?_
  have e4 : (r.brk.map V.bl).set k.toNat (.bl true) = (r.brkAt k.toNat true).brk.map V.bl := by
    unfold Rk.brkAt
    rw [List.map_set]
  rw [e4] at S
  exact S
theorem ok_Rack_mend (T : Txt K mg ad) (R : RT K Cs) (m_Rack_need : ∀ C ∈ Cs, Met P w K mg base 1 C "need" (spNeed Cs ad.NoSwitch C)) (F : Fun K "mend" "Rack.mend" s_Rack_mend f fd) : FnOk P w K mg base (L2.CX P w) 2 f fd ["self", "k"] (spStick Cs ad.NoSwitch false C) := by
  refine F.okX sc_Rack_mend (fun vs H Q E h => len_stick h) (fun cdv A outer s H vs Q E hr h => ?_)
  have tk : Takes (cxOf (L2.CX P w) P w K mg base N_Rack_mend "Rack.mend" (defScope s_Rack_mend) f cdv A outer s H E) (fun cls d _ H => E cls d H) := takes_of rfl rfl rfl rfl
  have po_ : PassesOwn (model P w) (cxOf (L2.CX P w) P w K mg base N_Rack_mend "Rack.mend" (defScope s_Rack_mend) f cdv A outer s H E).A (cxOf (L2.CX P w) P w K mg base N_Rack_mend "Rack.mend" (defScope s_Rack_mend) f cdv A outer s H E).env (cxOf (L2.CX P w) P w K mg base N_Rack_mend "Rack.mend" (defScope s_Rack_mend) f cdv A outer s H E).xe := passes_of rfl
  refine ⟨_, (pss_cons (ps_expr (z_meth (pv 0) m_Rack_need tk hr (by decide) (pa_cons (pv 1) pa_nil)))
  (pss_one (ps_asg pe_bl (pg_sub (k_fld (K := K) rfl (pv 0) rfl) (pv 1) set_list)))), ?_⟩
  obtain ⟨L, r, k, F, rfl, g, ok, S, h1, h2⟩ := h
  refine s_start (σ := [some (.ref L.p), some (.int k)]) rfl ?_
  wtm_at "st"
  refine s_rm g S (by decide +kernel) (by wtm_at "pk") ?_
  wtm_at "st"
  refine ⟨L, r, k, F, rfl, g, S, fun c => ?_, fun c => h2 c⟩
  wtm_at "st"
  refine s_brk R g S (by wtm_at "pk") ?_
  wtm_at "st"
  refine s_stL S (n := k.toNat) (by wtm_at "cg") (ixN_of c.1 (by rw [List.length_map, ok.b]; exact c.2)) fun H S => ?_
  wtm_at "st"
  refine h1 c.1 c.2 _ ?_
  have e4 : (r.brk.map V.bl).set k.toNat (.bl false) = (r.brkAt k.toNat false).brk.map V.bl := by
    unfold Rk.brkAt
    rw [List.map_set]
  rw [e4] at S
  exact S
theorem ok_Rack_shares (T : Txt K mg ad) (R : RT K Cs) (F : Fun K "shares" "Rack.shares" s_Rack_shares f fd) : FnOk P w K mg base (L2.CX P w) 1 f fd ["self"] (spShares Cs C) := by
  refine F.okX sc_Rack_shares (fun vs H Q E h => len_shares h) (fun cdv A outer s H vs Q E hr h => ?_)
  have tk : Takes (cxOf (L2.CX P w) P w K mg base N_Rack_shares "Rack.shares" (defScope s_Rack_shares) f cdv A outer s H E) (fun cls d _ H => E cls d H) := takes_of rfl rfl rfl rfl
  have po_ : PassesOwn (model P w) (cxOf (L2.CX P w) P w K mg base N_Rack_shares "Rack.shares" (defScope s_Rack_shares) f cdv A outer s H E).A (cxOf (L2.CX P w) P w K mg base N_Rack_shares "Rack.shares" (defScope s_Rack_shares) f cdv A outer s H E).env (cxOf (L2.CX P w) P w K mg base N_Rack_shares "Rack.shares" (defScope s_Rack_shares) f cdv A outer s H E).xe := passes_of rfl
  refine ⟨_, (pss_one (ps_ret (pe_callTy (k_listOf (K := K) rfl) (by rfl) T.b_list (by decide +kernel) (pa_cons (k_fld (K := K) rfl (pv 0) rfl) pa_nil)))), ?_⟩
  obtain ⟨L, r, F, rfl, g, S, q⟩ := h
  refine s_start (σ := [some (.ref L.p)]) rfl ?_
  wtm_at "st"
  refine s_tak R g S (by wtm_at "pk") ?_
  wtm_at "st"
  exact s_listL S (by wtm_at "pk") fun l H S => q _ _ S
theorem ok_Rack_init (T : Txt K mg ad) (R : RT K Cs) (F : Fun K "__init__" "Rack.__init__" s_RackQ_initQ f fd) : FnOk P w K mg base (L2.CX P w) 1 f fd ["self", "many"] (spRack Cs C) := by
  refine F.okX sc_RackQ_initQ (fun vs H Q E h => len_rack h) (fun cdv A outer s H vs Q E hr h => ?_)
  have tk : Takes (cxOf (L2.CX P w) P w K mg base N_RackQ_initQ "Rack.__init__" (defScope s_RackQ_initQ) f cdv A outer s H E) (fun cls d _ H => E cls d H) := takes_of rfl rfl rfl rfl
  have po_ : PassesOwn (model P w) (cxOf (L2.CX P w) P w K mg base N_RackQ_initQ "Rack.__init__" (defScope s_RackQ_initQ) f cdv A outer s H E).A (cxOf (L2.CX P w) P w K mg base N_RackQ_initQ "Rack.__init__" (defScope s_RackQ_initQ) f cdv A outer s H E).env (cxOf (L2.CX P w) P w K mg base N_RackQ_initQ "Rack.__init__" (defScope s_RackQ_initQ) f cdv A outer s H E).xe := passes_of rfl
  refine ⟨_, (pss_cons (k_sfld (K := K) rfl (pv 0) (pe_op zo_mul (pe_lst (pa_cons pe_non pa_nil)) (pv 1)) rfl)
  (pss_cons (k_sfld (K := K) rfl (pv 0) (pe_op zo_mul (pe_lst (pa_cons pe_bl pa_nil)) (pv 1)) rfl)
  (pss_one (k_sfld (K := K) rfl (pv 0) (pe_op zo_mul (pe_lst (pa_cons pe_int pa_nil)) (pv 1)) rfl)))), ?_⟩
  obtain ⟨p, dx, n, F, rfl, hC, h0, h1, S, q⟩ := h
  refine s_start (σ := [some (.ref p), some (.int n)]) rfl ?_
  wtm_at "st"
  refine s_newL (by wtm_at "sz") S fun t1 H S => ?_
  wtm_at "st"
  refine s_mulL S (by wtm_at "pk") (by omega) (by omega) (Nat.le_trans (show 1 * n.toNat ≤ 60 by omega) (by decide)) fun l1 H S => ?_
  wtm_at "st"
  refine s_sfldR S (by wtm_at "cg") (R.cls _ hC) (R.n1 _ hC) (by wtm_at "sz") fun H S => ?_
  wtm_at "st"
  refine s_newL (by wtm_at "sz") S fun t2 H S => ?_
  wtm_at "st"
  refine s_mulL S (by wtm_at "pk") (by omega) (by omega) (Nat.le_trans (show 1 * n.toNat ≤ 60 by omega) (by decide)) fun l2 H S => ?_
  wtm_at "st"
  refine s_sfldR S (by wtm_at "cg") (R.cls _ hC) (R.n2 _ hC) (by wtm_at "sz") fun H S => ?_
  wtm_at "st"
  refine s_newL (by wtm_at "sz") S fun t3 H S => ?_
  wtm_at "st"
  refine s_mulL S (by wtm_at "pk") (by omega) (by omega) (Nat.le_trans (show 1 * n.toNat ≤ 60 by omega) (by decide)) fun l3 H S => ?_
  wtm_at "st"
  refine s_sfldR S (by wtm_at "cg") (R.cls _ hC) (R.n3 _ hC) (by wtm_at "sz") fun H S => ?_
  wtm_at "st"
  refine q l1 l2 l3 _ ?_
  have rep : ∀ (x : V), (List.replicate n.toNat [x]).flatten = List.replicate n.toNat x := fun x => by simp
  rw [rep, rep, rep, pf_nil, pf_tl (by decide +kernel) pf_nil, pf_tl (by decide +kernel) (pf_tl (by decide +kernel) pf_nil)] at S
  have e1 : (Rk.new n.toNat).brk.map V.bl = List.replicate n.toNat (.bl false) := by simp [Rk.new]
  have e2 : (Rk.new n.toNat).tak.map V.int = List.replicate n.toNat (.int 0) := by simp [Rk.new]
  show Sep (pt p (.ins C dx [("held_by", .ref l1), ("broken", .ref l2), ("taken", .ref l3)]) :: pt l1 (.lst (List.replicate n.toNat .non)) :: pt l2 (.lst ((Rk.new n.toNat).brk.map V.bl)) :: pt l3 (.lst ((Rk.new n.toNat).tak.map V.int)) :: F) _
  rw [e1, e2]
  wtm_at "wk"

end
end L2.Zs
namespace L2.Zs
open PySem PySem.Spec PyProof.Rows
local macro_rules | `(tactic| wtm_at "pk") => `(tactic| (repeat (first | with_reducible exact Pick.here | with_reducible apply Pick.there)))
local macro_rules | `(tactic| wtm_at "cg") => `(tactic| (repeat (first | with_reducible exact Chg.here | with_reducible apply Chg.there)))
local macro_rules | `(tactic| wtm_at "sa") => `(tactic| (repeat (first | with_reducible exact SetAt.here | with_reducible apply SetAt.there)))
local macro_rules | `(tactic| wtm_at "wk1") => `(tactic| (repeat (first | with_reducible exact Wk.refl | (with_reducible apply Wk.pick; focus (wtm_at "pk"; done)) | with_reducible apply Wk.drop)))
local macro_rules | `(tactic| wtm_at "wk") => `(tactic| (refine Wk.sep ?_ (by assumption); wtm_at "wk1"))
local macro_rules | `(tactic| wtm_at "sz") => `(tactic| first | exact Nat.le_of_ble_eq_true rfl | assumption | omega)
local macro_rules | `(tactic| wtm_at "s1") => `(tactic| first
  | refine Stp.go ?_
  | ((with_reducible show rMod _ _ _ _); (with_reducible refine s_mod (by first | decide | assumption | omega) ?_))
  | ((with_reducible show rMulZ _ _ _ _); (with_reducible refine s_mulI (by first | exact cmul_l (by decide) | exact cmul_r (by decide) | (exact cmul_l (by omega)) | (exact cmul_r (by omega))) ?_))
  | ((with_reducible show rDiv _ _ _ _); (with_reducible refine s_div (cdiv_of (by decide) (by decide)) ?_))
  | ((with_reducible show rPow _ _ _ _); (with_reducible refine s_pow (cpow_of (by decide) (by decide) (by decide)) ?_))
  | ((with_reducible show rLen _ _ _ _); (with_reducible refine s_lenL (by assumption) (by wtm_at "pk") ?_))
  | ((with_reducible show rLen _ _ _ _); (with_reducible refine s_lenQ (by assumption) (by wtm_at "pk") ?_))
  | ((with_reducible show rLen _ _ _ _); (with_reducible refine s_lenT (by assumption) (by wtm_at "pk") ?_))
  | ((with_reducible show tyV _ _ _ _ ∧ _); (with_reducible refine s_tyL (by assumption) (by wtm_at "pk") ?_)))
local macro_rules | `(tactic| wtm_at "st") => `(tactic| (repeat (first | wtm_at "s1" | with_reducible refine s_seq ?_)))
local macro_rules | `(tactic| wtm_at "stc") => `(tactic| (repeat wtm_at "s1"))

section
variable {P : Program} {w : World} {K : PySem.W.Frag} {mg : PySem.Str → Option Value} {base : Heap} {ad : Ad} {Cs : List Addr} {C : Addr} {f : Addr} {fd : FuncData}
set_option maxHeartbeats 2000000
theorem ok_Seekers_init (T : Txt K mg ad) (R : RT K Cs) (U : ST K Cs) (b_Rack : Bas P w K mg base 1 ad.Rack "__init__" (spRack Cs C)) (F : Fun K "__init__" "Seekers.__init__" s_SeekersQ_initQ f fd) : FnOk P w K mg base (L2.CX P w) 2 f fd ["self", "many", "places"] (spSkInit Cs C) := by
  refine F.okX sc_SeekersQ_initQ (fun vs H Q E h => len_skinit h) (fun cdv A outer s H vs Q E hr h => ?_)
  have tk : Takes (cxOf (L2.CX P w) P w K mg base N_SeekersQ_initQ "Seekers.__init__" (defScope s_SeekersQ_initQ) f cdv A outer s H E) (fun cls d _ H => E cls d H) := takes_of rfl rfl rfl rfl
  have po_ : PassesOwn (model P w) (cxOf (L2.CX P w) P w K mg base N_SeekersQ_initQ "Seekers.__init__" (defScope s_SeekersQ_initQ) f cdv A outer s H E).A (cxOf (L2.CX P w) P w K mg base N_SeekersQ_initQ "Seekers.__init__" (defScope s_SeekersQ_initQ) f cdv A outer s H E).env (cxOf (L2.CX P w) P w K mg base N_SeekersQ_initQ "Seekers.__init__" (defScope s_SeekersQ_initQ) f cdv A outer s H E).xe := passes_of rfl
  refine ⟨_, (pss_cons (ps_expr (z_base b_Rack tk hr (by decide) (z_cls (by rfl) T.g_Rack) (pa_cons (pv 0) (pa_cons (pv 1) pa_nil))))
  (pss_cons (k_sfld (K := K) rfl (pv 0) (pv 2) rfl)
  (pss_cons (k_sfld (K := K) rfl (pv 0) (pe_op zo_mul (pe_lst (pa_cons pe_int pa_nil)) (pv 1)) rfl)
  (pss_cons (k_sfld (K := K) rfl (pv 0) (pe_op zo_mul (pe_lst (pa_cons pe_int pa_nil)) (pv 1)) rfl)
  (pss_one (k_sfld (K := K) rfl (pv 0) pe_int rfl)))))), ?_⟩
  obtain ⟨p, dx, n, pl, F, rfl, hC, h0, h1, S, q⟩ := h
  have rep : ∀ (x : V), (List.replicate n.toNat [x]).flatten = List.replicate n.toNat x := fun x => by simp
  refine s_start (σ := [some (.ref p), some (.int n), some (.int pl)]) rfl ?_
  wtm_at "st"
  refine ⟨p, dx, n, _, rfl, hC, by omega, h1, S, fun l1 l2 l3 H S => ?_⟩
  wtm_at "st"
  refine s_sfldR S (by wtm_at "cg") (U.cls _ hC) (U.n1 _ hC) (by show 3 < 1000; decide) fun H S => ?_
  rw [rkF_put (by decide +kernel) (by decide +kernel) (by decide +kernel) pf_nil] at S
  wtm_at "st"
  refine s_newL (by wtm_at "sz") S fun t1 H S => ?_
  wtm_at "st"
  refine s_mulL S (by wtm_at "pk") (by omega) (by omega) (Nat.le_trans (show 1 * n.toNat ≤ 60 by omega) (by decide)) fun l4 H S => ?_
  wtm_at "st"
  refine s_sfldR S (by wtm_at "cg") (U.cls _ hC) (U.n2 _ hC) (by show 4 < 1000; decide) fun H S => ?_
  rw [rkF_put (by decide +kernel) (by decide +kernel) (by decide +kernel) (pf_tl (by decide +kernel) pf_nil)] at S
  wtm_at "st"
  refine s_newL (by wtm_at "sz") S fun t2 H S => ?_
  wtm_at "st"
  refine s_mulL S (by wtm_at "pk") (by omega) (by omega) (Nat.le_trans (show 1 * n.toNat ≤ 60 by omega) (by decide)) fun l5 H S => ?_
  wtm_at "st"
  refine s_sfldR S (by wtm_at "cg") (U.cls _ hC) (U.n3 _ hC) (by show 5 < 1000; decide) fun H S => ?_
  rw [rkF_put (by decide +kernel) (by decide +kernel) (by decide +kernel) (pf_tl (by decide +kernel) (pf_tl (by decide +kernel) pf_nil))] at S
  wtm_at "st"
  refine s_sfldR S (by wtm_at "cg") (U.cls _ hC) (U.n4 _ hC) (by show 6 < 1000; decide) fun H S => ?_
  rw [rkF_put (by decide +kernel) (by decide +kernel) (by decide +kernel) (pf_tl (by decide +kernel) (pf_tl (by decide +kernel) (pf_tl (by decide +kernel) pf_nil)))] at S
  wtm_at "st"
  refine q l1 l2 l3 l4 l5 _ ?_
  rw [rep] at S
  have e1 : (Sk.new n.toNat pl).sp.map V.int = List.replicate n.toNat (.int 0) := by simp [Sk.new]
  have e2 : (Sk.new n.toNat pl).gn.map V.int = List.replicate n.toNat (.int 0) := by simp [Sk.new]
  show Sep (rkC ⟨C, dx, p, l1, l2, l3, [("places", .int pl), ("spots", .ref l4), ("gone", .ref l5), ("next_one", .int 0)]⟩ (Rk.new n.toNat) (pt l4 (.lst ((Sk.new n.toNat pl).sp.map V.int)) :: pt l5 (.lst ((Sk.new n.toNat pl).gn.map V.int)) :: F)) _
  rw [e1, e2]
  wtm_at "wk"
theorem ok_Seekers_take (T : Txt K mg ad) (R : RT K Cs) (U : ST K Cs) (m_Rack_is_ready : ∀ C ∈ Cs, Met P w K mg base 1 C "is_ready" (spReady Cs C)) (m_Rack_given : ∀ C ∈ Cs, Met P w K mg base 1 C "given" (spGiven Cs C)) (F : Fun K "take" "Seekers.take" s_Seekers_take f fd) : FnOk P w K mg base (L2.CX P w) 2 f fd ["self", "place"] (spSkTake Cs C) := by
  refine F.okX sc_Seekers_take (fun vs H Q E h => len_sktake h) (fun cdv A outer s H vs Q E hr h => ?_)
  have tk : Takes (cxOf (L2.CX P w) P w K mg base N_Seekers_take "Seekers.take" (defScope s_Seekers_take) f cdv A outer s H E) (fun cls d _ H => E cls d H) := takes_of rfl rfl rfl rfl
  have po_ : PassesOwn (model P w) (cxOf (L2.CX P w) P w K mg base N_Seekers_take "Seekers.take" (defScope s_Seekers_take) f cdv A outer s H E).A (cxOf (L2.CX P w) P w K mg base N_Seekers_take "Seekers.take" (defScope s_Seekers_take) f cdv A outer s H E).env (cxOf (L2.CX P w) P w K mg base N_Seekers_take "Seekers.take" (defScope s_Seekers_take) f cdv A outer s H E).xe := passes_of rfl
  refine ⟨_, (pss_cons (ps_set (i := 2) sc_Seekers_take.nd rfl (Or.inl rfl) (pe_callB (k_len (K := K) rfl) (by rfl) T.b_len (by decide +kernel) (pa_cons (k_fld (K := K) rfl (pv 0) rfl) pa_nil)))
  (pss_cons (ps_for (po_) rfl (pi_range1 (by rfl) T.b_range (pa_cons (pv 2) pa_nil)) (pg_name (i := 3) sc_Seekers_take.nd rfl (Or.inl rfl)) (pss_cons (ps_set (i := 4) sc_Seekers_take.nd rfl (Or.inl rfl) (pe_op zo_mod (pe_op zo_add (k_fld (K := K) rfl (pv 0) rfl) (pv 3)) (pv 2)))
  (pss_one (ps_if (pt_val (z_meth (pv 0) m_Rack_is_ready tk hr (by decide) (pa_cons (pv 4) pa_nil))) (pss_cons (ps_set (i := 5) sc_Seekers_take.nd rfl (Or.inl rfl) (pe_op zo_mod (pe_op zo_sub (pv 1) (pe_ix (k_ix (K := K) rfl) (k_fld (K := K) rfl (pv 0) rfl) (pv 4) (fun _ _ => rfl))) (k_fld (K := K) rfl (pv 0) rfl)))
  (pss_cons (ps_asg (pv 1) (pg_sub (k_fld (K := K) rfl (pv 0) rfl) (pv 4) set_list))
  (pss_cons (ps_augS (k_fld (K := K) rfl (pv 0) rfl) (pv 4) (k_get (K := K) rfl) (pv 5) ip_add set_list)
  (pss_cons (k_sfld (K := K) rfl (pv 0) (pe_op zo_mod (pe_op zo_add (pv 4) pe_int) (pv 2)) rfl)
  (pss_cons (ps_expr (z_meth (pv 0) m_Rack_given tk hr (by decide) (pa_cons (pv 4) (pa_cons (pv 1) pa_nil))))
  (pss_one (ps_ret (pe_tup (pa_cons (pv 4) (pa_cons (pv 5) pa_nil)))))))))) pss_nil))))
  (pss_one (ps_ret pe_non)))), ?_⟩
  obtain ⟨B, s, pc, F, rfl, hC, ok, S, h1, h2⟩ := h
  have g : (skL B s).good Cs := skL_good hC
  refine s_start (σ := [some (.ref B.p), some (.int pc), none, none, none, none]) rfl ?_
  wtm_at "st"
  refine s_held R g S (by wtm_at "pk") ?_
  wtm_at "st"
  have hn := ok.r.n
  have hp := ok.p
  have hx := ok.x
  refine s_rng1 (by omega) (by omega) (lp_range (fun i σ H' => ∃ v3 v4, σ = [some (.ref B.p), some (.int pc), some (.int s.r.held.length), v3, v4, none] ∧ (∀ j, j < i → s.r.rdy ((s.nx + j) % s.r.held.length) = false) ∧ Sep (skC B s F) H') ⟨none, none, rfl, (fun j hj => absurd hj (Nat.not_lt_zero j)), S⟩ ?_ ?_)
  · rintro i σ H hi ⟨v3, v4, rfl, hno, S⟩
    have hi' : i < s.r.held.length := by omega
    wtm_at "st"
    refine s_nx U hC S (by wtm_at "pk") ?_
    wtm_at "st"
    have ek : ((s.nx : Int) + (i : Int)) % (s.r.held.length : Int) = (((s.nx + i) % s.r.held.length : Nat) : Int) := by simp
    rw [ek]
    have hk : (s.nx + i) % s.r.held.length < s.r.held.length := Nat.mod_lt _ (by omega)
    generalize hkk : (s.nx + i) % s.r.held.length = kk at hk ⊢
    refine s_rm g S (by decide +kernel) (by wtm_at "pk") ?_
    wtm_at "st"
    refine ⟨skL B s, s.r, kk, _, rfl, g, ok.r, S, by omega, by omega, ?_⟩
    rw [Int.toNat_natCast]
    wtm_at "st"
    refine s_ite (fun c1 => ?_) (fun c1 => ?_)
    · have hfirst : s.first = some kk := by
        unfold Sk.first Sk.ord
        rw [List.find?_map]
        have e : (List.range s.r.held.length).find? (s.r.rdy ∘ fun far => (s.nx + far) % s.r.held.length) = some i := by
          rw [List.find?_range_eq_some]
          exact ⟨by show s.r.rdy ((s.nx + i) % s.r.held.length) = true; rw [hkk]; exact c1, List.mem_range.mpr hi', fun j hj => by show (!s.r.rdy ((s.nx + j) % s.r.held.length)) = true; simp [hno j hj]⟩
        rw [e]
        show some ((s.nx + i) % s.r.held.length) = some kk
        rw [hkk]
      wtm_at "st"
      refine s_sp U hC S (by wtm_at "pk") ?_
      wtm_at "st"
      obtain ⟨z, hz, e2, e3⟩ := atI_int (ns := s.sp) (i := kk) (by omega) (by rw [ok.q]; omega)
      refine s_ixL S (by wtm_at "pk") e2 ?_
      wtm_at "st"
      refine s_pl U hC S (by wtm_at "pk") ?_
      wtm_at "st"
      refine s_sp U hC S (by wtm_at "pk") ?_
      wtm_at "st"
      refine s_stL S (n := kk) (by wtm_at "cg") (ixN_of (by omega) (by rw [List.length_map, ok.q]; omega)) fun H S => ?_
      wtm_at "st"
      refine s_gn U hC S (by wtm_at "pk") ?_
      wtm_at "st"
      obtain ⟨y, hy, e4, e5⟩ := atI_int (ns := s.gn) (i := kk) (by omega) (by rw [ok.g]; omega)
      refine s_ixG S (by wtm_at "pk") e4 ?_
      wtm_at "st"
      refine s_stL S (n := kk) (by wtm_at "cg") (ixN_of (by omega) (by rw [List.length_map, ok.g]; omega)) fun H S => ?_
      wtm_at "st"
      refine s_nxS U hC S (by wtm_at "cg") fun H S => ?_
      wtm_at "st"
      have g2 : RL.good ⟨B.C, B.dx, B.p, B.l1, B.l2, B.l3, [("places", .int s.pl), ("spots", .ref B.l4), ("gone", .ref B.l5), ("next_one", .int (((kk : Int) + 1) % s.r.held.length))]⟩ Cs := ⟨hC, sk_nm⟩
      refine s_rm g2 S (by decide +kernel) (by wtm_at "pk") ?_
      wtm_at "st"
      refine ⟨_, s.r, kk, .int pc, _, rfl, g2, ok.r, (by wtm_at "wk"), by omega, by omega, fun H S => ?_⟩
      wtm_at "st"
      refine s_newT (by wtm_at "sz") S fun t H S => ?_
      have ez : s.sp.getD kk 0 = z := by rw [List.getD_eq_getElem?_getD, show s.sp[kk]? = some z from e3]; rfl
      have ey : s.gn.getD kk 0 = y := by rw [List.getD_eq_getElem?_getD, show s.gn[kk]? = some y from e5]; rfl
      have ew : s.way kk pc = (pc - z) % s.pl := by unfold Sk.way; rw [ez]
      have en : (((kk : Int) + 1) % (s.r.held.length : Int)) = (((kk + 1) % s.r.held.length : Nat) : Int) := by simp
      have es : (s.sp.map V.int).set kk (.int pc) = (s.took kk pc).sp.map V.int := by unfold Sk.took; rw [List.map_set]
      have eg : (s.gn.map V.int).set kk (.int (y + (pc - z) % s.pl)) = (s.took kk pc).gn.map V.int := by unfold Sk.took; rw [ey, ew, List.map_set]
      rw [es, eg, en, Int.toNat_natCast] at S
      refine h2 kk hfirst hk t H ?_
      rw [ew]
      show Sep (pt t (.tup [.int kk, .int ((pc - z) % s.pl)]) :: rkC ⟨B.C, B.dx, B.p, B.l1, B.l2, B.l3, [("places", .int s.pl), ("spots", .ref B.l4), ("gone", .ref B.l5), ("next_one", .int (((kk + 1) % s.r.held.length : Nat) : Int))]⟩ (s.r.give kk (.int pc)) (pt B.l4 (.lst ((s.took kk pc).sp.map V.int)) :: pt B.l5 (.lst ((s.took kk pc).gn.map V.int)) :: F)) H
      wtm_at "wk"
    · wtm_at "st"
      refine ⟨_, _, rfl, fun j hj => ?_, S⟩
      by_cases e : j = i
      · subst e; rw [hkk]; exact c1
      · exact hno j (by omega)
  · rintro σ H ⟨v3, v4, rfl, hno, S⟩
    wtm_at "st"
    refine h1 ?_ H S
    unfold Sk.first Sk.ord
    rw [List.find?_map, Option.map_eq_none_iff, List.find?_eq_none]
    intro j hj
    have := hno j (by have := List.mem_range.mp hj; omega)
    simp [this]
theorem ok_Seekers_holders (T : Txt K mg ad) (R : RT K Cs) (F : Fun K "holders" "Seekers.holders" s_Seekers_holders f fd) : FnOk P w K mg base (L2.CX P w) 1 f fd ["self"] (spHolders Cs C) := by
  refine F.okX sc_Seekers_holders (fun vs H Q E h => len_holders h) (fun cdv A outer s H vs Q E hr h => ?_)
  have tk : Takes (cxOf (L2.CX P w) P w K mg base N_Seekers_holders "Seekers.holders" (defScope s_Seekers_holders) f cdv A outer s H E) (fun cls d _ H => E cls d H) := takes_of rfl rfl rfl rfl
  have po_ : PassesOwn (model P w) (cxOf (L2.CX P w) P w K mg base N_Seekers_holders "Seekers.holders" (defScope s_Seekers_holders) f cdv A outer s H E).A (cxOf (L2.CX P w) P w K mg base N_Seekers_holders "Seekers.holders" (defScope s_Seekers_holders) f cdv A outer s H E).env (cxOf (L2.CX P w) P w K mg base N_Seekers_holders "Seekers.holders" (defScope s_Seekers_holders) f cdv A outer s H E).xe := passes_of rfl
  refine ⟨_, (pss_one (ps_ret (pe_callTy (k_listOf (K := K) rfl) (by rfl) T.b_list (by decide +kernel) (pa_cons (k_fld (K := K) rfl (pv 0) rfl) pa_nil)))), ?_⟩
  obtain ⟨L, r, F, rfl, g, S, q⟩ := h
  refine s_start (σ := [some (.ref L.p)]) rfl ?_
  wtm_at "st"
  refine s_held R g S (by wtm_at "pk") ?_
  wtm_at "st"
  exact s_listL S (by wtm_at "pk") fun l H S => q _ _ S
theorem ok_Seekers_stuck (T : Txt K mg ad) (R : RT K Cs) (F : Fun K "stuck" "Seekers.stuck" s_Seekers_stuck f fd) : FnOk P w K mg base (L2.CX P w) 1 f fd ["self"] (spJam Cs C) := by
  refine F.okX sc_Seekers_stuck (fun vs H Q E h => len_jam h) (fun cdv A outer s H vs Q E hr h => ?_)
  have tk : Takes (cxOf (L2.CX P w) P w K mg base N_Seekers_stuck "Seekers.stuck" (defScope s_Seekers_stuck) f cdv A outer s H E) (fun cls d _ H => E cls d H) := takes_of rfl rfl rfl rfl
  have po_ : PassesOwn (model P w) (cxOf (L2.CX P w) P w K mg base N_Seekers_stuck "Seekers.stuck" (defScope s_Seekers_stuck) f cdv A outer s H E).A (cxOf (L2.CX P w) P w K mg base N_Seekers_stuck "Seekers.stuck" (defScope s_Seekers_stuck) f cdv A outer s H E).env (cxOf (L2.CX P w) P w K mg base N_Seekers_stuck "Seekers.stuck" (defScope s_Seekers_stuck) f cdv A outer s H E).xe := passes_of rfl
  refine ⟨_, (pss_one (ps_ret (pe_lc (own := [("k", 1)]) (g := gName 1)  rfl sc_Seekers_stuck.nd (pi_range1 (by rfl) T.b_range (pa_cons (pe_callB (k_len (K := K) rfl) (by rfl) T.b_len (by decide +kernel) (pa_cons (k_fld (K := K) rfl (pv 0) rfl) pa_nil)) pa_nil)) (blkOk_by (N := N_Seekers_stuck) (sc := defScope s_Seekers_stuck) (by decide +kernel)) (fun _ _ _ _ _ => (pg_name (i := 1) sc_Seekers_stuck.nd rfl (Or.inl rfl))) (fun _ _ _ _ _ => (pts_one (pt_val (pe_ix (k_ix (K := K) rfl) (k_fld (K := K) rfl (pv 0) rfl) (pv 1) (fun _ _ => rfl))))) (fun _ _ _ _ _ => (pv 1))))), ?_⟩
  obtain ⟨L, r, F, rfl, g, ok, S, q⟩ := h
  refine s_start (σ := [some (.ref L.p), none]) rfl ?_
  wtm_at "st"
  refine s_brk R g S (by wtm_at "pk") ?_
  wtm_at "st"
  have hn := ok.n
  have hb := ok.b
  rw [List.length_map]
  refine ⟨_, rfl, by omega, by omega, ?_⟩
  have jl : ∀ i, i ≤ r.held.length → (((List.range i).filter fun k => r.brk.getD k false).map fun k => V.int (k : Nat)).length < sizeLine := fun i hi => by
    rw [List.length_map]
    exact Nat.lt_of_le_of_lt (Nat.le_trans (List.length_filter_le _ _) (by rw [List.length_range]; omega)) (show 60 < sizeLine by decide)
  refine s_lcR S (fun D i H' => Sep (pt D (.lst (((List.range i).filter fun k => r.brk.getD k false).map fun k => V.int (k : Nat))) :: rkC L r F) H') (fun D H' S => by show Sep (pt D (.lst []) :: rkC L r F) H'; wtm_at "wk") ?_ ?_
  · intro D i H hi S
    have hi' : i < r.held.length := by omega
    dsimp only [List.map, wipe, List.set]
    wtm_at "st"
    refine ⟨rfl, ?_⟩
    rw [Int.zero_add]
    wtm_at "st"
    refine s_brk R g S (by wtm_at "pk") ?_
    wtm_at "st"
    have e3 : r.brk[i]? = some (r.brk.getD i false) := by
      rw [List.getD_eq_getElem?_getD, List.getElem?_eq_getElem (by omega)]; rfl
    refine s_ixL S (by wtm_at "pk") (atI_of (v := .bl (r.brk.getD i false)) (by omega) (by rw [List.getElem?_map, Int.toNat_natCast, e3]; rfl)) ?_
    wtm_at "st"
    refine s_ite (fun c => ?_) (fun c => ?_)
    · wtm_at "st"
      refine s_lcput S (by wtm_at "cg") (jl i (by omega)) fun H S => ?_
      rw [List.range_succ, List.filter_append, List.filter_cons_of_pos (by exact c), List.map_append]
      exact S
    · rw [List.range_succ, List.filter_append, List.filter_cons_of_neg (by rw [c]; decide)]
      simpa using S
  · intro D H S
    rw [Int.toNat_natCast, hb] at S
    refine q D H ?_
    have e : r.jam.map V.int = ((List.range r.held.length).filter fun k => r.brk.getD k false).map fun k => V.int (k : Nat) := by unfold Rk.jam; rw [List.map_map]; rfl
    rw [e]
    exact S
theorem ok_Seekers_steps (T : Txt K mg ad) (U : ST K Cs) (F : Fun K "steps" "Seekers.steps" s_Seekers_steps f fd) : FnOk P w K mg base (L2.CX P w) 1 f fd ["self"] (spSteps Cs C) := by
  refine F.okX sc_Seekers_steps (fun vs H Q E h => len_steps h) (fun cdv A outer s H vs Q E hr h => ?_)
  have tk : Takes (cxOf (L2.CX P w) P w K mg base N_Seekers_steps "Seekers.steps" (defScope s_Seekers_steps) f cdv A outer s H E) (fun cls d _ H => E cls d H) := takes_of rfl rfl rfl rfl
  have po_ : PassesOwn (model P w) (cxOf (L2.CX P w) P w K mg base N_Seekers_steps "Seekers.steps" (defScope s_Seekers_steps) f cdv A outer s H E).A (cxOf (L2.CX P w) P w K mg base N_Seekers_steps "Seekers.steps" (defScope s_Seekers_steps) f cdv A outer s H E).env (cxOf (L2.CX P w) P w K mg base N_Seekers_steps "Seekers.steps" (defScope s_Seekers_steps) f cdv A outer s H E).xe := passes_of rfl
  refine ⟨_, (pss_one (ps_ret (pe_callTy (k_listOf (K := K) rfl) (by rfl) T.b_list (by decide +kernel) (pa_cons (k_fld (K := K) rfl (pv 0) rfl) pa_nil)))), ?_⟩
  obtain ⟨B, s, F, rfl, hC, S, q⟩ := h
  refine s_start (σ := [some (.ref B.p)]) rfl ?_
  wtm_at "st"
  refine s_gn U hC S (by wtm_at "pk") ?_
  wtm_at "st"
  exact s_listL S (by wtm_at "pk") fun l H S => q _ _ S

end
end L2.Zs
namespace L2.Zs
open PySem PySem.Spec PyProof.Rows
local macro_rules | `(tactic| wtm_at "pk") => `(tactic| (repeat (first | with_reducible exact Pick.here | with_reducible apply Pick.there)))
local macro_rules | `(tactic| wtm_at "cg") => `(tactic| (repeat (first | with_reducible exact Chg.here | with_reducible apply Chg.there)))
local macro_rules | `(tactic| wtm_at "sa") => `(tactic| (repeat (first | with_reducible exact SetAt.here | with_reducible apply SetAt.there)))
local macro_rules | `(tactic| wtm_at "wk1") => `(tactic| (repeat (first | with_reducible exact Wk.refl | (with_reducible apply Wk.pick; focus (wtm_at "pk"; done)) | with_reducible apply Wk.drop)))
local macro_rules | `(tactic| wtm_at "wk") => `(tactic| (refine Wk.sep ?_ (by assumption); wtm_at "wk1"))
local macro_rules | `(tactic| wtm_at "sz") => `(tactic| first | exact Nat.le_of_ble_eq_true rfl | assumption | omega)
local macro_rules | `(tactic| wtm_at "s1") => `(tactic| first
  | refine Stp.go ?_
  | ((with_reducible show rMod _ _ _ _); (with_reducible refine s_mod (by first | decide | assumption | omega) ?_))
  | ((with_reducible show rMulZ _ _ _ _); (with_reducible refine s_mulI (by first | exact cmul_l (by decide) | exact cmul_r (by decide) | (exact cmul_l (by omega)) | (exact cmul_r (by omega))) ?_))
  | ((with_reducible show rDiv _ _ _ _); (with_reducible refine s_div (cdiv_of (by decide) (by decide)) ?_))
  | ((with_reducible show rPow _ _ _ _); (with_reducible refine s_pow (cpow_of (by decide) (by decide) (by decide)) ?_))
  | ((with_reducible show rLen _ _ _ _); (with_reducible refine s_lenL (by assumption) (by wtm_at "pk") ?_))
  | ((with_reducible show rLen _ _ _ _); (with_reducible refine s_lenQ (by assumption) (by wtm_at "pk") ?_))
  | ((with_reducible show rLen _ _ _ _); (with_reducible refine s_lenT (by assumption) (by wtm_at "pk") ?_))
  | ((with_reducible show tyV _ _ _ _ ∧ _); (with_reducible refine s_tyL (by assumption) (by wtm_at "pk") ?_)))
local macro_rules | `(tactic| wtm_at "st") => `(tactic| (repeat (first | wtm_at "s1" | with_reducible refine s_seq ?_)))
local macro_rules | `(tactic| wtm_at "stc") => `(tactic| (repeat wtm_at "s1"))

section
variable {P : Program} {w : World} {K : PySem.W.Frag} {mg : PySem.Str → Option Value} {base : Heap} {ad : Ad} {Cs : List Addr} {C : Addr} {f : Addr} {fd : FuncData}
set_option maxHeartbeats 2000000
theorem ok_Lfair (T : Txt K mg ad) (F : Fun K "_law_fair" "_law_fair" s_Lfair f fd) : FnOk P w K mg base (L2.CX P w) 1 f fd ["gone", "k", "many"] spFair := by
  refine F.okX sc_Lfair (fun vs H Q E h => len_fair h) (fun cdv A outer s H vs Q E hr h => ?_)
  have tk : Takes (cxOf (L2.CX P w) P w K mg base N_Lfair "_law_fair" (defScope s_Lfair) f cdv A outer s H E) (fun cls d _ H => E cls d H) := takes_of rfl rfl rfl rfl
  have po_ : PassesOwn (model P w) (cxOf (L2.CX P w) P w K mg base N_Lfair "_law_fair" (defScope s_Lfair) f cdv A outer s H E).A (cxOf (L2.CX P w) P w K mg base N_Lfair "_law_fair" (defScope s_Lfair) f cdv A outer s H E).env (cxOf (L2.CX P w) P w K mg base N_Lfair "_law_fair" (defScope s_Lfair) f cdv A outer s H E).xe := passes_of rfl
  refine ⟨_, (pss_cons (ps_set (i := 3) sc_Lfair.nd rfl (Or.inl rfl) (pe_lst pa_nil))
  (pss_cons (ps_for (po_) rfl (k_list (K := K) rfl (k_revL (K := K) rfl (pv 0))) (k_gtup (K := K) (n := 2) rfl rfl (pgs_cons (pg_name (i := 4) sc_Lfair.nd rfl (Or.inl rfl)) (pgs_cons (pg_name (i := 5) sc_Lfair.nd rfl (Or.inl rfl)) pgs_nil))) (pss_cons (ps_if ((pw_and (pt_cmpR (k_eq (K := K) rfl hr.units) (pv 4) (pv 1) (nomark _)) (pw_and1 (pt_cmpR (k_ne (K := K) rfl hr.units) (pv 3) (pe_lst pa_nil) (nomark _))))).pt (pss_one (ps_ret (pe_cmpR (k_eq (K := K) rfl hr.units) (pe_callB (k_sortedV (w := w) rfl rfl) (by rfl) T.b_sorted (by decide +kernel) (pa_cons (pe_callTy (k_setI (K := K) (w := w) rfl rfl rfl) (by rfl) T.b_set (by decide +kernel) (pa_cons (pv 3) pa_nil)) pa_nil)) (pe_listRg rfl (by rfl) T.b_list (prg_1 (by rfl) T.b_range (pv 2))) (nomark _)))) pss_nil)
  (pss_one (ps_set (i := 3) sc_Lfair.nd rfl (Or.inl rfl) (pe_op zo_add (pe_op zo_add (pv 3) (pv 5)) (pe_lst (pa_cons (pv 4) pa_nil)))))))
  (pss_one (ps_ret pe_bl)))), ?_⟩
  obtain ⟨gp, ts, es, k, n, m, F, rfl, g, kl, n12, e120, S, q⟩ := h
  refine s_start (σ := [some (.ref gp), some (.int (k : Nat)), some (.int (n : Nat)), none, none, none]) rfl ?_
  wtm_at "st"
  refine s_newL (by wtm_at "sz") S fun pp H S => ?_
  have S : Sep (pt pp (.lst ((psOf (es.reverse.take 0)).map V.int)) :: _) H := S
  wtm_at "st"
  refine ⟨gp, _, rfl, SqL.of (S.get (by wtm_at "pk")), fun rp hp => ?_⟩
  have S := S.new (o := .lst (ts.map rf).reverse) hp
  refine s_list S (by wtm_at "pk") ?_
  refine lp_list (xs := (ts.map rf).reverse) (fun i σ H => ∃ (pp : Addr) (v4 v5 : Option V), σ = [some (.ref gp), some (.int (k : Nat)), some (.int (n : Nat)), some (.ref pp), v4, v5] ∧
    Sep (pt rp (.lst (ts.map rf).reverse) :: pt pp (.lst ((psOf (es.reverse.take i)).map V.int)) :: pt gp (.lst (ts.map rf)) :: goE ts es :: F) H)
    ⟨pp, _, _, rfl, by wtm_at "wk"⟩ (fun _ _ _ _ ⟨_, _, _, _, S⟩ => SqL.of (S.get (by wtm_at "pk"))) ?_ ?_
  · clear S
    rintro i x σ H hx ⟨pp, v4, v5, rfl, S⟩
    have gg := goE_rev (S.goGet (ts := ts) (es := es) (by wtm_at "pk"))
    rw [← List.map_reverse, List.getElem?_map] at hx
    obtain ⟨t, ht, rfl⟩ := Option.map_eq_some_iff.mp hx
    obtain ⟨e, he⟩ := goE_at gg ht
    obtain ⟨h1, h2⟩ := gg.2 i t e ht he
    have em : e ∈ es := List.mem_reverse.mp (List.mem_of_getElem? he)
    obtain ⟨r1, r2, r3⟩ := g.ra e em
    have hi : i < es.length := by
      have := (List.getElem?_eq_some_iff.mp he).1
      rwa [List.length_reverse] at this
    have pl : (psOf (es.reverse.take i)).length ≤ 13 * 120 := by
      refine Nat.le_trans (psOf_len (n := n) fun e he => (g.ra e (List.mem_reverse.mp (List.mem_of_mem_take he))).2.1) ?_
      rw [List.length_take, List.length_reverse]
      exact Nat.mul_le_mul (by omega) (by omega)
    have et : es.reverse.take (i + 1) = es.reverse.take i ++ [e] := by rw [List.take_succ, he]; rfl
    refine s_gtupT h1 rfl ?_
    wtm_at "stc"
    with_reducible refine s_cut (fun σ H => σ = [some (.ref gp), some (.int (k : Nat)), some (.int (n : Nat)), some (.ref pp), some (.int (e.1 : Nat)), some (.ref t.2)] ∧ Sep (pt rp (.lst (ts.map rf).reverse) :: pt pp (.lst ((psOf (es.reverse.take i)).map V.int)) :: pt gp (.lst (ts.map rf)) :: goE ts es :: F) H) ?_ (fun N go => ?_)
    rotate_left
    · wtm_at "st"
      refine s_ifd (fun c => ?_) (fun c => ?_)
      · wtm_at "st"
        refine s_newL (by wtm_at "sz") S fun np H S => ?_
        refine s_neNil S (a := pp) (by wtm_at "pk") (by wtm_at "pk") (okIz _) ?_
        wtm_at "st"
        refine s_ifn (fun c2 => ?_) (fun c2 => ?_)
        · wtm_at "st"
          refine s_setI S (a := pp) (by wtm_at "pk") (Nat.le_trans pl (by decide)) fun sp c H hc S => ?_
          have ra : ∀ j ∈ psOf (es.reverse.take i), 0 ≤ j ∧ j < (n : Nat) := fun j hj => by
            obtain ⟨e', he', hx⟩ := psOf_mem.mp hj
            obtain ⟨q1, _, q2⟩ := g.ra e' (List.mem_reverse.mp (List.mem_of_mem_take he'))
            rcases hx with rfl | hx
            · omega
            · exact q2 j hx
          have c12 := hc n ra
          wtm_at "st"
          refine s_sortedV S (by wtm_at "pk") (by omega) fun ns qp H s1 s2 _ S => ?_
          wtm_at "st"
          refine ⟨RgOk.of_le (Int.le_refl 0) (by omega) (by decide) (by omega), fun lp hp => ?_⟩
          have S := S.new (o := .lst (rgV 0 (n : Nat))) hp
          rw [rgV_nat] at S ⊢
          have i0 : 0 < i := by
            rcases Nat.eq_zero_or_pos i with z | z
            · exfalso; apply c2; rw [z]; rfl
            · exact z
          have ek : e.1 = k := by omega
          have en : ns = upTo n := g.fair kl he ek i0 s1 fun x => by rw [s2 x, decide_eq_true_eq]
          have S : Sep (pt lp (.lst ((upTo n).map V.int)) :: _) _ := S
          rw [en] at S
          refine s_eqLL S (by wtm_at "pk") (by wtm_at "pk") (okIz _) ?_
          wtm_at "st"
          exact q _ (by wtm_at "wk")
        · wtm_at "st"
          exact go _ _ ⟨rfl, by wtm_at "wk"⟩
      · wtm_at "st"
        exact go _ _ ⟨rfl, by wtm_at "wk"⟩
    clear S gg h1 h2
    rintro σ H ⟨rfl, S⟩
    wtm_at "st"
    have gg := goE_rev (S.goGet (ts := ts) (es := es) (by wtm_at "pk"))
    refine s_addLH S (a := pp) (by wtm_at "pk") (gg.2 i t e ht he).2 (Nat.le_trans (show _ ≤ 2000 by rw [List.length_map, List.length_map]; omega) (by decide)) fun p2 H S => ?_
    wtm_at "st"
    refine s_newL (by wtm_at "sz") S fun l3 H S => ?_
    refine s_addL S (a := p2) (by wtm_at "pk") (by wtm_at "pk") (Nat.le_trans (show _ ≤ 2000 by rw [List.length_append, List.length_map, List.length_map]; show _ + _ + 1 ≤ 2000; omega) (by decide)) fun p4 H S => ?_
    wtm_at "st"
    refine ⟨p4, _, _, rfl, ?_⟩
    rw [et, psOf_snoc, List.map_append, List.map_append]
    show Sep (pt rp (.lst (ts.map rf).reverse) :: pt p4 (.lst ((psOf (es.reverse.take i)).map V.int ++ e.2.map V.int ++ [V.int (e.1 : Nat)])) :: pt gp (.lst (ts.map rf)) :: goE ts es :: F) H
    wtm_at "wk"
  clear S
  rintro σ H ⟨pp, v4, v5, rfl, S⟩
  wtm_at "st"
  exact q H (by wtm_at "wk")
end
end L2.Zs
namespace L2.Zs
open PySem PySem.Spec PyProof.Rows
/-! # law 06: what the law knows of the seekers (plain) -/
def awayL (s : Sk) : List Int := ((List.range s.r.held.length).filter fun k => !s.r.rdy k).map fun (k : Nat) => (k : Int)
theorem awayL_mem {s : Sk} {k : Nat} : ((k : Nat) : Int) ∈ awayL s ↔ k < s.r.held.length ∧ s.r.rdy k = false := by
  unfold awayL
  rw [List.mem_map]
  constructor
  · rintro ⟨i, hi, e⟩
    obtain rfl : i = k := by omega
    obtain ⟨h1, h2⟩ := List.mem_filter.mp hi
    exact ⟨List.mem_range.mp h1, by simpa using h2⟩
  · rintro ⟨h1, h2⟩
    exact ⟨k, List.mem_filter.mpr ⟨List.mem_range.mpr h1, by rw [h2]; rfl⟩, rfl⟩
theorem awayL_in {s : Sk} {x : Int} (h : x ∈ awayL s) : 0 ≤ x ∧ x < s.r.held.length := by
  unfold awayL at h
  obtain ⟨i, hi, rfl⟩ := List.mem_map.mp h
  have := List.mem_range.mp (List.mem_filter.mp hi).1
  omega
theorem awayL_len (s : Sk) : (awayL s).length ≤ s.r.held.length := by
  unfold awayL
  rw [List.length_map]
  exact Nat.le_trans (List.length_filter_le _ _) (by rw [List.length_range]; exact Nat.le_refl _)
theorem Sk.ord_at {s : Sk} {t : Nat} (h : t < s.r.held.length) : s.ord[t]? = some ((s.nx + t) % s.r.held.length) := by
  unfold Sk.ord
  rw [List.getElem?_map, List.getElem?_range h]; rfl
theorem first_at {s : Sk} {k : Nat} (h : s.first = some k) : s.r.rdy k = true ∧ ∃ t, t < s.r.held.length ∧ k = (s.nx + t) % s.r.held.length ∧ ∀ j < t, s.r.rdy ((s.nx + j) % s.r.held.length) = false := by
  unfold Sk.first at h
  obtain ⟨hk, as, bs, e, hn⟩ := List.find?_eq_some_iff_append.mp h
  have ol : s.ord.length = s.r.held.length := by unfold Sk.ord; rw [List.length_map, List.length_range]
  have tl : as.length < s.r.held.length := by
    rw [← ol, e, List.length_append, List.length_cons]; omega
  refine ⟨hk, as.length, tl, ?_, fun j hj => ?_⟩
  · have := Sk.ord_at (s := s) tl
    rw [e, List.getElem?_append_right (Nat.le_refl _), Nat.sub_self] at this
    exact Option.some.inj this
  · have := Sk.ord_at (s := s) (t := j) (by omega)
    rw [e, List.getElem?_append_left hj] at this
    have := hn _ (List.mem_of_getElem? this)
    simpa using this
theorem first_none {s : Sk} (ok : s.ok) (h : s.first = none) : awayL s = upTo s.r.held.length := by
  have hx := ok.x
  unfold awayL upTo
  rw [List.filter_eq_self.mpr fun k hk => ?_]
  have hk := List.mem_range.mp hk
  unfold Sk.first at h
  have : k ∈ s.ord := by
    rcases Nat.lt_or_ge k s.nx with c | c
    · have := Sk.ord_at (s := s) (t := k + s.r.held.length - s.nx) (by omega)
      rw [show s.nx + (k + s.r.held.length - s.nx) = k + s.r.held.length by omega, Nat.add_mod_right, Nat.mod_eq_of_lt hk] at this
      exact List.mem_of_getElem? this
    · have := Sk.ord_at (s := s) (t := k - s.nx) (by omega)
      rw [show s.nx + (k - s.nx) = k by omega, Nat.mod_eq_of_lt hk] at this
      exact List.mem_of_getElem? this
  have := List.find?_eq_none.mp h k this
  simpa using this
def cntOf (n : Nat) (es : List Ent) : List Int := (List.range n).map fun k => ((es.countP fun e => e.1 == k : Nat) : Int)
structure K6 (n : Nat) (pl : Int) (s : Sk) (es : List Ent) : Prop where
  ok : s.ok
  en : s.r.held.length = n
  ep : s.pl = pl
  txt : ∀ v ∈ s.r.held, okV v = true
  g : Gone n es s.nx
  tak : s.r.tak = cntOf n es
theorem K6.new {n : Nat} {pl : Int} (h0 : 0 < n) (h : n ≤ 60) (hp : 0 < pl) : K6 n pl (Sk.new n pl) [] where
  ok := Sk.new_ok h0 h hp
  en := by simp [Sk.new, Rk.new]
  ep := rfl
  txt := fun v hv => by
    have : v ∈ List.replicate n V.non := hv
    rw [List.eq_of_mem_replicate this]; rfl
  g := ⟨⟨0, h0, rfl⟩, fun e he => nomatch he⟩
  tak := by
    show List.replicate n (0 : Int) = _
    unfold cntOf
    refine List.ext_getElem? fun i => ?_
    rw [List.getElem?_map]
    rcases Nat.lt_or_ge i n with c | c
    · rw [List.getElem?_range c, List.getElem?_replicate, if_pos c]; rfl
    · rw [List.getElem?_eq_none (by rw [List.length_replicate]; exact c), List.getElem?_eq_none (by rw [List.length_range]; exact c)]; rfl
theorem K6.took {n : Nat} {pl place : Int} {s : Sk} {es : List Ent} (k6 : K6 n pl s es) {k : Nat} (h : s.first = some k) : K6 n pl (s.took k place) (es ++ [(k, awayL s)]) := by
  obtain ⟨rk, t, t1, t2, t3⟩ := first_at h
  have hx := k6.ok.x
  have kn : k < n := by rw [← k6.en, t2]; exact Nat.mod_lt _ (by omega)
  have el : (s.took k place).r.held.length = s.r.held.length := by show (s.r.held.set k _).length = _; rw [List.length_set]
  have tl : s.r.tak.length = s.r.held.length := k6.ok.r.t
  refine ⟨⟨⟨?_, ?_, ?_⟩, ?_, ?_, ?_, k6.ok.p⟩, el.trans k6.en, k6.ep, fun v hv => ?_, ⟨?_, fun e he => ?_⟩, ?_⟩
  · show s.r.brk.length = (s.r.held.set k _).length
    rw [List.length_set]; exact k6.ok.r.b
  · show (s.r.tak.set k _).length = (s.r.held.set k _).length
    rw [List.length_set, List.length_set]; exact k6.ok.r.t
  · rw [el]; exact k6.ok.r.n
  · show (s.sp.set k _).length = (s.r.held.set k _).length
    rw [List.length_set, List.length_set]; exact k6.ok.q
  · show (s.gn.set k _).length = (s.r.held.set k _).length
    rw [List.length_set, List.length_set]; exact k6.ok.g
  · show (k + 1) % s.r.held.length < (s.r.held.set k _).length
    rw [List.length_set]; exact Nat.mod_lt _ (by omega)
  · have hv : v ∈ s.r.held.set k (.int place) := hv
    rcases List.mem_or_eq_of_mem_set hv with hv | rfl
    · exact k6.txt v hv
    · rfl
  · obtain ⟨m0, hm0, ch⟩ := k6.g.ch
    refine ⟨m0, hm0, Chain.app.mpr ⟨s.nx, ch, t, by rw [← k6.en]; exact t1, by rw [← k6.en]; exact t2, fun j hj => ?_, ?_⟩⟩
    · rw [← k6.en]
      exact awayL_mem.mpr ⟨Nat.mod_lt _ (by omega), t3 j hj⟩
    · show (k + 1) % n = (k + 1) % s.r.held.length
      rw [k6.en]
  · rcases List.mem_append.mp he with he | he
    · exact k6.g.ra e he
    · rw [List.mem_singleton.mp he]
      exact ⟨kn, by rw [← k6.en]; exact awayL_len s, fun x hx => by rw [← k6.en]; exact awayL_in hx⟩
  · show s.r.tak.set k (s.r.tak.getD k 0 + 1) = cntOf n (es ++ [(k, awayL s)])
    have tk := k6.tak
    refine List.ext_getElem? fun i => ?_
    have ci : ∀ (es : List Ent) (i : Nat), i < n → (cntOf n es)[i]? = some ((es.countP fun e => e.1 == i : Nat) : Int) := fun es i hi => by
      unfold cntOf
      rw [List.getElem?_map, List.getElem?_range hi]; rfl
    rcases Nat.lt_or_ge i n with c | c
    · rw [ci _ i c, List.countP_append]
      by_cases e : k = i
      · subst e
        rw [List.getElem?_set_self (by rw [tl, k6.en]; exact kn), List.getD_eq_getElem?_getD, tk, ci _ k c]
        show some (((es.countP fun e => e.1 == k : Nat) : Int) + 1) = some (((es.countP fun e => e.1 == k) + ([((k, awayL s) : Ent)].countP fun e => e.1 == k) : Nat) : Int)
        rw [List.countP_cons_of_pos (by simp)]
        rfl
      · rw [List.getElem?_set_ne e, tk, ci _ i c]
        show some (((es.countP fun e => e.1 == i : Nat) : Int)) = some (((es.countP fun e => e.1 == i) + ([((k, awayL s) : Ent)].countP fun e => e.1 == i) : Nat) : Int)
        rw [List.countP_cons_of_neg (by simp [e])]
        rfl
    · rw [List.getElem?_eq_none (by rw [List.length_set, tl, k6.en]; exact c), List.getElem?_eq_none (by unfold cntOf; rw [List.length_map, List.length_range]; exact c)]
theorem K6.free {n : Nat} {pl : Int} {s : Sk} {es : List Ent} (k6 : K6 n pl s es) (k : Nat) : K6 n pl { s with r := s.r.free k } es := by
  have el : (s.r.free k).held.length = s.r.held.length := by show (s.r.held.set k _).length = _; rw [List.length_set]
  refine ⟨⟨⟨?_, ?_, ?_⟩, ?_, ?_, ?_, k6.ok.p⟩, el.trans k6.en, k6.ep, fun v hv => ?_, k6.g, k6.tak⟩
  · rw [el]; exact k6.ok.r.b
  · rw [el]; exact k6.ok.r.t
  · rw [el]; exact k6.ok.r.n
  · rw [el]; exact k6.ok.q
  · rw [el]; exact k6.ok.g
  · rw [el]; exact k6.ok.x
  · have hv : v ∈ s.r.held.set k .non := hv
    rcases List.mem_or_eq_of_mem_set hv with hv | rfl
    · exact k6.txt v hv
    · rfl
theorem K6.brkAt {n : Nat} {pl : Int} {s : Sk} {es : List Ent} (k6 : K6 n pl s es) (k : Nat) (b : Bool) : K6 n pl { s with r := s.r.brkAt k b } es := by
  refine ⟨⟨⟨?_, k6.ok.r.t, k6.ok.r.n⟩, k6.ok.q, k6.ok.g, k6.ok.x, k6.ok.p⟩, k6.en, k6.ep, k6.txt, k6.g, k6.tak⟩
  show (s.r.brk.set k b).length = s.r.held.length
  rw [List.length_set]; exact k6.ok.r.b
theorem jam_mem {s : Sk} {k : Nat} (hk : k < s.r.held.length) : ((k : Nat) : Int) ∈ s.r.jam ↔ s.r.brk.getD k false = true := by
  unfold Rk.jam
  rw [List.mem_map]
  constructor
  · rintro ⟨i, hi, e⟩
    obtain rfl : i = k := by omega
    exact (List.mem_filter.mp hi).2
  · intro h
    exact ⟨k, List.mem_filter.mpr ⟨List.mem_range.mpr hk, h⟩, rfl⟩
theorem rdy_iff {s : Sk} (ok : s.ok) {k : Nat} (hk : k < s.r.held.length) : s.r.rdy k = true ↔ s.r.held[k]? = some .non ∧ ((k : Nat) : Int) ∉ s.r.jam := by
  unfold Rk.rdy
  rw [Bool.and_eq_true, decide_eq_true_eq, jam_mem hk]
  have hb : k < s.r.brk.length := by rw [ok.r.b]; exact hk
  rw [List.getD_eq_getElem?_getD, List.getD_eq_getElem?_getD, List.getElem?_eq_getElem hb]
  show _ ∧ (!s.r.brk[k]) = true ↔ _ ∧ ¬ s.r.brk[k] = true
  cases s.r.brk[k] <;> simp
theorem way_in {s : Sk} (ok : s.ok) (k : Nat) (place : Int) : 0 ≤ s.way k place ∧ s.way k place < s.pl := ⟨Int.emod_nonneg _ (by have := ok.p; omega), Int.emod_lt_of_pos _ ok.p⟩
theorem spot_at {a p pl : Int} (h0 : 0 ≤ p) (h1 : p < pl) : (a + (p - a) % pl) % pl = p := by
  rw [Int.add_emod, Int.emod_emod_of_dvd _ (Int.dvd_refl _), ← Int.add_emod, show a + (p - a) = p by omega]
  exact Int.emod_eq_of_lt h0 h1
theorem rep_flat {α : Type} (n : Nat) (x : α) : (List.replicate n [x]).flatten = List.replicate n x := by simp
def awayK (s : Sk) (j : Nat) : List Int := ((List.range j).filter fun k => !s.r.rdy k).map fun (k : Nat) => (k : Int)
theorem awayK_pos {s : Sk} {j : Nat} (h : s.r.rdy j = false) : awayK s (j + 1) = awayK s j ++ [(j : Int)] := by
  unfold awayK
  rw [List.range_succ, List.filter_append, List.map_append, List.filter_cons_of_pos (by rw [h]; rfl)]; rfl
theorem awayK_neg {s : Sk} {j : Nat} (h : s.r.rdy j = true) : awayK s (j + 1) = awayK s j := by
  unfold awayK
  rw [List.range_succ, List.filter_append, List.map_append, List.filter_cons_of_neg (by rw [h]; decide)]
  show _ ++ [] = _
  rw [List.append_nil]
theorem awayK_len (s : Sk) (j : Nat) : (awayK s j).length ≤ j := by
  unfold awayK
  rw [List.length_map]
  exact Nat.le_trans (List.length_filter_le _ _) (by rw [List.length_range]; exact Nat.le_refl _)
end L2.Zs
namespace L2.Zs
open PySem PySem.Spec PyProof.Rows
local macro_rules | `(tactic| wtm_at "pk") => `(tactic| (repeat (first | with_reducible exact Pick.here | with_reducible apply Pick.there)))
local macro_rules | `(tactic| wtm_at "cg") => `(tactic| (repeat (first | with_reducible exact Chg.here | with_reducible apply Chg.there)))
local macro_rules | `(tactic| wtm_at "sa") => `(tactic| (repeat (first | with_reducible exact SetAt.here | with_reducible apply SetAt.there)))
local macro_rules | `(tactic| wtm_at "wk1") => `(tactic| (repeat (first | with_reducible exact Wk.refl | (with_reducible apply Wk.pick; focus (wtm_at "pk"; done)) | with_reducible apply Wk.drop)))
local macro_rules | `(tactic| wtm_at "wk") => `(tactic| (refine Wk.sep ?_ (by assumption); wtm_at "wk1"))
local macro_rules | `(tactic| wtm_at "sz") => `(tactic| first | exact Nat.le_of_ble_eq_true rfl | assumption | omega)
local macro_rules | `(tactic| wtm_at "s1") => `(tactic| first
  | refine Stp.go ?_
  | ((with_reducible show rMod _ _ _ _); (with_reducible refine s_mod (by first | decide | assumption | omega) ?_))
  | ((with_reducible show rMulZ _ _ _ _); (with_reducible refine s_mulI (by first | exact cmul_l (by decide) | exact cmul_r (by decide) | (exact cmul_l (by omega)) | (exact cmul_r (by omega))) ?_))
  | ((with_reducible show rDiv _ _ _ _); (with_reducible refine s_div (cdiv_of (by decide) (by decide)) ?_))
  | ((with_reducible show rPow _ _ _ _); (with_reducible refine s_pow (cpow_of (by decide) (by decide) (by decide)) ?_))
  | ((with_reducible show rLen _ _ _ _); (with_reducible refine s_lenL (by assumption) (by wtm_at "pk") ?_))
  | ((with_reducible show rLen _ _ _ _); (with_reducible refine s_lenQ (by assumption) (by wtm_at "pk") ?_))
  | ((with_reducible show rLen _ _ _ _); (with_reducible refine s_lenT (by assumption) (by wtm_at "pk") ?_))
  | ((with_reducible show tyV _ _ _ _ ∧ _); (with_reducible refine s_tyL (by assumption) (by wtm_at "pk") ?_)))
local macro_rules | `(tactic| wtm_at "st") => `(tactic| (repeat (first | wtm_at "s1" | with_reducible refine s_seq ?_)))
local macro_rules | `(tactic| wtm_at "stc") => `(tactic| (repeat wtm_at "s1"))

section
variable {P : Program} {w : World} {K : PySem.W.Frag} {mg : PySem.Str → Option Value} {base : Heap} {ad : Ad} {Cs : List Addr} {C : Addr} {f : Addr} {fd : FuncData}
set_option maxHeartbeats 2000000
theorem ok_law (T : Txt K mg ad) (R : RT K Cs) (c_Ldraws : Cal P w K mg base 2 "_law_draws" (spDraws K)) (c_Lfair : Cal P w K mg base 1 "_law_fair" spFair) (k_Seekers : Mak P w K mg base 2 "Seekers" ad.Seekers (spSkInit Cs ad.Seekers)) (hC0 : ad.Seekers ∈ Cs) (m_Seekers_holders : ∀ C ∈ Cs, Met P w K mg base 1 C "holders" (spHolders Cs C)) (m_Seekers_stuck : ∀ C ∈ Cs, Met P w K mg base 1 C "stuck" (spJam Cs C)) (m_Seekers_take : ∀ C ∈ Cs, Met P w K mg base 2 C "take" (spSkTake Cs C)) (m_Rack_free : ∀ C ∈ Cs, Met P w K mg base 2 C "free" (spFree Cs ad.NoSwitch C)) (m_Rack_mend : ∀ C ∈ Cs, Met P w K mg base 2 C "mend" (spStick Cs ad.NoSwitch false C)) (m_Rack_stick : ∀ C ∈ Cs, Met P w K mg base 2 C "stick" (spStick Cs ad.NoSwitch true C)) (m_Rack_shares : ∀ C ∈ Cs, Met P w K mg base 1 C "shares" (spShares Cs C)) (m_Seekers_steps : ∀ C ∈ Cs, Met P w K mg base 1 C "steps" (spSteps Cs C)) (F : Fun K "law" "law" s_law f fd) : FnOk P w K mg base (L2.CX P w) 4 f fd ["script"] (spLawK K) := by
  refine F.okX sc_law (fun vs H Q E h => len_law h) (fun cdv A outer s H vs Q E hr h => ?_)
  have tk : Takes (cxOf (L2.CX P w) P w K mg base N_law "law" (defScope s_law) f cdv A outer s H E) (fun cls d _ H => E cls d H) := takes_of rfl rfl rfl rfl
  have po_ : PassesOwn (model P w) (cxOf (L2.CX P w) P w K mg base N_law "law" (defScope s_law) f cdv A outer s H E).A (cxOf (L2.CX P w) P w K mg base N_law "law" (defScope s_law) f cdv A outer s H E).env (cxOf (L2.CX P w) P w K mg base N_law "law" (defScope s_law) f cdv A outer s H E).xe := passes_of rfl
  refine ⟨_, (pss_cons (ps_set (i := 1) sc_law.nd rfl (Or.inl rfl) (z_call c_Ldraws tk hr (by decide) (by rfl) (pa_cons (pv 0) (pa_cons pe_int (pa_cons pe_int (pa_cons pe_int pa_nil))))))
  (pss_cons (ps_set (i := 2) sc_law.nd rfl (Or.inl rfl) (pe_op zo_add pe_int (pe_op zo_mod (pe_ix (k_ix (K := K) rfl) (pv 1) pe_int (fun _ _ => rfl)) pe_int)))
  (pss_cons (ps_set (i := 3) sc_law.nd rfl (Or.inl rfl) (pe_ix (k_ix (K := K) rfl) (pe_lst (pa_cons (pe_op zo_add pe_int (pe_op zo_mod (pe_ix (k_ix (K := K) rfl) (pv 1) pe_int (fun _ _ => rfl)) pe_int)) (pa_cons pe_int pa_nil))) (pe_op zo_mod (pe_ix (k_ix (K := K) rfl) (pv 1) pe_int (fun _ _ => rfl)) pe_int) (fun _ _ => rfl)))
  (pss_cons (ps_set (i := 4) sc_law.nd rfl (Or.inr rfl) (z_make k_Seekers tk hr (by decide) (by rfl) (pa_cons (pv 2) (pa_cons (pv 3) pa_nil))))
  (pss_cons (ps_set (i := 5) sc_law.nd rfl (Or.inr rfl) (pe_lst pa_nil))
  (pss_cons (ps_set (i := 6) sc_law.nd rfl (Or.inl rfl) (pe_op zo_mul (pe_lst (pa_cons pe_int pa_nil)) (pv 2)))
  (pss_cons (ps_set (i := 7) sc_law.nd rfl (Or.inl rfl) (pe_op zo_mul (pe_lst (pa_cons pe_int pa_nil)) (pv 2)))
  (pss_cons (ps_for (po_) rfl (k_list (K := K) rfl (pe_op zo_add (z_call c_Ldraws tk hr (by decide) (by rfl) (pa_cons (pv 0) (pa_cons pe_int (pa_cons pe_int (pa_cons pe_int pa_nil))))) (z_call c_Ldraws tk hr (by decide) (by rfl) (pa_cons (pv 0) (pa_cons pe_int (pa_cons pe_int (pa_cons pe_int pa_nil))))))) (pg_name (i := 8) sc_law.nd rfl (Or.inl rfl)) (pss_cons (ps_set (i := 9) sc_law.nd rfl (Or.inr rfl) (z_meth0 (pv 4) m_Seekers_holders tk hr (by decide)))
  (pss_cons (ps_setLc (i := 11) (own := [("k", 10)]) (g := gName 10)  rfl sc_law.nd rfl rfl (sw_true rfl rfl rfl (by decide +kernel)) (pi_range1 (by rfl) T.b_range (pa_cons (pv 2) pa_nil)) (blkOk_by (N := N_law) (sc := defScope s_law) (by decide +kernel)) (fun _ _ _ _ _ => (pg_name (i := 10) sc_law.nd rfl (Or.inl rfl))) (fun _ _ _ _ _ => (pts_one ((pw_or (pt_cmpR zo_notN (pe_ix (k_ix (K := K) rfl) (pv 9) (pv 10) (fun _ _ => rfl)) pe_non (nomark _)) (pw_or1 (pt_cmpR (k_inQ (K := K) rfl) (pv 10) (z_meth0 (pv 4) m_Seekers_stuck takes0 hr (by decide)) (by with_unfolding_all rfl))))).pt)) (fun _ _ _ _ _ => (pv 10)))
  (pss_cons (ps_set (i := 12) sc_law.nd rfl (Or.inl rfl) (pe_op zo_mod (pe_op zo_div (pv 8) pe_int) (pv 3)))
  (pss_cons (ps_set (i := 10) sc_law.nd rfl (Or.inl rfl) (pe_op zo_mod (pe_op zo_div (pv 8) pe_int) (pv 2)))
  (pss_one (ps_if ((pw_and (pt_cmpR zo_lt (pe_op zo_mod (pv 8) pe_int) pe_int (nomark _)) (pw_and1 (pt_cmpR (k_notInQ (K := K) rfl) (pv 12) (pv 9) (by with_unfolding_all rfl))))).pt (pss_cons (ps_set (i := 13) sc_law.nd rfl (Or.inl rfl) (z_meth (pv 4) m_Seekers_take tk hr (by decide) (pa_cons (pv 12) pa_nil)))
  (pss_cons (ps_if ((pw_or ((pw_and (pt_cmpR zo_isN (pv 13) pe_non (nomark _)) (pw_and1 (pt_cmpR (k_ne (K := K) rfl hr.units) (pv 11) (pe_listRg rfl (by rfl) T.b_list (prg_1 (by rfl) T.b_range (pv 2))) (nomark _))))).pt (pw_or1 ((pw_and (pt_cmpR zo_notN (pv 13) pe_non (nomark _)) (pw_and1 (pt_cmpR (k_inQ (K := K) rfl) (pe_ix (k_ix (K := K) rfl) (pv 13) pe_int (fun _ _ => rfl)) (pv 11) (by with_unfolding_all rfl))))).pt))).pt (pss_one (ps_ret pe_bl)) pss_nil)
  (pss_one (ps_if (pt_cmpR zo_notN (pv 13) pe_non (nomark _)) (pss_cons (ps_set (i := 10) sc_law.nd rfl (Or.inl rfl) (pe_ix (k_ix (K := K) rfl) (pv 13) pe_int (fun _ _ => rfl)))
  (pss_cons (ps_expr (k_bm (K := K) rfl PySem.F.plainAttrs_list PySem.F.slot_list_append PySem.F.type_list_append z_append (pv 5) (pa_cons (pe_tup (pa_cons (pv 10) (pa_cons (pv 11) pa_nil))) pa_nil)))
  (pss_cons (ps_asg (pe_op zo_add (pe_ix (k_ix (K := K) rfl) (pv 7) (pv 10) (fun _ _ => rfl)) (pe_ix (k_ix (K := K) rfl) (pv 13) pe_int (fun _ _ => rfl))) (pg_sub (pv 7) (pv 10) set_list))
  (pss_cons (ps_asg (pe_op zo_mod (pe_op zo_add (pe_ix (k_ix (K := K) rfl) (pv 6) (pv 10) (fun _ _ => rfl)) (pe_ix (k_ix (K := K) rfl) (pv 13) pe_int (fun _ _ => rfl))) (pv 3)) (pg_sub (pv 6) (pv 10) set_list))
  (pss_one (ps_if ((pw_or (pt_cmpR zo_lt (pe_ix (k_ix (K := K) rfl) (pv 13) pe_int (fun _ _ => rfl)) pe_int (nomark _)) (pw_or (pt_cmpR zo_ge (pe_ix (k_ix (K := K) rfl) (pv 13) pe_int (fun _ _ => rfl)) (pv 3) (nomark _)) (pw_or (pt_cmpR (k_ne (K := K) rfl hr.units) (pe_ix (k_ix (K := K) rfl) (pv 6) (pv 10) (fun _ _ => rfl)) (pv 12) (nomark _)) (pw_or1 (pt_not (pt_val (z_call c_Lfair tk hr (by decide) (by rfl) (pa_cons (pv 5) (pa_cons (pv 10) (pa_cons (pv 2) pa_nil))))))))))).pt (pss_one (ps_ret pe_bl)) pss_nil)))))) pss_nil)))) (pss_one (ps_if ((pw_and (pt_cmpR zo_lt (pe_op zo_mod (pv 8) pe_int) pe_int (nomark _)) (pw_and1 (pt_cmpR zo_notN (pe_ix (k_ix (K := K) rfl) (pv 9) (pv 10) (fun _ _ => rfl)) pe_non (nomark _))))).pt (pss_one (ps_expr (z_meth (pv 4) m_Rack_free tk hr (by decide) (pa_cons (pv 10) pa_nil)))) (pss_one (ps_if (pt_cmpR (k_eq (K := K) rfl hr.units) (pe_op zo_mod (pv 8) pe_int) pe_int (nomark _)) (pss_one (ps_expr (z_meth (pv 4) m_Rack_mend tk hr (by decide) (pa_cons (pv 10) pa_nil)))) (pss_one (ps_if (pt_cmpR (k_eq (K := K) rfl hr.units) (pe_op zo_mod (pe_op zo_div (pv 8) pe_int) pe_int) pe_int (nomark _)) (pss_one (ps_expr (z_meth (pv 4) m_Rack_stick tk hr (by decide) (pa_cons (pv 10) pa_nil)))) pss_nil)))))))))))))
  (pss_cons (ps_setLc (i := 16) (own := [("k", 10)]) (g := gName 10) (tt := tYes) rfl sc_law.nd rfl rfl (sw_true rfl rfl rfl (by decide +kernel)) (pi_range1 (by rfl) T.b_range (pa_cons (pv 2) pa_nil)) (blkOk_by (N := N_law) (sc := defScope s_law) (by decide +kernel)) (fun _ _ _ _ _ => (pg_name (i := 10) sc_law.nd rfl (Or.inr rfl))) (fun _ _ _ _ _ => pts_nil) (fun _ _ _ _ _ => (pe_callB (k_len (K := K) rfl) (by rfl) T.b_len (by decide +kernel) (pa_cons (pe_lc (own := [("who", 14), ("some", 15)])   rfl sc_law.nd (k_list (K := K) rfl (pv 5)) (blkOk_by (N := N_law) (sc := relS _ (defScope s_law)) (by decide +kernel)) (fun _ _ _ _ _ => (k_gtup (K := K) (n := 2) rfl rfl (pgs_cons (pg_name (i := 14) sc_law.nd rfl (Or.inl rfl)) (pgs_cons (pg_name (i := 15) sc_law.nd rfl (Or.inl rfl)) pgs_nil)))) (fun _ _ _ _ _ => (pts_one (pt_cmpR (k_eq (K := K) rfl hr.units) (pv 14) (pv 10) (nomark _)))) (fun _ _ _ _ _ => pe_int)) pa_nil))))
  (pss_one (ps_ret (pe_and (pe_cmpR (k_eq (K := K) rfl hr.units) (z_meth0 (pv 4) m_Rack_shares tk hr (by decide)) (pv 16) (nomark _)) (pe_one (pe_cmpR (k_eq (K := K) rfl hr.units) (z_meth0 (pv 4) m_Seekers_steps tk hr (by decide)) (pv 7) (nomark _))))))))))))))), ?_⟩
  obtain ⟨a, ns, rfl, hS, hl, q⟩ := h
  have S := sep_law hS
  refine s_start (σ := [some (.ref a), none, none, none, none, none, none, none, none, none, none, none, none, none, none, none, none]) rfl ?_
  wtm_at "st"
  refine ⟨a, ns, 0, 3, 27720, [], rfl, S, by decide, by decide, by decide, by decide, cdiv_of (by decide) (by decide), fun row p0 H hl0 _ S => ?_⟩
  have rl : row.length = 3 := by omega
  obtain ⟨x0, _, ex0, _⟩ := atI_int (ns := row) (i := 0) (by decide) (by omega)
  obtain ⟨x1, _, ex1, _⟩ := atI_int (ns := row) (i := 1) (by decide) (by omega)
  obtain ⟨x2, _, ex2, _⟩ := atI_int (ns := row) (i := 2) (by decide) (by omega)
  wtm_at "st"
  refine s_ixL S (a := p0) (by wtm_at "pk") ex0 ?_
  wtm_at "st"
  obtain ⟨n, en, n1, n12⟩ : ∃ n : Nat, 1 + x0 % 12 = (n : Nat) ∧ 1 ≤ n ∧ n ≤ 12 := ⟨(1 + x0 % 12).toNat, by omega, by omega, by omega⟩
  rw [en]
  refine s_ixL S (a := p0) (by wtm_at "pk") ex1 ?_
  wtm_at "st"
  refine s_newL (by wtm_at "sz") S fun w1 H S => ?_
  wtm_at "st"
  refine s_ixL S (a := p0) (by wtm_at "pk") ex2 ?_
  wtm_at "st"
  obtain ⟨v, e, hm, _⟩ := atI_lt (xs := [V.int (1 + x1 % 60), .int 3]) (i := x2 % 2) (Int.emod_nonneg _ (by decide)) (Int.emod_lt_of_pos _ (by decide))
  refine s_ixL S (a := w1) (by wtm_at "pk") e ?_
  have hm1 : ∃ p : Int, v = .int p ∧ 1 ≤ p ∧ p ≤ 60 := by
    simp only [List.mem_cons, List.not_mem_nil, or_false] at hm
    rcases hm with rfl | rfl
    · exact ⟨_, rfl, by omega, by omega⟩
    · exact ⟨_, rfl, by omega, by omega⟩
  obtain ⟨pl, rfl, pl1, pl60⟩ := hm1
  wtm_at "st"
  refine s_mkR S fun o dx H S => ?_
  refine ⟨o, dx, (n : Nat), pl, _, rfl, hC0, by omega, by omega, S, fun l1 l2 l3 l4 l5 H S => ⟨rfl, ?_⟩⟩
  rw [Int.toNat_natCast] at S
  have k0 : K6 n pl (Sk.new n pl) [] := K6.new n1 (by omega) (by omega)
  obtain ⟨B, eB⟩ : ∃ B : SL, B = ⟨ad.Seekers, dx, o, l1, l2, l3, l4, l5⟩ := ⟨_, rfl⟩
  have S : Sep (skC ⟨ad.Seekers, dx, o, l1, l2, l3, l4, l5⟩ (Sk.new n pl) [sq K a (ns.map V.int)]) H := by wtm_at "wk"
  rw [← eB] at S
  have hC : B.C ∈ Cs := by rw [eB]; exact hC0
  have op : o = B.p := by rw [eB]
  rw [op]
  clear eB op
  wtm_at "st"
  refine s_newL (by wtm_at "sz") S fun gp H S => ?_
  have S : Sep (goE [] [] :: pt gp (.lst (([] : List (Addr × Addr)).map rf)) :: _) H := Sep.go0 S
  wtm_at "st"
  refine s_newL (by wtm_at "sz") S fun w2 H S => ?_
  wtm_at "st"
  refine s_mulL S (by wtm_at "pk") (by omega) (by omega) (Nat.le_trans (show 1 * ((n : Nat) : Int).toNat ≤ 60 by omega) (by decide)) fun sp H S => ?_
  rw [rep_flat, Int.toNat_natCast] at S
  wtm_at "st"
  refine s_newL (by wtm_at "sz") S fun w3 H S => ?_
  wtm_at "st"
  refine s_mulL S (by wtm_at "pk") (by omega) (by omega) (Nat.le_trans (show 1 * ((n : Nat) : Int).toNat ≤ 60 by omega) (by decide)) fun gn H S => ?_
  rw [rep_flat, Int.toNat_natCast] at S
  have e2 : (Sk.new n pl).sp.map V.int = List.replicate n (.int 0) := by simp [Sk.new]
  have e3 : (Sk.new n pl).gn.map V.int = List.replicate n (.int 0) := by simp [Sk.new]
  have S : Sep (pt sp (.lst ((Sk.new n pl).sp.map V.int)) :: pt gn (.lst ((Sk.new n pl).gn.map V.int)) :: pt gp (.lst (([] : List (Addr × Addr)).map rf)) :: goE [] [] :: skC B (Sk.new n pl) [sq K a (ns.map V.int)]) H := by
    rw [e2, e3]
    wtm_at "wk"
  wtm_at "st"
  refine ⟨a, ns, 1, 60, 27720, pt sp (.lst ((Sk.new n pl).sp.map V.int)) :: pt gn (.lst ((Sk.new n pl).gn.map V.int)) :: pt gp (.lst (([] : List (Addr × Addr)).map rf)) :: goE [] [] :: skC B (Sk.new n pl) [], rfl, (by wtm_at "wk"), by decide, by decide, by decide, by decide, cdiv_of (by decide) (by decide), fun d1 p1 H dl1 _ S => ?_⟩
  wtm_at "st"
  refine ⟨a, ns, 2, 60, 27720, pt p1 (.lst (d1.map V.int)) :: pt sp (.lst ((Sk.new n pl).sp.map V.int)) :: pt gn (.lst ((Sk.new n pl).gn.map V.int)) :: pt gp (.lst (([] : List (Addr × Addr)).map rf)) :: goE [] [] :: skC B (Sk.new n pl) [], rfl, (by wtm_at "wk"), by decide, by decide, by decide, by decide, cdiv_of (by decide) (by decide), fun d2 p2 H dl2 _ S => ?_⟩
  wtm_at "st"
  refine s_addL S (a := p1) (by wtm_at "pk") (by wtm_at "pk") (Nat.le_trans (show _ ≤ 120 by rw [List.length_map, List.length_map]; omega) (by decide)) fun dp H S => ?_
  rw [← List.map_append] at S
  obtain ⟨ds, eds⟩ : ∃ ds, ds = d1 ++ d2 := ⟨_, rfl⟩
  have dl : ds.length = 120 := by rw [eds, List.length_append]; omega
  rw [← eds] at S
  clear eds
  wtm_at "st"
  refine s_list S (by wtm_at "pk") ?_
  refine lp_list (xs := ds.map V.int) (fun i σ H => ∃ (s : Sk) (ts : List (Addr × Addr)) (es : List Ent) (v8 v9 v10 v11 v12 v13 : Option V), K6 n pl s es ∧ es.length ≤ i ∧ σ = [some (.ref a), some (.ref p0), some (.int (n : Nat)), some (.int pl), some (.ref B.p), some (.ref gp), some (.ref sp), some (.ref gn), v8, v9, v10, v11, v12, v13, none, none, none] ∧
    Sep (pt dp (.lst (ds.map V.int)) :: pt sp (.lst (s.sp.map V.int)) :: pt gn (.lst (s.gn.map V.int)) :: pt gp (.lst (ts.map rf)) :: goE ts es :: skC B s []) H)
    ⟨Sk.new n pl, [], [], _, _, _, _, _, _, k0, Nat.le_refl _, rfl, by wtm_at "wk"⟩ (fun _ _ _ _ ⟨_, _, _, _, _, _, _, _, _, _, _, _, S⟩ => SqL.of (S.get (by wtm_at "pk"))) ?_ ?_
  · clear S k0 e2 e3
    rintro i x σ H hx ⟨s, ts, es, v8, v9, v10, v11, v12, v13, k6, el, rfl, S⟩
    have hi : i < 120 := by
      have := (List.getElem?_eq_some_iff.mp hx).1
      rw [List.length_map] at this; omega
    rw [List.getElem?_map] at hx
    obtain ⟨d, hd, rfl⟩ := Option.map_eq_some_iff.mp hx
    have g : (skL B s).good Cs := skL_good hC
    have hn := k6.en
    have hp := k6.ep
    have hxx := k6.ok.x
    have ppos := k6.ok.p
    wtm_at "st"
    refine s_rm g S (by decide +kernel) (by wtm_at "pk") ?_
    wtm_at "st"
    refine ⟨skL B s, s.r, _, rfl, g, (by wtm_at "wk"), fun hq H S => ?_⟩
    wtm_at "st"
    refine ⟨_, rfl, by omega, by omega, ?_⟩
    rw [Int.toNat_natCast]
    have S : Sep (pt hq (.lst s.r.held) :: pt dp (.lst (ds.map V.int)) :: pt sp (.lst (s.sp.map V.int)) :: pt gn (.lst (s.gn.map V.int)) :: pt gp (.lst (ts.map rf)) :: goE ts es :: skC B s []) H := by wtm_at "wk"
    refine s_lcR S (fun D j H' => Sep (pt D (.lst ((awayK s j).map V.int)) :: pt hq (.lst s.r.held) :: pt dp (.lst (ds.map V.int)) :: pt sp (.lst (s.sp.map V.int)) :: pt gn (.lst (s.gn.map V.int)) :: pt gp (.lst (ts.map rf)) :: goE ts es :: skC B s []) H')
      (fun D H' S => S) ?_ ?_
    · clear S
      intro D j H hj S
      have hjr : j < s.r.held.length := by omega
      have hjl : (awayK s j).length < sizeLine := Nat.lt_of_le_of_lt (Nat.le_trans (awayK_len s j) (show j ≤ 60 by omega)) (by decide)
      have rd := rdy_iff k6.ok hjr
      obtain ⟨v, hv, _, hv2⟩ := atI_lt (xs := s.r.held) (i := (j : Nat)) (by omega) (by omega)
      rw [Int.toNat_natCast] at hv2
      dsimp only [List.map, wipe, List.set]
      rw [Int.zero_add]
      wtm_at "st"
      refine ⟨rfl, ?_⟩
      wtm_at "st"
      refine s_ixL S (a := hq) (by wtm_at "pk") hv ?_
      wtm_at "st"
      refine s_ifn (fun c => ?_) (fun c => ?_)
      · wtm_at "st"
        have nr : s.r.rdy j = false := by
          rcases Bool.eq_false_or_eq_true (s.r.rdy j) with h | h
          · have h := (rd.mp h).1
            rw [hv2] at h
            exact absurd (Option.some.inj h) c
          · exact h
        refine s_lcput S (by wtm_at "cg") (by rw [List.length_map]; exact hjl) fun H S => ?_
        rw [awayK_pos nr, List.map_append]
        exact S
      · wtm_at "st"
        refine s_rm g S (by decide +kernel) (by wtm_at "pk") ?_
        wtm_at "st"
        refine ⟨skL B s, s.r, _, rfl, g, k6.ok.r, (by wtm_at "wk"), fun jq H S => ?_⟩
        wtm_at "st"
        refine s_inL S (a := jq) (by wtm_at "pk") rfl (flatI _) ?_
        rw [inV_int]
        wtm_at "st"
        refine s_ifd (fun c2 => ?_) (fun c2 => ?_)
        · wtm_at "st"
          have nr : s.r.rdy j = false := by
            rcases Bool.eq_false_or_eq_true (s.r.rdy j) with h | h
            · exact absurd c2 (rd.mp h).2
            · exact h
          refine s_lcput S (by wtm_at "cg") (by rw [List.length_map]; exact hjl) fun H S => ?_
          have S : Sep (pt D (.lst ((awayK s j).map V.int ++ [V.int (j : Nat)])) :: pt hq (.lst s.r.held) :: pt dp (.lst (ds.map V.int)) :: pt sp (.lst (s.sp.map V.int)) :: pt gn (.lst (s.gn.map V.int)) :: pt gp (.lst (ts.map rf)) :: goE ts es :: skC B s []) H := by wtm_at "wk"
          rw [awayK_pos nr, List.map_append]
          exact S
        · have nr : s.r.rdy j = true := rd.mpr ⟨by rw [hv2, c], c2⟩
          rw [awayK_neg nr]
          wtm_at "wk"
    clear S
    intro aq H S
    have S : Sep (pt aq (.lst ((awayL s).map V.int)) :: pt hq (.lst s.r.held) :: pt dp (.lst (ds.map V.int)) :: pt sp (.lst (s.sp.map V.int)) :: pt gn (.lst (s.gn.map V.int)) :: pt gp (.lst (ts.map rf)) :: goE ts es :: skC B s []) H := by
      rw [show awayL s = awayK s n by unfold awayL awayK; rw [hn]]
      exact S
    obtain ⟨kz, ek, kn⟩ : ∃ kz : Nat, d / 8 % (n : Int) = (kz : Nat) ∧ kz < n := by
      have := emod_in (d / 8) (p := (n : Nat)) (by omega)
      exact ⟨(d / 8 % (n : Int)).toNat, by omega, by omega⟩
    have zp := emod_in (d / 8) (p := pl) (by omega)
    obtain ⟨place, epl⟩ : ∃ place, place = d / 8 % pl := ⟨_, rfl⟩
    have npos : 0 < ((n : Nat) : Int) := by omega
    have plpos : 0 < pl := by omega
    obtain ⟨v, hv, _, hv2⟩ := atI_lt (xs := s.r.held) (i := (kz : Nat)) (by omega) (by omega)
    rw [Int.toNat_natCast] at hv2
    wtm_at "st"
    refine s_ifd (fun c => ?_) (fun c => ?_)
    · wtm_at "st"
      refine s_notInL S (a := hq) (by wtm_at "pk") rfl (List.all_eq_true.mpr fun v hv => okV_flat (k6.txt v hv)) ?_
      wtm_at "st"
      cases inV (.int (d / 8 % pl)) s.r.held
      · wtm_at "st"
        refine s_rm g S (by decide +kernel) (by wtm_at "pk") ?_
        wtm_at "st"
        refine ⟨B, s, _, _, rfl, hC, k6.ok, (by wtm_at "wk"), fun hf H S => ?_, fun kk hf hk t1 H S => ?_⟩
        · wtm_at "st"
          refine ⟨RgOk.of_le (Int.le_refl 0) (by omega) (by decide) (by omega), fun lp hp2 => ?_⟩
          have S := S.new (o := .lst (rgV 0 (n : Nat))) hp2
          rw [rgV_nat] at S ⊢
          have S : Sep (pt lp (.lst ((upTo n).map V.int)) :: _) _ := S
          rw [first_none k6.ok hf, hn] at S
          refine s_neLL S (a := aq) (by wtm_at "pk") (by wtm_at "pk") (okIz _) ?_
          wtm_at "st"
          exact ⟨s, ts, es, _, _, _, _, _, _, k6, by omega, rfl, by wtm_at "wk"⟩
        · have na : ((kk : Nat) : Int) ∉ awayL s := fun z => by
            have := (awayL_mem.mp z).2
            rw [(first_at hf).1] at this
            cases this
          have wi := way_in k6.ok kk (d / 8 % pl)
          rw [hp] at wi
          have k7 := k6.took (place := d / 8 % pl) hf
          obtain ⟨z, _, e2, e3⟩ := atI_int (ns := s.sp) (i := (kk : Nat)) (by omega) (by rw [k6.ok.q]; omega)
          obtain ⟨y, _, e4, e5⟩ := atI_int (ns := s.gn) (i := (kk : Nat)) (by omega) (by rw [k6.ok.g]; omega)
          have ez : s.sp.getD kk 0 = z := by rw [List.getD_eq_getElem?_getD, show s.sp[kk]? = some z from e3]; rfl
          have ey : s.gn.getD kk 0 = y := by rw [List.getD_eq_getElem?_getD, show s.gn[kk]? = some y from e5]; rfl
          obtain ⟨way, ew⟩ : ∃ way, way = s.way kk (d / 8 % pl) := ⟨_, rfl⟩
          have ew2 : way = (d / 8 % pl - z) % pl := by rw [ew]; unfold Sk.way; rw [ez, hp]
          rw [← ew] at S wi
          wtm_at "st"
          refine s_ixT S (a := t1) (by wtm_at "pk") (atI_of (v := V.int kk) (by decide) rfl) ?_
          wtm_at "st"
          refine s_inL S (a := aq) (by wtm_at "pk") rfl (flatI _) ?_
          rw [inV_int]
          wtm_at "st"
          refine s_ifd (fun z => absurd z na) (fun _ => ?_)
          wtm_at "st"
          refine s_ixT S (a := t1) (by wtm_at "pk") (atI_of (v := V.int kk) (by decide) rfl) ?_
          wtm_at "st"
          refine s_newT (by wtm_at "sz") S fun t2 H S => ?_
          wtm_at "st"
          refine s_append S (a := gp) (by wtm_at "cg") (Nat.lt_of_le_of_lt (show _ ≤ 120 by have := (S.goGet (ts := ts) (es := es) (by wtm_at "pk")).1; rw [List.length_map]; omega) (by decide)) fun H S => ?_
          wtm_at "st"
          refine s_ixL S (a := gn) (by wtm_at "pk") e4 ?_
          wtm_at "st"
          refine s_ixT S (a := t1) (by wtm_at "pk") (atI_of (v := V.int way) (by decide) rfl) ?_
          wtm_at "st"
          refine s_stL S (a := gn) (n := kk) (by wtm_at "cg") (ixN_of (by omega) (by rw [List.length_map, k6.ok.g]; omega)) fun H S => ?_
          wtm_at "st"
          refine s_ixL S (a := sp) (by wtm_at "pk") e2 ?_
          wtm_at "st"
          refine s_ixT S (a := t1) (by wtm_at "pk") (atI_of (v := V.int way) (by decide) rfl) ?_
          wtm_at "st"
          have ev : (z + way) % pl = d / 8 % pl := by rw [ew2]; exact spot_at zp.1 zp.2
          rw [ev]
          refine s_stL S (a := sp) (n := kk) (by wtm_at "cg") (ixN_of (by omega) (by rw [List.length_map, k6.ok.q]; omega)) fun H S => ?_
          have es1 : (s.sp.map V.int).set kk (.int (d / 8 % pl)) = (s.took kk (d / 8 % pl)).sp.map V.int := by unfold Sk.took; rw [List.map_set]
          have eg1 : (s.gn.map V.int).set kk (.int (y + way)) = (s.took kk (d / 8 % pl)).gn.map V.int := by unfold Sk.took; rw [ey, ← ew, List.map_set]
          rw [es1, eg1, show ts.map rf ++ [V.ref t2] = (ts ++ [(t2, aq)]).map rf by rw [List.map_append]; rfl] at S
          have e6 : atI ((s.took kk (d / 8 % pl)).sp.map V.int) ((kk : Nat) : Int) = some (.int (d / 8 % pl)) := by
            refine atI_of (by omega) ?_
            rw [Int.toNat_natCast, List.getElem?_map]
            show Option.map _ ((s.sp.set kk (d / 8 % pl))[kk]?) = _
            rw [List.getElem?_set_self (by rw [k6.ok.q]; omega)]
            rfl
          have S : Sep (pt t2 (.tup [.int kk, .ref aq]) :: pt aq (.lst ((awayL s).map V.int)) :: goE ts es :: pt t1 (.tup [.int kk, .int way]) :: pt dp (.lst (ds.map V.int)) :: pt sp (.lst ((s.took kk (d / 8 % pl)).sp.map V.int)) :: pt gn (.lst ((s.took kk (d / 8 % pl)).gn.map V.int)) :: pt gp (.lst ((ts ++ [(t2, aq)]).map rf)) :: skC B (s.took kk (d / 8 % pl)) []) H := by wtm_at "wk"
          have S := Sep.goAdd S
          have tl := (S.goGet (ts := ts ++ [(t2, aq)]) (es := es ++ [(kk, awayL s)]) (by wtm_at "pk")).1
          wtm_at "st"
          refine s_ixT S (a := t1) (by wtm_at "pk") (atI_of (v := V.int way) (by decide) rfl) ?_
          wtm_at "st"
          refine s_ifd (fun z => absurd z (by omega)) (fun _ => ?_)
          wtm_at "st"
          refine s_ixT S (a := t1) (by wtm_at "pk") (atI_of (v := V.int way) (by decide) rfl) ?_
          wtm_at "st"
          refine s_ifd (fun z => absurd z (by omega)) (fun _ => ?_)
          wtm_at "st"
          refine s_ixL S (a := sp) (by wtm_at "pk") e6 ?_
          wtm_at "st"
          refine s_ifn (fun z => absurd rfl z) (fun _ => ?_)
          wtm_at "st"
          refine ⟨gp, ts ++ [(t2, aq)], es ++ [(kk, awayL s)], kk, n, (s.took kk (d / 8 % pl)).nx, pt t1 (.tup [.int kk, .int way]) :: pt dp (.lst (ds.map V.int)) :: pt sp (.lst ((s.took kk (d / 8 % pl)).sp.map V.int)) :: pt gn (.lst ((s.took kk (d / 8 % pl)).gn.map V.int)) :: skC B (s.took kk (d / 8 % pl)) [], rfl, k7.g, ⟨(kk, awayL s), List.getLast?_concat, rfl⟩, n12, by rw [List.length_append]; show es.length + 1 ≤ 120; omega, (by wtm_at "wk"), fun H S => ?_⟩
          wtm_at "st"
          exact ⟨s.took kk (d / 8 % pl), ts ++ [(t2, aq)], es ++ [(kk, awayL s)], _, _, _, _, _, _, k7, by rw [List.length_append]; exact Nat.succ_le_succ el, rfl, by wtm_at "wk"⟩
      · wtm_at "st"
        refine s_ifd (fun d1 => ?_) (fun d1 => ?_)
        · wtm_at "st"
          rw [ek]
          refine s_ixL S (a := hq) (by wtm_at "pk") hv ?_
          wtm_at "st"
          refine s_ifn (fun c2 => ?_) (fun c2 => ?_)
          · wtm_at "st"
            refine s_rm g S (by decide +kernel) (by wtm_at "pk") ?_
            wtm_at "st"
            refine ⟨skL B s, s.r, (kz : Nat), _, rfl, g, (by wtm_at "wk"), fun _ _ _ H S => ?_, fun z => absurd ⟨by omega, by omega, by rw [Int.toNat_natCast, hv2]; exact fun e => c2 (Option.some.inj e)⟩ z⟩
            rw [Int.toNat_natCast] at S
            wtm_at "st"
            exact ⟨{ s with r := s.r.free kz }, ts, es, _, _, _, _, _, _, k6.free kz, by omega, rfl, by wtm_at "wk"⟩
          · wtm_at "st"
            refine s_ifd (fun d2 => ?_) (fun d2 => ?_)
            · wtm_at "st"
              try rw [ek]
              refine s_rm g S (by decide +kernel) (by wtm_at "pk") ?_
              wtm_at "st"
              refine ⟨skL B s, s.r, (kz : Nat), _, rfl, g, k6.ok.r, (by wtm_at "wk"), fun _ _ H S => ?_, fun z => absurd ⟨by omega, by omega⟩ z⟩
              rw [Int.toNat_natCast] at S
              wtm_at "st"
              exact ⟨{ s with r := s.r.brkAt kz false }, ts, es, _, _, _, _, _, _, k6.brkAt kz false, by omega, rfl, by wtm_at "wk"⟩
            · wtm_at "st"
              refine s_ifd (fun d3 => ?_) (fun d3 => ?_)
              · wtm_at "st"
                try rw [ek]
                refine s_rm g S (by decide +kernel) (by wtm_at "pk") ?_
                wtm_at "st"
                refine ⟨skL B s, s.r, (kz : Nat), _, rfl, g, k6.ok.r, (by wtm_at "wk"), fun _ _ H S => ?_, fun z => absurd ⟨by omega, by omega⟩ z⟩
                rw [Int.toNat_natCast] at S
                wtm_at "st"
                exact ⟨{ s with r := s.r.brkAt kz true }, ts, es, _, _, _, _, _, _, k6.brkAt kz true, by omega, rfl, by wtm_at "wk"⟩
              · wtm_at "st"
                exact ⟨s, ts, es, _, _, _, _, _, _, k6, by omega, rfl, by wtm_at "wk"⟩
        · wtm_at "st"
          refine s_ifd (fun d2 => ?_) (fun d2 => ?_)
          · wtm_at "st"
            try rw [ek]
            refine s_rm g S (by decide +kernel) (by wtm_at "pk") ?_
            wtm_at "st"
            refine ⟨skL B s, s.r, (kz : Nat), _, rfl, g, k6.ok.r, (by wtm_at "wk"), fun _ _ H S => ?_, fun z => absurd ⟨by omega, by omega⟩ z⟩
            rw [Int.toNat_natCast] at S
            wtm_at "st"
            exact ⟨{ s with r := s.r.brkAt kz false }, ts, es, _, _, _, _, _, _, k6.brkAt kz false, by omega, rfl, by wtm_at "wk"⟩
          · wtm_at "st"
            refine s_ifd (fun d3 => ?_) (fun d3 => ?_)
            · wtm_at "st"
              try rw [ek]
              refine s_rm g S (by decide +kernel) (by wtm_at "pk") ?_
              wtm_at "st"
              refine ⟨skL B s, s.r, (kz : Nat), _, rfl, g, k6.ok.r, (by wtm_at "wk"), fun _ _ H S => ?_, fun z => absurd ⟨by omega, by omega⟩ z⟩
              rw [Int.toNat_natCast] at S
              wtm_at "st"
              exact ⟨{ s with r := s.r.brkAt kz true }, ts, es, _, _, _, _, _, _, k6.brkAt kz true, by omega, rfl, by wtm_at "wk"⟩
            · wtm_at "st"
              exact ⟨s, ts, es, _, _, _, _, _, _, k6, by omega, rfl, by wtm_at "wk"⟩
    · wtm_at "st"
      refine s_ifd (fun d1 => ?_) (fun d1 => ?_)
      · wtm_at "st"
        rw [ek]
        refine s_ixL S (a := hq) (by wtm_at "pk") hv ?_
        wtm_at "st"
        refine s_ifn (fun c2 => ?_) (fun c2 => ?_)
        · wtm_at "st"
          refine s_rm g S (by decide +kernel) (by wtm_at "pk") ?_
          wtm_at "st"
          refine ⟨skL B s, s.r, (kz : Nat), _, rfl, g, (by wtm_at "wk"), fun _ _ _ H S => ?_, fun z => absurd ⟨by omega, by omega, by rw [Int.toNat_natCast, hv2]; exact fun e => c2 (Option.some.inj e)⟩ z⟩
          rw [Int.toNat_natCast] at S
          wtm_at "st"
          exact ⟨{ s with r := s.r.free kz }, ts, es, _, _, _, _, _, _, k6.free kz, by omega, rfl, by wtm_at "wk"⟩
        · wtm_at "st"
          refine s_ifd (fun d2 => ?_) (fun d2 => ?_)
          · wtm_at "st"
            try rw [ek]
            refine s_rm g S (by decide +kernel) (by wtm_at "pk") ?_
            wtm_at "st"
            refine ⟨skL B s, s.r, (kz : Nat), _, rfl, g, k6.ok.r, (by wtm_at "wk"), fun _ _ H S => ?_, fun z => absurd ⟨by omega, by omega⟩ z⟩
            rw [Int.toNat_natCast] at S
            wtm_at "st"
            exact ⟨{ s with r := s.r.brkAt kz false }, ts, es, _, _, _, _, _, _, k6.brkAt kz false, by omega, rfl, by wtm_at "wk"⟩
          · wtm_at "st"
            refine s_ifd (fun d3 => ?_) (fun d3 => ?_)
            · wtm_at "st"
              try rw [ek]
              refine s_rm g S (by decide +kernel) (by wtm_at "pk") ?_
              wtm_at "st"
              refine ⟨skL B s, s.r, (kz : Nat), _, rfl, g, k6.ok.r, (by wtm_at "wk"), fun _ _ H S => ?_, fun z => absurd ⟨by omega, by omega⟩ z⟩
              rw [Int.toNat_natCast] at S
              wtm_at "st"
              exact ⟨{ s with r := s.r.brkAt kz true }, ts, es, _, _, _, _, _, _, k6.brkAt kz true, by omega, rfl, by wtm_at "wk"⟩
            · wtm_at "st"
              exact ⟨s, ts, es, _, _, _, _, _, _, k6, by omega, rfl, by wtm_at "wk"⟩
      · wtm_at "st"
        refine s_ifd (fun d2 => ?_) (fun d2 => ?_)
        · wtm_at "st"
          try rw [ek]
          refine s_rm g S (by decide +kernel) (by wtm_at "pk") ?_
          wtm_at "st"
          refine ⟨skL B s, s.r, (kz : Nat), _, rfl, g, k6.ok.r, (by wtm_at "wk"), fun _ _ H S => ?_, fun z => absurd ⟨by omega, by omega⟩ z⟩
          rw [Int.toNat_natCast] at S
          wtm_at "st"
          exact ⟨{ s with r := s.r.brkAt kz false }, ts, es, _, _, _, _, _, _, k6.brkAt kz false, by omega, rfl, by wtm_at "wk"⟩
        · wtm_at "st"
          refine s_ifd (fun d3 => ?_) (fun d3 => ?_)
          · wtm_at "st"
            try rw [ek]
            refine s_rm g S (by decide +kernel) (by wtm_at "pk") ?_
            wtm_at "st"
            refine ⟨skL B s, s.r, (kz : Nat), _, rfl, g, k6.ok.r, (by wtm_at "wk"), fun _ _ H S => ?_, fun z => absurd ⟨by omega, by omega⟩ z⟩
            rw [Int.toNat_natCast] at S
            wtm_at "st"
            exact ⟨{ s with r := s.r.brkAt kz true }, ts, es, _, _, _, _, _, _, k6.brkAt kz true, by omega, rfl, by wtm_at "wk"⟩
          · wtm_at "st"
            exact ⟨s, ts, es, _, _, _, _, _, _, k6, by omega, rfl, by wtm_at "wk"⟩
  clear S k0 e2 e3
  rintro σ H ⟨s, ts, es, v8, v9, v10, v11, v12, v13, k6, el, rfl, S⟩
  rw [List.length_map, dl] at el
  have g : (skL B s).good Cs := skL_good hC
  have hn := k6.en
  wtm_at "st"
  refine ⟨_, rfl, by omega, by omega, ?_⟩
  rw [Int.toNat_natCast]
  have S : Sep (pt gn (.lst (s.gn.map V.int)) :: pt gp (.lst (ts.map rf)) :: goE ts es :: skC B s []) H := by wtm_at "wk"
  refine s_lcR S (fun D j H' => Sep (pt D (.lst ((cntOf j es).map V.int)) :: pt gn (.lst (s.gn.map V.int)) :: pt gp (.lst (ts.map rf)) :: goE ts es :: skC B s []) H')
    (fun D H' S => S) ?_ ?_
  · clear S
    intro D j H hj S
    dsimp only [List.map, wipe, List.set]
    rw [Int.zero_add]
    wtm_at "st"
    refine ⟨rfl, ?_⟩
    wtm_at "st"
    refine ⟨gp, rfl, ⟨_, SqL.of (S.get (by wtm_at "pk"))⟩, ?_⟩
    refine s_lcL (xs := ts.map rf) S (fun D2 i H' => Sep (pt D2 (.lst (List.replicate ((es.take i).countP fun e => e.1 == j) (V.int 1))) :: pt D (.lst ((cntOf j es).map V.int)) :: pt gn (.lst (s.gn.map V.int)) :: pt gp (.lst (ts.map rf)) :: goE ts es :: skC B s []) H')
      (fun D2 H' S => S) (fun D2 i H' _ S => SqL.of (S.get (by wtm_at "pk"))) ?_ ?_
    · clear S
      intro D2 i x H hx S
      have gg := S.goGet (ts := ts) (es := es) (by wtm_at "pk")
      rw [List.getElem?_map] at hx
      obtain ⟨t, ht, rfl⟩ := Option.map_eq_some_iff.mp hx
      obtain ⟨e, he⟩ := goE_at gg ht
      obtain ⟨h1, h2⟩ := gg.2 i t e ht he
      have et : es.take (i + 1) = es.take i ++ [e] := by rw [List.take_succ, he]; rfl
      have cl : ((es.take i).countP fun e => e.1 == j) ≤ 120 := Nat.le_trans List.countP_le_length (by rw [List.length_take]; omega)
      dsimp only [List.map, wipe, List.set]
      refine s_gtupT h1 rfl ?_
      wtm_at "st"
      refine ⟨rfl, ?_⟩
      wtm_at "st"
      refine s_ifd (fun c => ?_) (fun c => ?_)
      · wtm_at "st"
        refine s_lcput S (by wtm_at "cg") (Nat.lt_of_le_of_lt (show _ ≤ 120 by rw [List.length_replicate]; exact cl) (by decide)) fun H S => ?_
        rw [et, List.countP_append, List.countP_cons_of_pos (by simp; omega), List.countP_nil, Nat.zero_add, List.replicate_succ']
        exact S
      · rw [et, List.countP_append, List.countP_cons_of_neg (by simp; omega), List.countP_nil, Nat.add_zero]
        exact S
    clear S
    intro D2 H S
    have tl := (S.goGet (ts := ts) (es := es) (by wtm_at "pk")).1
    rw [List.length_map, tl, List.take_length] at S
    wtm_at "st"
    rw [List.length_replicate]
    refine s_lcput S (D := D) (by wtm_at "cg") (Nat.lt_of_le_of_lt (show _ ≤ 60 by rw [List.length_map]; unfold cntOf; rw [List.length_map, List.length_range]; omega) (by decide)) fun H S => ?_
    have ec : cntOf (j + 1) es = cntOf j es ++ [((es.countP fun e => e.1 == j : Nat) : Int)] := by
      unfold cntOf
      rw [List.range_succ, List.map_append]; rfl
    rw [ec, List.map_append]
    show Sep (pt D (.lst ((cntOf j es).map V.int ++ [V.int ((es.countP fun e => e.1 == j : Nat) : Int)])) :: _) H
    wtm_at "wk"
  clear S
  intro D H S
  rw [← k6.tak] at S
  wtm_at "st"
  refine s_rm g S (by decide +kernel) (by wtm_at "pk") ?_
  wtm_at "st"
  refine ⟨skL B s, s.r, _, rfl, g, (by wtm_at "wk"), fun q1 H S => ?_⟩
  wtm_at "st"
  refine s_eqLL S (a := q1) (by wtm_at "pk") (by wtm_at "pk") (okIz _) ?_
  wtm_at "st"
  refine s_rm g S (by decide +kernel) (by wtm_at "pk") ?_
  wtm_at "st"
  refine ⟨B, s, _, rfl, hC, (by wtm_at "wk"), fun q2 H S => ?_⟩
  wtm_at "st"
  refine s_eqLL S (a := q2) (by wtm_at "pk") (by wtm_at "pk") (okIz _) ?_
  wtm_at "st"
  exact q H
end
end L2.Zs
namespace L2.Zs
open PySem PySem.Spec PyProof.Rows
theorem kit_not {K : PySem.W.Frag} {D C : Addr} (s : PySem.W.subIn K (.ref D) (.ref C) = some false) (sc : PySem.W.subIn K (.ref C) (.ref C) = some true) (i : PySem.W.isClsIn K C = true) (t : PySem.W.typeIn K (.ref C) = some (.type "type")) : PySem.W.kitOne K (.ref D) (.ref C) = some false :=
  kit_ref (fun h => by
    have e : D = C := by simpa using h
    subst e
    rw [s] at sc
    cases sc) i t s
set_option maxHeartbeats 8000000 in
theorem all_mk {l : PySem.W.OpenLaw} {w : World} {K : PySem.W.Frag} {h : Heap} {mg : PySem.Str → Option Value} {fa : Addr} (X : K.In h) (G : h.Ns mainGlobals mg) (hfa : mg "law" = some (.ref fa))
    {C_HallError C_NoSwitch C_Rack C_Seekers : Addr}
    {f_Lcell : Addr} {od_Lcell an_Lcell : Option Addr} {sl_Lcell : Array (Option Value)} {oc_Lcell kV_Lcell dc_Lcell pm_Lcell cd_Lcell ct_Lcell : Value}
    {f_Ldraws : Addr} {od_Ldraws an_Ldraws : Option Addr} {sl_Ldraws : Array (Option Value)} {oc_Ldraws kV_Ldraws dc_Ldraws pm_Ldraws cd_Ldraws ct_Ldraws : Value}
    {f_Lfair : Addr} {od_Lfair an_Lfair : Option Addr} {sl_Lfair : Array (Option Value)} {oc_Lfair kV_Lfair dc_Lfair pm_Lfair cd_Lfair ct_Lfair : Value}
    {f_Rack_need : Addr} {od_Rack_need an_Rack_need : Option Addr} {sl_Rack_need : Array (Option Value)} {oc_Rack_need kV_Rack_need dc_Rack_need pm_Rack_need cd_Rack_need ct_Rack_need : Value}
    {f_Rack_is_ready : Addr} {od_Rack_is_ready an_Rack_is_ready : Option Addr} {sl_Rack_is_ready : Array (Option Value)} {oc_Rack_is_ready kV_Rack_is_ready dc_Rack_is_ready pm_Rack_is_ready cd_Rack_is_ready ct_Rack_is_ready : Value}
    {f_Rack_given : Addr} {od_Rack_given an_Rack_given : Option Addr} {sl_Rack_given : Array (Option Value)} {oc_Rack_given kV_Rack_given dc_Rack_given pm_Rack_given cd_Rack_given ct_Rack_given : Value}
    {f_Rack_free : Addr} {od_Rack_free an_Rack_free : Option Addr} {sl_Rack_free : Array (Option Value)} {oc_Rack_free kV_Rack_free dc_Rack_free pm_Rack_free cd_Rack_free ct_Rack_free : Value}
    {f_Rack_stick : Addr} {od_Rack_stick an_Rack_stick : Option Addr} {sl_Rack_stick : Array (Option Value)} {oc_Rack_stick kV_Rack_stick dc_Rack_stick pm_Rack_stick cd_Rack_stick ct_Rack_stick : Value}
    {f_Rack_mend : Addr} {od_Rack_mend an_Rack_mend : Option Addr} {sl_Rack_mend : Array (Option Value)} {oc_Rack_mend kV_Rack_mend dc_Rack_mend pm_Rack_mend cd_Rack_mend ct_Rack_mend : Value}
    {f_Rack_shares : Addr} {od_Rack_shares an_Rack_shares : Option Addr} {sl_Rack_shares : Array (Option Value)} {oc_Rack_shares kV_Rack_shares dc_Rack_shares pm_Rack_shares cd_Rack_shares ct_Rack_shares : Value}
    {f_RackQ_initQ : Addr} {od_RackQ_initQ an_RackQ_initQ : Option Addr} {sl_RackQ_initQ : Array (Option Value)} {oc_RackQ_initQ kV_RackQ_initQ dc_RackQ_initQ pm_RackQ_initQ cd_RackQ_initQ ct_RackQ_initQ : Value}
    {f_SeekersQ_initQ : Addr} {od_SeekersQ_initQ an_SeekersQ_initQ : Option Addr} {sl_SeekersQ_initQ : Array (Option Value)} {oc_SeekersQ_initQ kV_SeekersQ_initQ dc_SeekersQ_initQ pm_SeekersQ_initQ cd_SeekersQ_initQ ct_SeekersQ_initQ : Value}
    {f_Seekers_take : Addr} {od_Seekers_take an_Seekers_take : Option Addr} {sl_Seekers_take : Array (Option Value)} {oc_Seekers_take kV_Seekers_take dc_Seekers_take pm_Seekers_take cd_Seekers_take ct_Seekers_take : Value}
    {f_Seekers_holders : Addr} {od_Seekers_holders an_Seekers_holders : Option Addr} {sl_Seekers_holders : Array (Option Value)} {oc_Seekers_holders kV_Seekers_holders dc_Seekers_holders pm_Seekers_holders cd_Seekers_holders ct_Seekers_holders : Value}
    {f_Seekers_stuck : Addr} {od_Seekers_stuck an_Seekers_stuck : Option Addr} {sl_Seekers_stuck : Array (Option Value)} {oc_Seekers_stuck kV_Seekers_stuck dc_Seekers_stuck pm_Seekers_stuck cd_Seekers_stuck ct_Seekers_stuck : Value}
    {f_Seekers_steps : Addr} {od_Seekers_steps an_Seekers_steps : Option Addr} {sl_Seekers_steps : Array (Option Value)} {oc_Seekers_steps kV_Seekers_steps dc_Seekers_steps pm_Seekers_steps cd_Seekers_steps ct_Seekers_steps : Value}
    {f_law : Addr} {od_law an_law : Option Addr} {sl_law : Array (Option Value)} {oc_law kV_law dc_law pm_law cd_law ct_law : Value}
    (b_len : PySem.W.nsIn K mainGlobals "len" = some none)
    (b_range : PySem.W.nsIn K mainGlobals "range" = some none)
    (b_list : PySem.W.nsIn K mainGlobals "list" = some none)
    (b_set : PySem.W.nsIn K mainGlobals "set" = some none)
    (b_sorted : PySem.W.nsIn K mainGlobals "sorted" = some none)
    (gx_Rack : PySem.W.nsIn K mainGlobals "Rack" = some (some (.ref C_Rack)))
    (gx_HallError : PySem.W.nsIn K mainGlobals "HallError" = some (some (.ref C_HallError)))
    (ex_HallError : PySem.W.excIn K C_HallError [.type "ValueError", .type "Exception", .type "BaseException", .type "object"] "ValueError.__new__" = true)
    (kx_HallError : PySem.W.keepIn K (.ref C_HallError) = true)
    (bx_HallError : PySem.W.subIn K (.ref C_HallError) (.type "BaseException") = some true)
    (tx_HallError : PySem.W.typeIn K (.ref C_HallError) = some (.type "type"))
    (ix_HallError : PySem.W.isClsIn K C_HallError = true)
    (gx_NoSwitch : PySem.W.nsIn K mainGlobals "NoSwitch" = some (some (.ref C_NoSwitch)))
    (ex_NoSwitch : PySem.W.excIn K C_NoSwitch [.type "ValueError", .type "Exception", .type "BaseException", .type "object"] "ValueError.__new__" = true)
    (kx_NoSwitch : PySem.W.keepIn K (.ref C_NoSwitch) = true)
    (bx_NoSwitch : PySem.W.subIn K (.ref C_NoSwitch) (.type "BaseException") = some true)
    (tx_NoSwitch : PySem.W.typeIn K (.ref C_NoSwitch) = some (.type "type"))
    (ix_NoSwitch : PySem.W.isClsIn K C_NoSwitch = true)
    (gx_Seekers : PySem.W.nsIn K mainGlobals "Seekers" = some (some (.ref C_Seekers)))
    (pg_Seekers : PySem.W.plainGet K C_Seekers Str.empty = true)
    (hd_Seekers : PySem.W.hasDictIn K C_Seekers = true)
    (po_Seekers : PySem.W.plainOver K C_Seekers = true)
    (sa_Seekers : PySem.W.findIn K (.ref C_Seekers) "__setattr__" = some (some (.builtin "object.__setattr__")))
    (kc_Seekers : PySem.W.keepIn K (.ref C_Seekers) = true)
    (no_Seekers_held_by : PySem.W.findIn K (.ref C_Seekers) "held_by" = some none)
    (no_Seekers_broken : PySem.W.findIn K (.ref C_Seekers) "broken" = some none)
    (no_Seekers_taken : PySem.W.findIn K (.ref C_Seekers) "taken" = some none)
    (no_Seekers_places : PySem.W.findIn K (.ref C_Seekers) "places" = some none)
    (no_Seekers_spots : PySem.W.findIn K (.ref C_Seekers) "spots" = some none)
    (no_Seekers_gone : PySem.W.findIn K (.ref C_Seekers) "gone" = some none)
    (no_Seekers_next_one : PySem.W.findIn K (.ref C_Seekers) "next_one" = some none)
    (a_Lcell : PySem.W.nsIn K mainGlobals "_law_cell" = some (some (.ref f_Lcell)))
    (l_Lcell : K.lookup f_Lcell = some ⟨oc_Lcell, od_Lcell, .func (PySem.W.fnOf "_law_cell" "_law_cell" (defArgs s_Lcell) (defBody s_Lcell) (defScope s_Lcell) .none kV_Lcell dc_Lcell pm_Lcell an_Lcell cd_Lcell ct_Lcell), sl_Lcell⟩)
    (c_Lcell : PySem.W.codeIn K cd_Lcell "_law_cell" = true)
    (k_Lcell : PySem.W.keepIn K (.ref f_Lcell) = true)
    (a_Ldraws : PySem.W.nsIn K mainGlobals "_law_draws" = some (some (.ref f_Ldraws)))
    (l_Ldraws : K.lookup f_Ldraws = some ⟨oc_Ldraws, od_Ldraws, .func (PySem.W.fnOf "_law_draws" "_law_draws" (defArgs s_Ldraws) (defBody s_Ldraws) (defScope s_Ldraws) .none kV_Ldraws dc_Ldraws pm_Ldraws an_Ldraws cd_Ldraws ct_Ldraws), sl_Ldraws⟩)
    (c_Ldraws : PySem.W.codeIn K cd_Ldraws "_law_draws" = true)
    (k_Ldraws : PySem.W.keepIn K (.ref f_Ldraws) = true)
    (a_Lfair : PySem.W.nsIn K mainGlobals "_law_fair" = some (some (.ref f_Lfair)))
    (l_Lfair : K.lookup f_Lfair = some ⟨oc_Lfair, od_Lfair, .func (PySem.W.fnOf "_law_fair" "_law_fair" (defArgs s_Lfair) (defBody s_Lfair) (defScope s_Lfair) .none kV_Lfair dc_Lfair pm_Lfair an_Lfair cd_Lfair ct_Lfair), sl_Lfair⟩)
    (c_Lfair : PySem.W.codeIn K cd_Lfair "_law_fair" = true)
    (k_Lfair : PySem.W.keepIn K (.ref f_Lfair) = true)
    (at_Rack_need_Seekers : PySem.W.findIn K (.ref C_Seekers) "need" = some (some (.ref f_Rack_need)))
    (i_Rack_need : PySem.W.isFn K (.ref f_Rack_need) = true)
    (l_Rack_need : K.lookup f_Rack_need = some ⟨oc_Rack_need, od_Rack_need, .func (PySem.W.fnOf "need" "Rack.need" (defArgs s_Rack_need) (defBody s_Rack_need) (defScope s_Rack_need) .none kV_Rack_need dc_Rack_need pm_Rack_need an_Rack_need cd_Rack_need ct_Rack_need), sl_Rack_need⟩)
    (c_Rack_need : PySem.W.codeIn K cd_Rack_need "Rack.need" = true)
    (k_Rack_need : PySem.W.keepIn K (.ref f_Rack_need) = true)
    (at_Rack_is_ready_Seekers : PySem.W.findIn K (.ref C_Seekers) "is_ready" = some (some (.ref f_Rack_is_ready)))
    (i_Rack_is_ready : PySem.W.isFn K (.ref f_Rack_is_ready) = true)
    (l_Rack_is_ready : K.lookup f_Rack_is_ready = some ⟨oc_Rack_is_ready, od_Rack_is_ready, .func (PySem.W.fnOf "is_ready" "Rack.is_ready" (defArgs s_Rack_is_ready) (defBody s_Rack_is_ready) (defScope s_Rack_is_ready) .none kV_Rack_is_ready dc_Rack_is_ready pm_Rack_is_ready an_Rack_is_ready cd_Rack_is_ready ct_Rack_is_ready), sl_Rack_is_ready⟩)
    (c_Rack_is_ready : PySem.W.codeIn K cd_Rack_is_ready "Rack.is_ready" = true)
    (k_Rack_is_ready : PySem.W.keepIn K (.ref f_Rack_is_ready) = true)
    (at_Rack_given_Seekers : PySem.W.findIn K (.ref C_Seekers) "given" = some (some (.ref f_Rack_given)))
    (i_Rack_given : PySem.W.isFn K (.ref f_Rack_given) = true)
    (l_Rack_given : K.lookup f_Rack_given = some ⟨oc_Rack_given, od_Rack_given, .func (PySem.W.fnOf "given" "Rack.given" (defArgs s_Rack_given) (defBody s_Rack_given) (defScope s_Rack_given) .none kV_Rack_given dc_Rack_given pm_Rack_given an_Rack_given cd_Rack_given ct_Rack_given), sl_Rack_given⟩)
    (c_Rack_given : PySem.W.codeIn K cd_Rack_given "Rack.given" = true)
    (k_Rack_given : PySem.W.keepIn K (.ref f_Rack_given) = true)
    (at_Rack_free_Seekers : PySem.W.findIn K (.ref C_Seekers) "free" = some (some (.ref f_Rack_free)))
    (i_Rack_free : PySem.W.isFn K (.ref f_Rack_free) = true)
    (l_Rack_free : K.lookup f_Rack_free = some ⟨oc_Rack_free, od_Rack_free, .func (PySem.W.fnOf "free" "Rack.free" (defArgs s_Rack_free) (defBody s_Rack_free) (defScope s_Rack_free) .none kV_Rack_free dc_Rack_free pm_Rack_free an_Rack_free cd_Rack_free ct_Rack_free), sl_Rack_free⟩)
    (c_Rack_free : PySem.W.codeIn K cd_Rack_free "Rack.free" = true)
    (k_Rack_free : PySem.W.keepIn K (.ref f_Rack_free) = true)
    (at_Rack_stick_Seekers : PySem.W.findIn K (.ref C_Seekers) "stick" = some (some (.ref f_Rack_stick)))
    (i_Rack_stick : PySem.W.isFn K (.ref f_Rack_stick) = true)
    (l_Rack_stick : K.lookup f_Rack_stick = some ⟨oc_Rack_stick, od_Rack_stick, .func (PySem.W.fnOf "stick" "Rack.stick" (defArgs s_Rack_stick) (defBody s_Rack_stick) (defScope s_Rack_stick) .none kV_Rack_stick dc_Rack_stick pm_Rack_stick an_Rack_stick cd_Rack_stick ct_Rack_stick), sl_Rack_stick⟩)
    (c_Rack_stick : PySem.W.codeIn K cd_Rack_stick "Rack.stick" = true)
    (k_Rack_stick : PySem.W.keepIn K (.ref f_Rack_stick) = true)
    (at_Rack_mend_Seekers : PySem.W.findIn K (.ref C_Seekers) "mend" = some (some (.ref f_Rack_mend)))
    (i_Rack_mend : PySem.W.isFn K (.ref f_Rack_mend) = true)
    (l_Rack_mend : K.lookup f_Rack_mend = some ⟨oc_Rack_mend, od_Rack_mend, .func (PySem.W.fnOf "mend" "Rack.mend" (defArgs s_Rack_mend) (defBody s_Rack_mend) (defScope s_Rack_mend) .none kV_Rack_mend dc_Rack_mend pm_Rack_mend an_Rack_mend cd_Rack_mend ct_Rack_mend), sl_Rack_mend⟩)
    (c_Rack_mend : PySem.W.codeIn K cd_Rack_mend "Rack.mend" = true)
    (k_Rack_mend : PySem.W.keepIn K (.ref f_Rack_mend) = true)
    (at_Rack_shares_Seekers : PySem.W.findIn K (.ref C_Seekers) "shares" = some (some (.ref f_Rack_shares)))
    (i_Rack_shares : PySem.W.isFn K (.ref f_Rack_shares) = true)
    (l_Rack_shares : K.lookup f_Rack_shares = some ⟨oc_Rack_shares, od_Rack_shares, .func (PySem.W.fnOf "shares" "Rack.shares" (defArgs s_Rack_shares) (defBody s_Rack_shares) (defScope s_Rack_shares) .none kV_Rack_shares dc_Rack_shares pm_Rack_shares an_Rack_shares cd_Rack_shares ct_Rack_shares), sl_Rack_shares⟩)
    (c_Rack_shares : PySem.W.codeIn K cd_Rack_shares "Rack.shares" = true)
    (k_Rack_shares : PySem.W.keepIn K (.ref f_Rack_shares) = true)
    (rd_Rack : PySem.W.readsIn K C_Rack (.type "type") = true)
    (sg_Rack : PySem.W.specialIn K (.ref C_Rack) "__getattribute__" = some (some (.builtin "type.__getattribute__")))
    (fc_RackQ_initQ : PySem.W.findCls K (.ref C_Rack) (.type "type") "__init__" = some (.val (.ref f_RackQ_initQ)))
    (l_RackQ_initQ : K.lookup f_RackQ_initQ = some ⟨oc_RackQ_initQ, od_RackQ_initQ, .func (PySem.W.fnOf "__init__" "Rack.__init__" (defArgs s_RackQ_initQ) (defBody s_RackQ_initQ) (defScope s_RackQ_initQ) .none kV_RackQ_initQ dc_RackQ_initQ pm_RackQ_initQ an_RackQ_initQ cd_RackQ_initQ ct_RackQ_initQ), sl_RackQ_initQ⟩)
    (c_RackQ_initQ : PySem.W.codeIn K cd_RackQ_initQ "Rack.__init__" = true)
    (k_RackQ_initQ : PySem.W.keepIn K (.ref f_RackQ_initQ) = true)
    (at_SeekersQ_initQ_Seekers : PySem.W.findIn K (.ref C_Seekers) "__init__" = some (some (.ref f_SeekersQ_initQ)))
    (i_SeekersQ_initQ : PySem.W.isFn K (.ref f_SeekersQ_initQ) = true)
    (l_SeekersQ_initQ : K.lookup f_SeekersQ_initQ = some ⟨oc_SeekersQ_initQ, od_SeekersQ_initQ, .func (PySem.W.fnOf "__init__" "Seekers.__init__" (defArgs s_SeekersQ_initQ) (defBody s_SeekersQ_initQ) (defScope s_SeekersQ_initQ) .none kV_SeekersQ_initQ dc_SeekersQ_initQ pm_SeekersQ_initQ an_SeekersQ_initQ cd_SeekersQ_initQ ct_SeekersQ_initQ), sl_SeekersQ_initQ⟩)
    (c_SeekersQ_initQ : PySem.W.codeIn K cd_SeekersQ_initQ "Seekers.__init__" = true)
    (k_SeekersQ_initQ : PySem.W.keepIn K (.ref f_SeekersQ_initQ) = true)
    (mk_Seekers : PySem.W.makesIn K C_Seekers = true)
    (at_Seekers_take_Seekers : PySem.W.findIn K (.ref C_Seekers) "take" = some (some (.ref f_Seekers_take)))
    (i_Seekers_take : PySem.W.isFn K (.ref f_Seekers_take) = true)
    (l_Seekers_take : K.lookup f_Seekers_take = some ⟨oc_Seekers_take, od_Seekers_take, .func (PySem.W.fnOf "take" "Seekers.take" (defArgs s_Seekers_take) (defBody s_Seekers_take) (defScope s_Seekers_take) .none kV_Seekers_take dc_Seekers_take pm_Seekers_take an_Seekers_take cd_Seekers_take ct_Seekers_take), sl_Seekers_take⟩)
    (c_Seekers_take : PySem.W.codeIn K cd_Seekers_take "Seekers.take" = true)
    (k_Seekers_take : PySem.W.keepIn K (.ref f_Seekers_take) = true)
    (at_Seekers_holders_Seekers : PySem.W.findIn K (.ref C_Seekers) "holders" = some (some (.ref f_Seekers_holders)))
    (i_Seekers_holders : PySem.W.isFn K (.ref f_Seekers_holders) = true)
    (l_Seekers_holders : K.lookup f_Seekers_holders = some ⟨oc_Seekers_holders, od_Seekers_holders, .func (PySem.W.fnOf "holders" "Seekers.holders" (defArgs s_Seekers_holders) (defBody s_Seekers_holders) (defScope s_Seekers_holders) .none kV_Seekers_holders dc_Seekers_holders pm_Seekers_holders an_Seekers_holders cd_Seekers_holders ct_Seekers_holders), sl_Seekers_holders⟩)
    (c_Seekers_holders : PySem.W.codeIn K cd_Seekers_holders "Seekers.holders" = true)
    (k_Seekers_holders : PySem.W.keepIn K (.ref f_Seekers_holders) = true)
    (at_Seekers_stuck_Seekers : PySem.W.findIn K (.ref C_Seekers) "stuck" = some (some (.ref f_Seekers_stuck)))
    (i_Seekers_stuck : PySem.W.isFn K (.ref f_Seekers_stuck) = true)
    (l_Seekers_stuck : K.lookup f_Seekers_stuck = some ⟨oc_Seekers_stuck, od_Seekers_stuck, .func (PySem.W.fnOf "stuck" "Seekers.stuck" (defArgs s_Seekers_stuck) (defBody s_Seekers_stuck) (defScope s_Seekers_stuck) .none kV_Seekers_stuck dc_Seekers_stuck pm_Seekers_stuck an_Seekers_stuck cd_Seekers_stuck ct_Seekers_stuck), sl_Seekers_stuck⟩)
    (c_Seekers_stuck : PySem.W.codeIn K cd_Seekers_stuck "Seekers.stuck" = true)
    (k_Seekers_stuck : PySem.W.keepIn K (.ref f_Seekers_stuck) = true)
    (at_Seekers_steps_Seekers : PySem.W.findIn K (.ref C_Seekers) "steps" = some (some (.ref f_Seekers_steps)))
    (i_Seekers_steps : PySem.W.isFn K (.ref f_Seekers_steps) = true)
    (l_Seekers_steps : K.lookup f_Seekers_steps = some ⟨oc_Seekers_steps, od_Seekers_steps, .func (PySem.W.fnOf "steps" "Seekers.steps" (defArgs s_Seekers_steps) (defBody s_Seekers_steps) (defScope s_Seekers_steps) .none kV_Seekers_steps dc_Seekers_steps pm_Seekers_steps an_Seekers_steps cd_Seekers_steps ct_Seekers_steps), sl_Seekers_steps⟩)
    (c_Seekers_steps : PySem.W.codeIn K cd_Seekers_steps "Seekers.steps" = true)
    (k_Seekers_steps : PySem.W.keepIn K (.ref f_Seekers_steps) = true)
    (a_law : PySem.W.nsIn K mainGlobals "law" = some (some (.ref f_law)))
    (l_law : K.lookup f_law = some ⟨oc_law, od_law, .func (PySem.W.fnOf "law" "law" (defArgs s_law) (defBody s_law) (defScope s_law) .none kV_law dc_law pm_law an_law cd_law ct_law), sl_law⟩)
    (c_law : PySem.W.codeIn K cd_law "law" = true)
    (k_law : PySem.W.keepIn K (.ref f_law) = true)
    : ∃ fd : FuncData, (∀ (s : Shared) (v : Value), BindsTo s fd ⟨[v], []⟩ [("script", v)]) ∧ ∀ base : Heap, K.In base → base.Ns mainGlobals mg → FnOk l.prog w K mg base (L2.CX l.prog w) 4 fa fd ["script"] (spLawK K) := by
  have e := hfa.symm.trans (PySem.W.mg_of X G a_law)
  cases e
  have cls_Seekers : Cls K C_Seekers := ⟨pg_Seekers, hd_Seekers, po_Seekers, sa_Seekers⟩
  have T : Txt K mg ⟨C_HallError, C_NoSwitch, C_Rack, C_Seekers⟩  := { b_len := PySem.W.mg_none_of X G b_len, b_range := PySem.W.mg_none_of X G b_range, b_list := PySem.W.mg_none_of X G b_list, b_set := PySem.W.mg_none_of X G b_set, b_sorted := PySem.W.mg_none_of X G b_sorted, g_Rack := PySem.W.mg_of X G gx_Rack, x_HallError := ⟨ex_HallError, PySem.W.mg_of X G gx_HallError, kx_HallError, bx_HallError, tx_HallError, ix_HallError⟩, x_NoSwitch := ⟨ex_NoSwitch, PySem.W.mg_of X G gx_NoSwitch, kx_NoSwitch, bx_NoSwitch, tx_NoSwitch, ix_NoSwitch⟩ }
  have R : RT K [C_Seekers] := ⟨List.forall_mem_cons.mpr ⟨cls_Seekers, fun _ z => nomatch z⟩, List.forall_mem_cons.mpr ⟨no_Seekers_held_by, fun _ z => nomatch z⟩, List.forall_mem_cons.mpr ⟨no_Seekers_broken, fun _ z => nomatch z⟩, List.forall_mem_cons.mpr ⟨no_Seekers_taken, fun _ z => nomatch z⟩⟩
  have U : ST K [C_Seekers] := ⟨List.forall_mem_cons.mpr ⟨cls_Seekers, fun _ z => nomatch z⟩, List.forall_mem_cons.mpr ⟨no_Seekers_places, fun _ z => nomatch z⟩, List.forall_mem_cons.mpr ⟨no_Seekers_spots, fun _ z => nomatch z⟩, List.forall_mem_cons.mpr ⟨no_Seekers_gone, fun _ z => nomatch z⟩, List.forall_mem_cons.mpr ⟨no_Seekers_next_one, fun _ z => nomatch z⟩⟩
  have F_Lcell := fun_mk (st := s_Lcell) l_Lcell c_Lcell k_Lcell
  have B_Lcell := F_Lcell.binds (ps := ["script", "k"]) fun _ _ _ _ _ _ us hl => match us, hl with | [_, _], _ => rfl
  have F_Ldraws := fun_mk (st := s_Ldraws) l_Ldraws c_Ldraws k_Ldraws
  have B_Ldraws := F_Ldraws.binds (ps := ["script", "k", "many", "base"]) fun _ _ _ _ _ _ us hl => match us, hl with | [_, _, _, _], _ => rfl
  have F_Lfair := fun_mk (st := s_Lfair) l_Lfair c_Lfair k_Lfair
  have B_Lfair := F_Lfair.binds (ps := ["gone", "k", "many"]) fun _ _ _ _ _ _ us hl => match us, hl with | [_, _, _], _ => rfl
  have F_Rack_need := fun_mk (st := s_Rack_need) l_Rack_need c_Rack_need k_Rack_need
  have B_Rack_need := F_Rack_need.binds (ps := ["self", "k"]) fun _ _ _ _ _ _ us hl => match us, hl with | [_, _], _ => rfl
  have F_Rack_is_ready := fun_mk (st := s_Rack_is_ready) l_Rack_is_ready c_Rack_is_ready k_Rack_is_ready
  have B_Rack_is_ready := F_Rack_is_ready.binds (ps := ["self", "k"]) fun _ _ _ _ _ _ us hl => match us, hl with | [_, _], _ => rfl
  have F_Rack_given := fun_mk (st := s_Rack_given) l_Rack_given c_Rack_given k_Rack_given
  have B_Rack_given := F_Rack_given.binds (ps := ["self", "k", "who"]) fun _ _ _ _ _ _ us hl => match us, hl with | [_, _, _], _ => rfl
  have F_Rack_free := fun_mk (st := s_Rack_free) l_Rack_free c_Rack_free k_Rack_free
  have B_Rack_free := F_Rack_free.binds (ps := ["self", "k"]) fun _ _ _ _ _ _ us hl => match us, hl with | [_, _], _ => rfl
  have F_Rack_stick := fun_mk (st := s_Rack_stick) l_Rack_stick c_Rack_stick k_Rack_stick
  have B_Rack_stick := F_Rack_stick.binds (ps := ["self", "k"]) fun _ _ _ _ _ _ us hl => match us, hl with | [_, _], _ => rfl
  have F_Rack_mend := fun_mk (st := s_Rack_mend) l_Rack_mend c_Rack_mend k_Rack_mend
  have B_Rack_mend := F_Rack_mend.binds (ps := ["self", "k"]) fun _ _ _ _ _ _ us hl => match us, hl with | [_, _], _ => rfl
  have F_Rack_shares := fun_mk (st := s_Rack_shares) l_Rack_shares c_Rack_shares k_Rack_shares
  have B_Rack_shares := F_Rack_shares.binds (ps := ["self"]) fun _ _ _ _ _ _ us hl => match us, hl with | [_], _ => rfl
  have F_RackQ_initQ := fun_mk (st := s_RackQ_initQ) l_RackQ_initQ c_RackQ_initQ k_RackQ_initQ
  have B_RackQ_initQ := F_RackQ_initQ.binds (ps := ["self", "many"]) fun _ _ _ _ _ _ us hl => match us, hl with | [_, _], _ => rfl
  have F_SeekersQ_initQ := fun_mk (st := s_SeekersQ_initQ) l_SeekersQ_initQ c_SeekersQ_initQ k_SeekersQ_initQ
  have B_SeekersQ_initQ := F_SeekersQ_initQ.binds (ps := ["self", "many", "places"]) fun _ _ _ _ _ _ us hl => match us, hl with | [_, _, _], _ => rfl
  have F_Seekers_take := fun_mk (st := s_Seekers_take) l_Seekers_take c_Seekers_take k_Seekers_take
  have B_Seekers_take := F_Seekers_take.binds (ps := ["self", "place"]) fun _ _ _ _ _ _ us hl => match us, hl with | [_, _], _ => rfl
  have F_Seekers_holders := fun_mk (st := s_Seekers_holders) l_Seekers_holders c_Seekers_holders k_Seekers_holders
  have B_Seekers_holders := F_Seekers_holders.binds (ps := ["self"]) fun _ _ _ _ _ _ us hl => match us, hl with | [_], _ => rfl
  have F_Seekers_stuck := fun_mk (st := s_Seekers_stuck) l_Seekers_stuck c_Seekers_stuck k_Seekers_stuck
  have B_Seekers_stuck := F_Seekers_stuck.binds (ps := ["self"]) fun _ _ _ _ _ _ us hl => match us, hl with | [_], _ => rfl
  have F_Seekers_steps := fun_mk (st := s_Seekers_steps) l_Seekers_steps c_Seekers_steps k_Seekers_steps
  have B_Seekers_steps := F_Seekers_steps.binds (ps := ["self"]) fun _ _ _ _ _ _ us hl => match us, hl with | [_], _ => rfl
  have F_law := fun_mk (st := s_law) l_law c_law k_law
  refine ⟨PySem.W.fnOf "law" "law" (defArgs s_law) (defBody s_law) (defScope s_law) .none kV_law dc_law pm_law an_law cd_law ct_law, fun s v => .of_eq rfl, fun base KB GB => ?_⟩
  have c_Lcell : Cal l.prog w K mg base 1 "_law_cell" (spCell K) := ⟨_, _, _, ok_Lcell T F_Lcell, PySem.W.mg_of X G a_Lcell, k_Lcell, B_Lcell⟩
  have c_Ldraws : Cal l.prog w K mg base 2 "_law_draws" (spDraws K) := ⟨_, _, _, ok_Ldraws T c_Lcell F_Ldraws, PySem.W.mg_of X G a_Ldraws, k_Ldraws, B_Ldraws⟩
  have c_Lfair : Cal l.prog w K mg base 1 "_law_fair" (spFair) := ⟨_, _, _, ok_Lfair T F_Lfair, PySem.W.mg_of X G a_Lfair, k_Lfair, B_Lfair⟩
  have m_Rack_need : ∀ C ∈ [C_Seekers], Met l.prog w K mg base 1 C "need" (spNeed [C_Seekers] C_NoSwitch C) := List.forall_mem_cons.mpr ⟨⟨_, _, _, ok_Rack_need T R F_Rack_need, ⟨at_Rack_need_Seekers, i_Rack_need, k_Rack_need⟩, cls_Seekers, B_Rack_need⟩, fun _ z => nomatch z⟩
  have m_Rack_is_ready : ∀ C ∈ [C_Seekers], Met l.prog w K mg base 1 C "is_ready" (spReady [C_Seekers] C) := List.forall_mem_cons.mpr ⟨⟨_, _, _, ok_Rack_is_ready T R F_Rack_is_ready, ⟨at_Rack_is_ready_Seekers, i_Rack_is_ready, k_Rack_is_ready⟩, cls_Seekers, B_Rack_is_ready⟩, fun _ z => nomatch z⟩
  have m_Rack_given : ∀ C ∈ [C_Seekers], Met l.prog w K mg base 1 C "given" (spGiven [C_Seekers] C) := List.forall_mem_cons.mpr ⟨⟨_, _, _, ok_Rack_given T R F_Rack_given, ⟨at_Rack_given_Seekers, i_Rack_given, k_Rack_given⟩, cls_Seekers, B_Rack_given⟩, fun _ z => nomatch z⟩
  have m_Rack_free : ∀ C ∈ [C_Seekers], Met l.prog w K mg base 2 C "free" (spFree [C_Seekers] C_NoSwitch C) := List.forall_mem_cons.mpr ⟨⟨_, _, _, ok_Rack_free T R m_Rack_need F_Rack_free, ⟨at_Rack_free_Seekers, i_Rack_free, k_Rack_free⟩, cls_Seekers, B_Rack_free⟩, fun _ z => nomatch z⟩
  have m_Rack_stick : ∀ C ∈ [C_Seekers], Met l.prog w K mg base 2 C "stick" (spStick [C_Seekers] C_NoSwitch true C) := List.forall_mem_cons.mpr ⟨⟨_, _, _, ok_Rack_stick T R m_Rack_need F_Rack_stick, ⟨at_Rack_stick_Seekers, i_Rack_stick, k_Rack_stick⟩, cls_Seekers, B_Rack_stick⟩, fun _ z => nomatch z⟩
  have m_Rack_mend : ∀ C ∈ [C_Seekers], Met l.prog w K mg base 2 C "mend" (spStick [C_Seekers] C_NoSwitch false C) := List.forall_mem_cons.mpr ⟨⟨_, _, _, ok_Rack_mend T R m_Rack_need F_Rack_mend, ⟨at_Rack_mend_Seekers, i_Rack_mend, k_Rack_mend⟩, cls_Seekers, B_Rack_mend⟩, fun _ z => nomatch z⟩
  have m_Rack_shares : ∀ C ∈ [C_Seekers], Met l.prog w K mg base 1 C "shares" (spShares [C_Seekers] C) := List.forall_mem_cons.mpr ⟨⟨_, _, _, ok_Rack_shares T R F_Rack_shares, ⟨at_Rack_shares_Seekers, i_Rack_shares, k_Rack_shares⟩, cls_Seekers, B_Rack_shares⟩, fun _ z => nomatch z⟩
  have b_Rack : Bas l.prog w K mg base 1 C_Rack "__init__" (spRack [C_Seekers] C_Seekers) := ⟨_, _, _, ok_Rack_init T R F_RackQ_initQ, rd_Rack, sg_Rack, fc_RackQ_initQ, k_RackQ_initQ, B_RackQ_initQ⟩
  have k_Seekers : Mak l.prog w K mg base 2 "Seekers" C_Seekers (spSkInit [C_Seekers] C_Seekers) := ⟨_, _, _, ok_Seekers_init T R U b_Rack F_SeekersQ_initQ, PySem.W.mg_of X G gx_Seekers, ⟨mk_Seekers, at_SeekersQ_initQ_Seekers, i_SeekersQ_initQ, kc_Seekers⟩, B_SeekersQ_initQ⟩
  have m_Seekers_take : ∀ C ∈ [C_Seekers], Met l.prog w K mg base 2 C "take" (spSkTake [C_Seekers] C) := List.forall_mem_cons.mpr ⟨⟨_, _, _, ok_Seekers_take T R U m_Rack_is_ready m_Rack_given F_Seekers_take, ⟨at_Seekers_take_Seekers, i_Seekers_take, k_Seekers_take⟩, cls_Seekers, B_Seekers_take⟩, fun _ z => nomatch z⟩
  have m_Seekers_holders : ∀ C ∈ [C_Seekers], Met l.prog w K mg base 1 C "holders" (spHolders [C_Seekers] C) := List.forall_mem_cons.mpr ⟨⟨_, _, _, ok_Seekers_holders T R F_Seekers_holders, ⟨at_Seekers_holders_Seekers, i_Seekers_holders, k_Seekers_holders⟩, cls_Seekers, B_Seekers_holders⟩, fun _ z => nomatch z⟩
  have m_Seekers_stuck : ∀ C ∈ [C_Seekers], Met l.prog w K mg base 1 C "stuck" (spJam [C_Seekers] C) := List.forall_mem_cons.mpr ⟨⟨_, _, _, ok_Seekers_stuck T R F_Seekers_stuck, ⟨at_Seekers_stuck_Seekers, i_Seekers_stuck, k_Seekers_stuck⟩, cls_Seekers, B_Seekers_stuck⟩, fun _ z => nomatch z⟩
  have m_Seekers_steps : ∀ C ∈ [C_Seekers], Met l.prog w K mg base 1 C "steps" (spSteps [C_Seekers] C) := List.forall_mem_cons.mpr ⟨⟨_, _, _, ok_Seekers_steps T U F_Seekers_steps, ⟨at_Seekers_steps_Seekers, i_Seekers_steps, k_Seekers_steps⟩, cls_Seekers, B_Seekers_steps⟩, fun _ z => nomatch z⟩
  exact ok_law T R c_Ldraws c_Lfair k_Seekers (List.mem_singleton.mpr rfl) m_Seekers_holders m_Seekers_stuck m_Seekers_take m_Rack_free m_Rack_mend m_Rack_stick m_Rack_shares m_Seekers_steps F_law
theorem walk {l : PySem.W.OpenLaw} {q : Program} {loose : List PySem.Str} {XP : (PySem.Str → Option Value) → Heap → Prop} {YP : World → Heap → Prop} {d : DefRec} {K : Params → PySem.W.Frag} (hn : l.most = some 63) (hdf : d.params.defaults = [])
    (hY : ∀ (w : World) (h : Heap), YP w h → (K w.params).In h)
    (F : ∀ (w : World) (mg : PySem.Str → Option Value) (fa : Addr) (h : Heap), (K w.params).In h → h.Ns mainGlobals mg → mg d.name = some (.ref fa) →
      ∃ fd : FuncData, (∀ (s : Shared) (u : Value), BindsTo s fd ⟨[u], []⟩ [("script", u)]) ∧ ∀ base : Heap, (K w.params).In base → base.Ns mainGlobals mg → FnOk l.prog w (K w.params) mg base (L2.CX l.prog w) 4 fa fd ["script"] (spLawK (K w.params))) :
    PySem.W.WalkO q loose XP YP l.row.toRowW d [] (fun f vs => PySem.call f vs) :=
  L2.walk_of (n := 63) (k := 4) (x := "script") (CX := fun w => L2.CX l.prog w) (sp := fun w => spLawK (K w.params)) hn (by decide) hdf ⟨rfl, by decide, by decide⟩ hY F (fun _ _ a ns hl _ hS => ⟨a, ns, rfl, hS, hl, fun _ => rfl⟩) fun _ _ _ _ _ ⟨_, _, _, _, _, _, _, _, _, _, _, _, z⟩ => z
end L2.Zs
open PySem PySem.W PyProof.Rows
set_option maxRecDepth 100000 in
set_option maxHeartbeats 0 in
theorem PySem.Challenge.cw_stephall_k06_whole_seekers_go_round_holds : PySem.Challenge.rw_stephall_k06_whole_seekers_go_round.Holds := by
  w_on; o_law; k_head; (case hw => w_witness2)
  k_fill
  refine L2.Zs.walk (l := PySem.Challenge.rw_stephall_k06_whole_seekers_go_round) rfl rfl (fun w h Y => PySem.W.kIn_of Y) ?F
  case F =>
    intro w mg fa h Y G hmg
    refine' L2.Zs.all_mk Y G hmg ?b_len ?b_range ?b_list ?b_set ?b_sorted ?gx_Rack ?gx_HallError ?ex_HallError ?kx_HallError ?bx_HallError ?tx_HallError ?ix_HallError ?gx_NoSwitch ?ex_NoSwitch ?kx_NoSwitch ?bx_NoSwitch ?tx_NoSwitch ?ix_NoSwitch ?gx_Seekers ?pg_Seekers ?hd_Seekers ?po_Seekers ?sa_Seekers ?kc_Seekers ?no_Seekers_held_by ?no_Seekers_broken ?no_Seekers_taken ?no_Seekers_places ?no_Seekers_spots ?no_Seekers_gone ?no_Seekers_next_one ?a_Lcell ?l_Lcell ?c_Lcell ?k_Lcell ?a_Ldraws ?l_Ldraws ?c_Ldraws ?k_Ldraws ?a_Lfair ?l_Lfair ?c_Lfair ?k_Lfair ?at_Rack_need_Seekers ?i_Rack_need ?l_Rack_need ?c_Rack_need ?k_Rack_need ?at_Rack_is_ready_Seekers ?i_Rack_is_ready ?l_Rack_is_ready ?c_Rack_is_ready ?k_Rack_is_ready ?at_Rack_given_Seekers ?i_Rack_given ?l_Rack_given ?c_Rack_given ?k_Rack_given ?at_Rack_free_Seekers ?i_Rack_free ?l_Rack_free ?c_Rack_free ?k_Rack_free ?at_Rack_stick_Seekers ?i_Rack_stick ?l_Rack_stick ?c_Rack_stick ?k_Rack_stick ?at_Rack_mend_Seekers ?i_Rack_mend ?l_Rack_mend ?c_Rack_mend ?k_Rack_mend ?at_Rack_shares_Seekers ?i_Rack_shares ?l_Rack_shares ?c_Rack_shares ?k_Rack_shares ?rd_Rack ?sg_Rack ?fc_RackQ_initQ ?l_RackQ_initQ ?c_RackQ_initQ ?k_RackQ_initQ ?at_SeekersQ_initQ_Seekers ?i_SeekersQ_initQ ?l_SeekersQ_initQ ?c_SeekersQ_initQ ?k_SeekersQ_initQ ?mk_Seekers ?at_Seekers_take_Seekers ?i_Seekers_take ?l_Seekers_take ?c_Seekers_take ?k_Seekers_take ?at_Seekers_holders_Seekers ?i_Seekers_holders ?l_Seekers_holders ?c_Seekers_holders ?k_Seekers_holders ?at_Seekers_stuck_Seekers ?i_Seekers_stuck ?l_Seekers_stuck ?c_Seekers_stuck ?k_Seekers_stuck ?at_Seekers_steps_Seekers ?i_Seekers_steps ?l_Seekers_steps ?c_Seekers_steps ?k_Seekers_steps ?a_law ?l_law ?c_law ?k_law
    (case b_len => k_is)
    (case b_range => k_is)
    (case b_list => k_is)
    (case b_set => k_is)
    (case b_sorted => k_is)
    (case gx_Rack => k_is)
    (case gx_HallError => k_is)
    (case ex_HallError => k_exc)
    (case kx_HallError => k_is)
    (case bx_HallError => k_is)
    (case tx_HallError => k_is)
    (case ix_HallError => k_is)
    (case gx_NoSwitch => k_is)
    (case ex_NoSwitch => k_exc)
    (case kx_NoSwitch => k_is)
    (case bx_NoSwitch => k_is)
    (case tx_NoSwitch => k_is)
    (case ix_NoSwitch => k_is)
    (case gx_Seekers => k_is)
    (case pg_Seekers => k_is)
    (case hd_Seekers => k_is)
    (case po_Seekers => k_is)
    (case sa_Seekers => k_is)
    (case kc_Seekers => k_is)
    (case no_Seekers_held_by => k_is)
    (case no_Seekers_broken => k_is)
    (case no_Seekers_taken => k_is)
    (case no_Seekers_places => k_is)
    (case no_Seekers_spots => k_is)
    (case no_Seekers_gone => k_is)
    (case no_Seekers_next_one => k_is)
    (case a_Lcell => k_is)
    (case l_Lcell => k_is)
    (case c_Lcell => k_is)
    (case k_Lcell => k_is)
    (case a_Ldraws => k_is)
    (case l_Ldraws => k_is)
    (case c_Ldraws => k_is)
    (case k_Ldraws => k_is)
    (case a_Lfair => k_is)
    (case l_Lfair => k_is)
    (case c_Lfair => k_is)
    (case k_Lfair => k_is)
    (case at_Rack_need_Seekers => k_is)
    (case i_Rack_need => k_is)
    (case l_Rack_need => k_is)
    (case c_Rack_need => k_is)
    (case k_Rack_need => k_is)
    (case at_Rack_is_ready_Seekers => k_is)
    (case i_Rack_is_ready => k_is)
    (case l_Rack_is_ready => k_is)
    (case c_Rack_is_ready => k_is)
    (case k_Rack_is_ready => k_is)
    (case at_Rack_given_Seekers => k_is)
    (case i_Rack_given => k_is)
    (case l_Rack_given => k_is)
    (case c_Rack_given => k_is)
    (case k_Rack_given => k_is)
    (case at_Rack_free_Seekers => k_is)
    (case i_Rack_free => k_is)
    (case l_Rack_free => k_is)
    (case c_Rack_free => k_is)
    (case k_Rack_free => k_is)
    (case at_Rack_stick_Seekers => k_is)
    (case i_Rack_stick => k_is)
    (case l_Rack_stick => k_is)
    (case c_Rack_stick => k_is)
    (case k_Rack_stick => k_is)
    (case at_Rack_mend_Seekers => k_is)
    (case i_Rack_mend => k_is)
    (case l_Rack_mend => k_is)
    (case c_Rack_mend => k_is)
    (case k_Rack_mend => k_is)
    (case at_Rack_shares_Seekers => k_is)
    (case i_Rack_shares => k_is)
    (case l_Rack_shares => k_is)
    (case c_Rack_shares => k_is)
    (case k_Rack_shares => k_is)
    (case rd_Rack => k_is)
    (case sg_Rack => k_is)
    (case fc_RackQ_initQ => k_is)
    (case l_RackQ_initQ => k_is)
    (case c_RackQ_initQ => k_is)
    (case k_RackQ_initQ => k_is)
    (case at_SeekersQ_initQ_Seekers => k_is)
    (case i_SeekersQ_initQ => k_is)
    (case l_SeekersQ_initQ => k_is)
    (case c_SeekersQ_initQ => k_is)
    (case k_SeekersQ_initQ => k_is)
    (case mk_Seekers => k_is)
    (case at_Seekers_take_Seekers => k_is)
    (case i_Seekers_take => k_is)
    (case l_Seekers_take => k_is)
    (case c_Seekers_take => k_is)
    (case k_Seekers_take => k_is)
    (case at_Seekers_holders_Seekers => k_is)
    (case i_Seekers_holders => k_is)
    (case l_Seekers_holders => k_is)
    (case c_Seekers_holders => k_is)
    (case k_Seekers_holders => k_is)
    (case at_Seekers_stuck_Seekers => k_is)
    (case i_Seekers_stuck => k_is)
    (case l_Seekers_stuck => k_is)
    (case c_Seekers_stuck => k_is)
    (case k_Seekers_stuck => k_is)
    (case at_Seekers_steps_Seekers => k_is)
    (case i_Seekers_steps => k_is)
    (case l_Seekers_steps => k_is)
    (case c_Seekers_steps => k_is)
    (case k_Seekers_steps => k_is)
    (case a_law => k_is)
    (case l_law => k_is)
    (case c_law => k_is)
    (case k_law => k_is)
