import PyProof.Rows.All
import Wide.All
import OpenK.AllK
import Wide.FinOn
import HandS.ForMost
import HandS.ForExc
import HandS.Wide
import HandS.Flow
import HandS.IsInst
import HandS.ExcIs
import HandS.Conv
import HandS.SetFor
import HandS.More
import HandS.Strs
import HandS.Sort
import HandS.Iter
import HandS.Zip
import HandS.Dict
import KE.KSortTupG
import PySem.Challenge.RW_stephall_k03_plans_written_and_read
import HandS.Deep
import HandS.TupMul
import HandS.SetTxt0
import HandS.Text
set_option Elab.async false
set_option maxRecDepth 100000
set_option linter.all false
namespace L2.Zs
open PySem
/-! ## separate pieces of the heap -/
abbrev As := Hp → Prop
def Imm : HO → Bool
  | .tup _ => true
  | _ => false
def Le (H1 H : Hp) : Prop := ∀ a o, H1 a = some o → H a = some o
def Dj (H1 H2 : Hp) : Prop := ∀ a o, H1 a = some o → ∀ o', H2 a = some o' → Imm o = true ∧ Imm o' = true
theorem Dj.symm {H1 H2 : Hp} (d : Dj H1 H2) : Dj H2 H1 := fun a o h o' h' => ⟨(d a o' h' o h).2, (d a o' h' o h).1⟩
theorem Le.refl (H : Hp) : Le H H := fun _ _ h => h
theorem Le.trans {H1 H2 H3 : Hp} (a : Le H1 H2) (b : Le H2 H3) : Le H1 H3 := fun x o h => b x o (a x o h)
theorem Dj.le {H1 H2 H1' H2' : Hp} (d : Dj H1 H2) (a : Le H1' H1) (b : Le H2' H2) : Dj H1' H2' := fun x o h o' h' => d x o (a x o h) o' (b x o' h')
def uni (H1 H2 : Hp) : Hp := fun a => (H1 a).or (H2 a)
theorem uni_or {H1 H2 : Hp} {a : Addr} {o : HO} (h : uni H1 H2 a = some o) : H1 a = some o ∨ H2 a = some o := by
  unfold uni at h
  cases e : H1 a with
  | none => rw [e] at h; exact .inr h
  | some u => rw [e] at h; exact .inl h
theorem uni_le {H1 H2 H : Hp} (a : Le H1 H) (b : Le H2 H) : Le (uni H1 H2) H := fun x o h => (uni_or h).elim (a x o) (b x o)
theorem le_uni1 {H1 H2 : Hp} : Le H1 (uni H1 H2) := fun x o h => by unfold uni; rw [h]; rfl
theorem le_uni2 {H1 H2 H : Hp} (a : Le H1 H) (b : Le H2 H) : Le H2 (uni H1 H2) := fun x o h => by
  unfold uni
  cases e : H1 x with
  | none => exact h
  | some u => have := (a x u e).symm.trans (b x o h); exact this
theorem dj_uni {H1 H2 H3 : Hp} (a : Dj H1 H3) (b : Dj H2 H3) : Dj (uni H1 H2) H3 := fun x o h o' h' => (uni_or h).elim (fun h => a x o h o' h') (fun h => b x o h o' h')
/-- the chunks stand apart (written tuples may be shared) -/
def Sep : List As → As
  | [] => fun _ => True
  | c :: cs => fun H => ∃ H1 H2, Le H1 H ∧ Le H2 H ∧ Dj H1 H2 ∧ c H1 ∧ Sep cs H2
theorem Sep.up {cs : List As} {H H' : Hp} (h : Sep cs H) (l : Le H H') : Sep cs H' := by
  cases cs with
  | nil => trivial
  | cons c cs =>
    obtain ⟨H1, H2, a, b, d, x, y⟩ := h
    exact ⟨H1, H2, a.trans l, b.trans l, d, x, y⟩
theorem Sep.swap {c d : As} {cs : List As} {H : Hp} (h : Sep (c :: d :: cs) H) : Sep (d :: c :: cs) H := by
  obtain ⟨H1, H2, a, b, e, x, H3, H4, a2, b2, e2, x2, y⟩ := h
  refine ⟨H3, uni H1 H4, a2.trans b, uni_le a (b2.trans b), ?_, x2, H1, H4, le_uni1, le_uni2 a (b2.trans b), e.le (Le.refl _) b2, x, y⟩
  exact (dj_uni (e.le (Le.refl _) a2) e2.symm).symm
theorem Sep.cons {c : As} {cs cs' : List As} (f : ∀ H, Sep cs H → Sep cs' H) {H : Hp} (h : Sep (c :: cs) H) : Sep (c :: cs') H := by
  obtain ⟨H1, H2, a, b, e, x, y⟩ := h
  exact ⟨H1, H2, a, b, e, x, f _ y⟩
theorem Sep.tail {c : As} {cs : List As} {H : Hp} (h : Sep (c :: cs) H) : Sep cs H := by
  obtain ⟨H1, H2, a, b, e, x, y⟩ := h
  exact y.up b
theorem Sep.imp {c c' : As} {cs : List As} {H : Hp} (h : Sep (c :: cs) H) (f : ∀ H, c H → c' H) : Sep (c' :: cs) H := by
  obtain ⟨H1, H2, a, b, e, x, y⟩ := h
  exact ⟨H1, H2, a, b, e, f _ x, y⟩
/-- c stands in cs, the others are ds -/
inductive Pick : As → List As → List As → Prop
  | here {c cs} : Pick c (c :: cs) cs
  | there {c d cs ds} : Pick c cs ds → Pick c (d :: cs) (d :: ds)
theorem Sep.pick {c : As} {cs ds : List As} (p : Pick c cs ds) {H : Hp} (h : Sep cs H) : Sep (c :: ds) H := by
  induction p generalizing H with
  | here => exact h
  | there p ih => exact Sep.swap (Sep.cons (fun _ => ih) h)
theorem Sep.unpick {c : As} {cs ds : List As} (p : Pick c cs ds) {H : Hp} (h : Sep (c :: ds) H) : Sep cs H := by
  induction p generalizing H with
  | here => exact h
  | there p ih => exact Sep.cons (fun _ => ih) (Sep.swap h)
/-- the chunks ps stand in cs, the others are F -/
inductive Sub : List As → List As → List As → Prop
  | nil {cs} : Sub cs [] cs
  | cons {c ps cs ds F} : Pick c cs ds → Sub ds ps F → Sub cs (c :: ps) F
theorem Sub.sep {cs ps F : List As} (s : Sub cs ps F) {H : Hp} (h : Sep cs H) : Sep (ps ++ F) H := by
  induction s generalizing H with
  | nil => exact h
  | cons p s ih => exact Sep.cons (fun _ => ih) (Sep.pick p h)
theorem Sub.unsep {cs ps F : List As} (s : Sub cs ps F) {H : Hp} (h : Sep (ps ++ F) H) : Sep cs H := by
  induction s generalizing H with
  | nil => exact h
  | cons p s ih => exact Sep.unpick p (Sep.cons (fun _ => ih) h)
theorem Sep.drop {ps F : List As} {H : Hp} (h : Sep (ps ++ F) H) : Sep F H := by
  induction ps generalizing H with
  | nil => exact h
  | cons c ps ih => exact ih h.tail
theorem Sep.left {ps F : List As} {H : Hp} (h : Sep (ps ++ F) H) : Sep ps H := by
  induction ps generalizing H with
  | nil => trivial
  | cons c ps ih => exact Sep.cons (fun _ => ih) h
theorem Sep.rot {ps F : List As} {H : Hp} (h : Sep (ps ++ F) H) : Sep (F ++ ps) H := by
  induction F generalizing ps H with
  | nil => rw [List.append_nil] at h; exact h
  | cons c F ih =>
    have p : Pick c (ps ++ c :: F) (ps ++ F) := by
      clear ih h
      induction ps with
      | nil => exact .here
      | cons d ps ih => exact .there ih
    exact Sep.cons (fun _ => ih) (Sep.pick p h)
/-- some chunks as one -/
def star (cs : List As) : As := fun H => Sep cs H
theorem Sep.flat {ps F : List As} {H : Hp} (h : Sep (star ps :: F) H) : Sep (ps ++ F) H := by
  obtain ⟨H1, H2, a, b, e, x, y⟩ := h
  induction ps generalizing H1 H with
  | nil => exact y.up b
  | cons c ps ih =>
    obtain ⟨H3, H4, a2, b2, e2, x2, y2⟩ := (show Sep (c :: ps) H1 from x)
    refine ⟨H3, uni H4 H2, a2.trans a, uni_le (b2.trans a) b, ?_, x2, ?_⟩
    · exact (dj_uni e2.symm (e.le a2 (Le.refl _)).symm).symm
    · exact ih H4 le_uni1 (le_uni2 (b2.trans a) b) (e.le b2 (Le.refl _)) y2
theorem Sep.unflat {ps F : List As} {H : Hp} (h : Sep (ps ++ F) H) : Sep (star ps :: F) H := by
  induction ps generalizing H with
  | nil => exact ⟨fun _ => none, H, (fun _ _ q => nomatch q), Le.refl _, (fun _ _ q => nomatch q), trivial, h⟩
  | cons c ps ih =>
    obtain ⟨H1, H2, a, b, e, x, y⟩ := h
    obtain ⟨H3, H4, a2, b2, e2, x2, y2⟩ := ih y
    refine ⟨uni H1 H3, H4, uni_le a (a2.trans b), b2.trans b, ?_, ?_, y2⟩
    · exact dj_uni (e.le (Le.refl _) b2) e2
    · exact ⟨H1, H3, le_uni1, le_uni2 a (a2.trans b), e.le (Le.refl _) a2, x, x2⟩
/-- a chunk with something unnamed in it -/
def ex {α : Type} (f : α → As) : As := fun H => ∃ x, f x H
theorem Sep.ex {α : Type} {f : α → As} {F : List As} {H : Hp} (h : Sep (Zs.ex f :: F) H) : ∃ x, Sep (f x :: F) H := by
  obtain ⟨H1, H2, a, b, e, ⟨x, q⟩, y⟩ := h
  exact ⟨x, H1, H2, a, b, e, q, y⟩
theorem Sep.exI {α : Type} {f : α → As} {F : List As} {H : Hp} (x : α) (h : Sep (f x :: F) H) : Sep (Zs.ex f :: F) H := by
  obtain ⟨H1, H2, a, b, e, q, y⟩ := h
  exact ⟨H1, H2, a, b, e, ⟨x, q⟩, y⟩
/-- a plain fact -/
def pu (p : Prop) : As := fun _ => p
theorem Sep.pu {p : Prop} {F : List As} {H : Hp} (h : Sep (Zs.pu p :: F) H) : p ∧ Sep F H := by
  obtain ⟨H1, H2, a, b, e, q, y⟩ := h
  exact ⟨q, y.up b⟩
theorem Sep.puI {p : Prop} {F : List As} {H : Hp} (q : p) (h : Sep F H) : Sep (Zs.pu p :: F) H :=
  ⟨fun _ => none, H, (fun _ _ q => nomatch q), Le.refl _, (fun _ _ q => nomatch q), q, h⟩
/-- one object -/
def pt (a : Addr) (o : HO) : As := fun H => H a = some o
theorem Sep.hd {a : Addr} {o : HO} {F : List As} {H : Hp} (h : Sep (pt a o :: F) H) : H a = some o := by
  obtain ⟨H1, H2, l, _, _, q, _⟩ := h
  exact l _ _ q
theorem Sep.get {a : Addr} {o : HO} {cs ds : List As} {H : Hp} (h : Sep cs H) (p : Pick (pt a o) cs ds) : H a = some o := (h.pick p).hd
theorem Sep.new {a : Addr} {o : HO} {cs : List As} {H : Hp} (h : Sep cs H) (n : H a = none) : Sep (pt a o :: cs) (upd H a o) := by
  refine ⟨upd (fun _ => none) a o, H, fun x u q => ?_, fun x u q => ?_, fun x u q u' q' => ?_, upd_same, h⟩
  · by_cases e : x = a
    · subst e; rw [upd_same] at q; rw [upd_same]; exact q
    · rw [upd_ne e] at q; cases q
  · rw [upd_ne (ne_of_none q n)]; exact q
  · by_cases e : x = a
    · subst e; rw [n] at q'; cases q'
    · rw [upd_ne e] at q; cases q
theorem Sep.setHd {a : Addr} {o o' : HO} {F : List As} {H : Hp} (h : Sep (pt a o :: F) H) (m : Imm o = false) : Sep (pt a o' :: F) (upd H a o') := by
  obtain ⟨H1, H2, l1, l2, d, q, y⟩ := h
  have n : H2 a = none := by
    cases e : H2 a with
    | none => rfl
    | some u => have z := (d a o q u e).1; rw [m] at z; cases z
  refine ⟨upd H1 a o', H2, fun x u q => ?_, fun x u q => ?_, fun x u q u' q' => ?_, upd_same, y⟩
  · by_cases e : x = a
    · subst e; rw [upd_same] at q; rw [upd_same]; exact q
    · rw [upd_ne e] at q; rw [upd_ne e]; exact l1 _ _ q
  · rw [upd_ne (ne_of_none q n)]; exact l2 _ _ q
  · by_cases e : x = a
    · subst e; rw [n] at q'; cases q'
    · rw [upd_ne e] at q; exact d x u q u' q'
/-- c in cs is c' in cs' -/
inductive Chg : As → As → List As → List As → Prop
  | here {c c' cs} : Chg c c' (c :: cs) (c' :: cs)
  | there {c c' d cs cs'} : Chg c c' cs cs' → Chg c c' (d :: cs) (d :: cs')
theorem Chg.pick {c c' : As} {cs cs' : List As} (g : Chg c c' cs cs') : ∃ ds, Pick c cs ds ∧ Pick c' cs' ds := by
  induction g with
  | here => exact ⟨_, .here, .here⟩
  | there g ih =>
    obtain ⟨ds, h1, h2⟩ := ih
    exact ⟨_, .there h1, .there h2⟩
theorem Sep.set {a : Addr} {o o' : HO} {cs cs' : List As} {H : Hp} (h : Sep cs H) (g : Chg (pt a o) (pt a o') cs cs') (m : Imm o = false) : Sep cs' (upd H a o') := by
  obtain ⟨ds, p1, p2⟩ := g.pick
  exact Sep.unpick p2 ((Sep.pick p1 h).setHd m)
theorem Sep.chg {c c' : As} {cs cs' : List As} {H : Hp} (h : Sep cs H) (g : Chg c c' cs cs') (f : ∀ H, c H → c' H) : Sep cs' H := by
  obtain ⟨ds, p1, p2⟩ := g.pick
  exact Sep.unpick p2 ((Sep.pick p1 h).imp f)
theorem Sep.dup {t : Addr} {xs : List V} {F : List As} {H : Hp} (h : Sep (pt t (.tup xs) :: F) H) : Sep (pt t (.tup xs) :: pt t (.tup xs) :: F) H := by
  obtain ⟨H1, H2, l1, l2, d, q, y⟩ := h
  let G : Hp := upd (fun _ => none) t (.tup xs)
  have hG : G t = some (.tup xs) := upd_same
  have lG : Le G H1 := fun x u e => by
    by_cases z : x = t
    · subst z; rw [hG] at e; cases e; exact q
    · rw [show G x = none from upd_ne z] at e; cases e
  have im : ∀ x u, G x = some u → Imm u = true := fun x u e => by
    by_cases z : x = t
    · subst z; rw [hG] at e; cases e; rfl
    · rw [show G x = none from upd_ne z] at e; cases e
  refine ⟨G, uni G H2, lG.trans l1, uni_le (lG.trans l1) l2, fun x u e u' e' => ?_, hG, G, H2, le_uni1, le_uni2 (lG.trans l1) l2, d.le lG (Le.refl _), hG, y⟩
  refine ⟨im x u e, ?_⟩
  rcases uni_or e' with e' | e'
  · exact im x u' e'
  · exact (d x u (lG x u e) u' e').2
/-- two chunks that are owned stand at two places -/
theorem Sep.ne {a b : Addr} {o u : HO} {F : List As} {H : Hp} (h : Sep (pt a o :: pt b u :: F) H) (m : Imm o = false) : a ≠ b := by
  obtain ⟨H1, H2, l1, l2, d, q, H3, H4, l3, l4, d2, q2, y⟩ := h
  intro e
  subst e
  have z := (d a o q u (l3 _ _ q2)).1
  rw [m] at z
  cases z
/-- the law's list, read alone -/
def sq (K : PySem.W.Frag) (a : Addr) (xs : List V) : As := fun H => SqL K H a xs
theorem Sep.sq {K : PySem.W.Frag} {a : Addr} {xs : List V} {cs ds : List As} {H : Hp} (h : Sep cs H) (p : Pick (Zs.sq K a xs) cs ds) : SqL K H a xs := by
  obtain ⟨H1, H2, l, _, _, q, _⟩ := h.pick p
  rcases q with (q | ⟨o, q⟩) | q
  · exact .inl (.inl (l _ _ q))
  · exact .inl (.inr ⟨o, l _ _ q⟩)
  · exact .inr q
/-- ds stands in cs, the rest is let go -/
inductive Wk : List As → List As → Prop
  | refl {cs} : Wk cs cs
  | pick {c cs ds es} : Pick c cs ds → Wk ds es → Wk cs (c :: es)
  | drop {c cs ds} : Wk cs ds → Wk (c :: cs) ds
theorem Wk.sep {cs ds : List As} (k : Wk cs ds) {H : Hp} (h : Sep cs H) : Sep ds H := by
  induction k generalizing H with
  | refl => exact h
  | pick p k ih => exact Sep.cons (fun _ => ih) (Sep.pick p h)
  | drop k ih => exact ih h.tail
theorem Sep.nil (H : Hp) : Sep [] H := trivial
end L2.Zs
namespace L2.Zs
open PySem PySem.Spec PyProof.Rows
/-! ## calls, whatever they let out is W's -/
section
variable {P : Program} {w : World} {K : PySem.W.Frag} {mg : Str → Option Value} {base : Heap}
/-- the def that the module calls x keeps sp -/
def Cal (P : Program) (w : World) (K : PySem.W.Frag) (mg : Str → Option Value) (base : Heap) (k : Nat) (x : Str) (sp : Sp) : Prop :=
  ∃ f fd ps, FnOk P w K mg base (L2.CX P w) k f fd ps sp ∧ mg x = some (.ref f) ∧ PySem.W.keepIn K (.ref f) = true ∧ Binds K fd ps []
/-- the method m of the class at C keeps sp -/
def Met (P : Program) (w : World) (K : PySem.W.Frag) (mg : Str → Option Value) (base : Heap) (k : Nat) (C : Addr) (m : Str) (sp : Sp) : Prop :=
  ∃ f fd ps, FnOk P w K mg base (L2.CX P w) k f fd ps sp ∧ Meth K C m f ∧ Cls K C ∧ Binds K fd ps []
/-- the class that the module calls x, at C, is made by sp -/
def Mak (P : Program) (w : World) (K : PySem.W.Frag) (mg : Str → Option Value) (base : Heap) (k : Nat) (x : Str) (C : Addr) (sp : Sp) : Prop :=
  ∃ f fd ps, FnOk P w K mg base (L2.CX P w) k f fd ps sp ∧ mg x = some (.ref C) ∧ Mk K C f ∧ Binds K fd ps []
end
def tMt (Cs : List Addr) (m : Str) (sp : Addr → Sp) (E : St → XK) (ta : TE) (t : TA) : TE := fun σ H Q => ta σ H fun x H1 => ∃ a C dx fs, x = .ref a ∧ H1 a = some (.ins C dx fs) ∧ C ∈ Cs ∧ fs.lookup m = none ∧
  t σ H1 fun vs H2 => sp C (x :: vs) H2 Q (E σ)
def tMk (C : Addr) (sp : Sp) (E : St → XK) (t : TA) : TE := fun σ H Q => t σ H fun vs H1 => ∀ x dx, H1 x = none → H1 dx = none → dx ≠ x →
  sp (.ref x :: vs) (upd (upd H1 dx (.own x)) x (.ins C dx [])) (fun v H2 => v = .non ∧ Q (.ref x) H2) (E σ)
section
variable {X : Cx} {W : WX} {k j : Nat} {f C : Addr} {fd : FuncData} {ps : List Str} {sp : Sp} {x m : Str} {p pos apos : Pos} {e o : Expr} {es : List Expr} {ta : TE} {t : TA}
theorem run_makeS {pins : List (Addr × Obj)} {σ : St} {H : Hp} {s : Shared} {Q : VK} {us : List Value} {vs : List V} {E : St → XK} (M : Mk X.K C f) (F : FnOk X.prog X.w X.K X.mg X.base (L2.CX X.prog X.w) k f fd ps sp) (hr : Room (k + 1) X.A) (hb : Binds X.K fd ps [])
    (hx : PassesAt (L2.CX X.prog X.w) X σ (E σ)) (I : Inv X pins σ H s) (r : Vals vs us)
    (h : ∀ x dx, H x = none → H dx = none → dx ≠ x → sp (.ref x :: vs) (upd (upd H dx (.own x)) x (.ins C dx [])) (fun v H2 => v = .non ∧ Q (.ref x) H2) (E σ)) :
    wpAny (model X.prog X.w) X.A (call (.ref C) us) (EP X pins σ Q) X.xe s := by
  have hq := h (s.heap.objs.size + 1) s.heap.objs.size (I.hok.fresh (Nat.le_succ _)) (I.hok.fresh (Nat.le_refl _)) (Nat.ne_of_lt (Nat.lt_succ_self _))
  have I2 := Inv.made (C := C) I
  have r2 : Vals (V.ref (s.heap.objs.size + 1) :: vs) (Value.ref (s.heap.objs.size + 1) :: us) := .cons rfl r
  have hl : (Value.ref (s.heap.objs.size + 1) :: us).length = ps.length := by
    have e := r2.length
    rw [F.len _ _ _ _ hq] at e
    exact e.symm
  have hb' := hb _ (Value.ref (s.heap.objs.size + 1) :: us) I2.kIn (by rw [List.append_nil]; exact hl)
  rw [List.append_nil] at hb'
  refine wpAny_call (make_map (f := f) I.kIn M.makes M.init (beq_iff_eq.mp M.fn) (codeAny_mono (F.run _ X.stack _ _ ⟨Value.ref (s.heap.objs.size + 1) :: us, []⟩ (Value.ref (s.heap.objs.size + 1) :: us) _ _ (E σ) (hr.make C us [])
    (I2.env0.make C us []) hb' r2 hq) fun r s' hq' => ?_))
  cases r with
  | error e => exact hx pins _ _ e s' I2 hq'
  | ok fl =>
    cases fl with
    | ret u =>
      obtain ⟨v, H', I3, rv, ev, q3⟩ := I2.after hq'
      subst ev
      exact ⟨rv, ⟨V.ref (s.heap.objs.size + 1), H', I3, rfl, q3⟩⟩
    | next => exact False.elim hq'
    | brk => exact False.elim hq'
    | cont => exact False.elim hq'
theorem z_call (c : Cal X.prog X.w X.K X.mg X.base k x sp) (tk : Takes X W) (hr : Room j X.A) (hk : k ≤ j) (hg : Gl X x) (ha : PA X (e :: es) t) (hdb : (x == ("__debug__" : Str)) = false := by decide)
    (he : starEach (e :: es) X.env = (false, eval e X.env) :: starEach es X.env := by rfl) (hpl : (backTo pos (starEach es X.env)).any (·.1) = false := by rfl) :
    PE X (.Call (.Name x p) (e :: es) [] pos) (tCallS sp (WE W) t) := by
  obtain ⟨f, fd, ps, F, hm, kp, hb⟩ := c
  exact pe_callS F (hr.mono hk) hg hm kp hb (passAt tk) ha hdb he hpl
theorem z_call0 (c : Cal X.prog X.w X.K X.mg X.base k x sp) (tk : Takes X W) (hr : Room j X.A) (hk : k ≤ j) (hg : Gl X x) (hdb : (x == ("__debug__" : Str)) = false := by decide) :
    PE X (.Call (.Name x p) [] [] pos) (tCallS sp (WE W) tNil) := by
  obtain ⟨f, fd, ps, F, hm, kp, hb⟩ := c
  refine ⟨fun pins s σ H Q I h => ?_⟩
  refine wpAny_Call_Name_kw (ld_glob I hg hm ?_ hdb)
  exact PySem.W.callWith_K0 I.kIn kp (run_fnS (us := []) F (hr.mono hk) hb (passAt tk σ) I .nil h)
theorem z_make (c : Mak X.prog X.w X.K X.mg X.base k x C sp) (tk : Takes X W) (hr : Room j X.A) (hk : k + 1 ≤ j) (hg : Gl X x) (ha : PA X (e :: es) t) (hdb : (x == ("__debug__" : Str)) = false := by decide)
    (he : starEach (e :: es) X.env = (false, eval e X.env) :: starEach es X.env := by rfl) (hpl : (backTo pos (starEach es X.env)).any (·.1) = false := by rfl) :
    PE X (.Call (.Name x p) (e :: es) [] pos) (tMk C sp (WE W) t) := by
  obtain ⟨f, fd, ps, F, hm, M, hb⟩ := c
  refine ⟨fun pins s σ H Q I h => ?_⟩
  refine wpAny_Call_Name_kw (ld_glob I hg hm ?_ hdb)
  refine PySem.W.callWith_K (h₀ := X.base) I.ok.mod.kin M.kp (thn (ha.run pos pins s σ H _ I h) fun us s1 ⟨vs, H1, I1, r, q⟩ => ⟨I1.kIn, ?_⟩) he hpl
  exact run_makeS M F (hr.mono hk) hb (passAt tk σ) I1 r q
theorem z_make0 (c : Mak X.prog X.w X.K X.mg X.base k x C sp) (tk : Takes X W) (hr : Room j X.A) (hk : k + 1 ≤ j) (hg : Gl X x) (hdb : (x == ("__debug__" : Str)) = false := by decide) :
    PE X (.Call (.Name x p) [] [] pos) (tMk C sp (WE W) tNil) := by
  obtain ⟨f, fd, ps, F, hm, M, hb⟩ := c
  refine ⟨fun pins s σ H Q I h => ?_⟩
  refine wpAny_Call_Name_kw (ld_glob I hg hm ?_ hdb)
  exact PySem.W.callWith_K0 I.kIn M.kp (run_makeS (us := []) M F (hr.mono hk) hb (passAt tk σ) I .nil h)
theorem z_meth {pl : Sem Bool} {Cs : List Addr} {sp : Addr → Sp} (he : PE X o ta) (c : ∀ C ∈ Cs, Met X.prog X.w X.K X.mg X.base k C m (sp C)) (tk : Takes X W) (hr : Room j X.A) (hk : k ≤ j) (ha : PA X (e :: es) t)
    (hst : starEach (e :: es) X.env = (false, eval e X.env) :: starEach es X.env := by rfl) (hpl : (backTo pos (starEach es X.env)).any (·.1) = false := by rfl)
    (ht : eval (.Call (.Attribute o m apos) (e :: es) [] pos) X.env = (do
      let ov ← eval o X.env
      standAt apos.atName
      let (f, first) ← holding [ov] (getMethod ov m pl)
      callWith pos f first (backTo pos (starEach (e :: es) X.env)) (backToKw pos (keywordEach [] X.env))) := by rfl) :
    PE X (.Call (.Attribute o m apos) (e :: es) [] pos) (tMt Cs m sp (WE W) ta t) := by
  refine ⟨fun pins s σ H Q I h => ?_⟩
  refine PySem.W.methodCall_KW (pl := pl) (thn (he.run pins s σ H _ I h) fun u s1 ⟨x, H1, I1, rx, a, C, dx, fs, ex, ea, hC, l, q⟩ => ?_) ht
  subst ex
  obtain rfl : u = Value.ref a := rx
  obtain ⟨f, fd, ps, F, hm, cl, hb⟩ := c C hC
  refine getmeth_ok I1 ea cl hm l ?_
  refine PySem.W.callWith_K (first := [.ref a]) (h₀ := X.base) I.ok.mod.kin hm.kp (thn (ha.run pos pins s1 σ H1 _ I1 q) fun us s2 ⟨vs, H2, I2, r, q2⟩ => ⟨I2.kIn, ?_⟩) hst hpl
  exact run_fnS (us := .ref a :: us) (vs := .ref a :: vs) F (hr.mono hk) hb (passAt tk σ) I2 (.cons rfl r) q2
theorem z_meth0 {pl : Sem Bool} {Cs : List Addr} {sp : Addr → Sp} (he : PE X o ta) (c : ∀ C ∈ Cs, Met X.prog X.w X.K X.mg X.base k C m (sp C)) (tk : Takes X W) (hr : Room j X.A) (hk : k ≤ j)
    (ht : eval (.Call (.Attribute o m apos) [] [] pos) X.env = (do
      let ov ← eval o X.env
      standAt apos.atName
      let (f, first) ← holding [ov] (getMethod ov m pl)
      callWith pos f first (backTo pos (starEach [] X.env)) (backToKw pos (keywordEach [] X.env))) := by rfl) :
    PE X (.Call (.Attribute o m apos) [] [] pos) (tMt Cs m sp (WE W) ta tNil) := by
  refine ⟨fun pins s σ H Q I h => ?_⟩
  refine PySem.W.methodCall_KW (pl := pl) (thn (he.run pins s σ H _ I h) fun u s1 ⟨x, H1, I1, rx, a, C, dx, fs, ex, ea, hC, l, q⟩ => ?_) ht
  subst ex
  obtain rfl : u = Value.ref a := rx
  obtain ⟨f, fd, ps, F, hm, cl, hb⟩ := c C hC
  refine getmeth_ok I1 ea cl hm l ?_
  exact PySem.W.callWith_K0 (first := [.ref a]) I1.kIn hm.kp (run_fnS (us := [.ref a]) (vs := [.ref a]) F (hr.mono hk) hb (passAt tk σ) I1 (.cons rfl .nil) q)
end
/-! ## operators of several kinds -/
theorem OpR.or {X : Cx} {f : Value → Value → Sem Value} {r r' : R2} (h : OpR X f r) (h' : OpR X f r') : OpR X f (fun x y H Q => r x y H Q ∨ r' x y H Q) := by
  intro pins s σ H x y v u Q I rx ry q
  rcases q with q | q
  · exact h pins s σ H x y v u Q I rx ry q
  · exact h' pins s σ H x y v u Q I rx ry q
def rAddS : R2 := fun x y H Q => ∃ i j, x = .str i ∧ y = .str j ∧ i.length + j.length ≤ sizeLine ∧ Q (.str (i ++ j)) H
def rAddZ : R2 := fun x y H Q => rI0 (fun i j => .int (i + j)) x y H Q ∨ rAddS x y H Q ∨ rCat x y H Q
def rMulZ : R2 := fun x y H Q => rI CMul (fun i j => .int (i * j)) x y H Q ∨ rRep x y H Q
def rMod : R2 := rI (fun _ j => 0 < j) fun i j => .int (i % j)
def rDiv : R2 := rI CDivW fun i j => .int (i / j)
def rSubI : R2 := rI0 fun i j => .int (i - j)
def rPow : R2 := rI CPow fun i j => .int (i ^ j.toNat)
def rLt : R2 := rI0 fun i j => .bl (decide (i < j))
def rLe : R2 := rI0 fun i j => .bl (decide (i ≤ j))
def rGt : R2 := rI0 fun i j => .bl (decide (j < i))
def rGe : R2 := rI0 fun i j => .bl (decide (j ≤ i))
def rEqZ (K : PySem.W.Frag) : R2 := fun x y H Q => rEq x y H Q ∨ rEqD K x y H Q
def rNeZ (K : PySem.W.Frag) : R2 := fun x y H Q => rNe x y H Q ∨ rNeD K x y H Q
def rIsN : R2 := fun x y H Q => y = .non ∧ Q (.bl (decide (x = .non))) H
def rNotN : R2 := fun x y H Q => y = .non ∧ Q (.bl (!decide (x = .non))) H
def rInS : R2 := fun x y H Q => ∃ (c : Nat) (z : Str), x = .str ⟨#[c]⟩ ∧ y = .str z ∧ Q (.bl (decide (c ∈ z.cps.toList))) H
def rNotInS : R2 := fun x y H Q => ∃ (c : Nat) (z : Str), x = .str ⟨#[c]⟩ ∧ y = .str z ∧ Q (.bl (!decide (c ∈ z.cps.toList))) H
section
variable {X : Cx}
theorem zo_add : OpR X (binaryOp .Add) rAddZ := OpR.or op_add (OpR.or op_add_str op_cat)
theorem zo_mul : OpR X (binaryOp .Mult) rMulZ := OpR.or op_mul op_rep
theorem zo_mod : OpR X (binaryOp .Mod) rMod := op_mod
theorem zo_div : OpR X (binaryOp .FloorDiv) rDiv := op_fdivW
theorem zo_sub : OpR X (binaryOp .Sub) rSubI := op_sub
theorem zo_pow : OpR X (binaryOp .Pow) rPow := op_pow
theorem zo_lt : OpR X (compareOp .Lt) rLt := op_lt
theorem zo_le : OpR X (compareOp .LtE) rLe := op_le
theorem zo_gt : OpR X (compareOp .Gt) rGt := op_gt
theorem zo_ge : OpR X (compareOp .GtE) rGe := op_ge
theorem zo_eq (hu : X.A.units + 64 < cLine) : OpR X (compareOp .Eq) (rEqZ X.K) := OpR.or op_eq (op_eqD hu)
theorem zo_ne (hu : X.A.units + 64 < cLine) : OpR X (compareOp .NotEq) (rNeZ X.K) := OpR.or op_ne (op_neD hu)
theorem zo_isN : OpR X (compareOp .Is) rIsN := op_isN
theorem zo_notN : OpR X (compareOp .IsNot) rNotN := op_notN
theorem zo_inS : OpR X (compareOp .In) rInS := op_in_sign
theorem zo_notInS : OpR X (compareOp .NotIn) rNotInS := op_notIn_sign
theorem zo_inQ : OpR X (compareOp .In) (rIn X.K false) := op_in_seq
theorem zo_notInQ : OpR X (compareOp .NotIn) (rIn X.K true) := op_notIn_seq
end
def tTru (K : PySem.W.Frag) (ta : TE) : TT := fun σ H Q => ta σ H fun x H' => ∃ k, TruV K x H' k ∧ Q k H'
theorem z_tru {X : Cx} {a : Expr} {ta : TE} (ha : PE X a ta) (he : ∀ whole, isTrue a X.env whole = (do let v ← whole; standAt a.pos; holding [v] (truthy v)) := by intro _; rfl) : PT X a (tTru X.K ta) := pt_truth ha he
end L2.Zs
namespace L2.Zs
open PySem PySem.Spec PyProof.Rows
/-! named tails -/
def NewTup (xs : List V) (Q : VK) (H : Hp) : Prop := xs.length ≤ sizeLine ∧ ∀ p, H p = none → Q (.ref p) (upd H p (.tup xs))
def NewLst (xs : List V) (Q : VK) (H : Hp) : Prop := xs.length ≤ sizeLine ∧ ∀ p, H p = none → Q (.ref p) (upd H p (.lst xs))
def FldGet (K : PySem.W.Frag) (f : Str) (x : V) (Q : VK) (H : Hp) : Prop := ∃ a C dx fs v, x = .ref a ∧ H a = some (.ins C dx fs) ∧ Cls K C ∧ NoAttr K C f ∧ fs.lookup f = some v ∧ Q v H
def FldSet (K : PySem.W.Frag) (f : Str) (x y : V) (R : Hp → Prop) (H : Hp) : Prop := ∃ a C dx fs, x = .ref a ∧ H a = some (.ins C dx fs) ∧ Cls K C ∧ NoAttr K C f ∧ fs.length < 1000 ∧ R (upd H a (.ins C dx (putF f y fs)))
def MtGo (Cs : List Addr) (m : Str) (x : V) (R : Addr → Hp → Prop) (H : Hp) : Prop := ∃ a C dx fs, x = .ref a ∧ H a = some (.ins C dx fs) ∧ C ∈ Cs ∧ fs.lookup m = none ∧ R C H
def MkGo (C : Addr) (sp : Sp) (E : XK) (vs : List V) (Q : VK) (H : Hp) : Prop := ∀ x dx, H x = none → H dx = none → dx ≠ x → sp (.ref x :: vs) (upd (upd H dx (.own x)) x (.ins C dx [])) (fun v H2 => v = .non ∧ Q (.ref x) H2) E
def rLen (K : PySem.W.Frag) : List V → Hp → VK → Prop := fun xs H Q => ∃ x n, xs = [x] ∧ LenV K x H n ∧ Q (.int n) H
def rStrI : List V → Hp → VK → Prop := fun xs H Q => ∃ i, xs = [.int i] ∧ i.natAbs.log2 < 1920 ∧ Q (.str (toString i)) H
def rInt1 : List V → Hp → VK → Prop := fun xs H Q => (∃ i, xs = [.int i] ∧ Q (.int i) H) ∨ ∃ k, xs = [.bl k] ∧ Q (.int (if k then 1 else 0)) H
def rIntS : List V → Hp → VK → Prop := fun xs H Q => ∃ a n, xs = [.str a] ∧ PySem.intText? a = some n ∧ a.length ≤ 640 ∧ Q (.int n) H
def rMin2 : List V → Hp → VK → Prop := fun xs H Q => ∃ i j, xs = [.int i, .int j] ∧ Q (.int (if j < i then j else i)) H
def rMax2 : List V → Hp → VK → Prop := fun xs H Q => ∃ i j, xs = [.int i, .int j] ∧ Q (.int (if j > i then j else i)) H
section
variable {X : Cx}
theorem z_len : CallR X (.builtin "len") (rLen X.K) := call_len
theorem z_strI : CallR X (.type "str") rStrI := call_str_int
theorem z_int1 : CallR X (.type "int") rInt1 := call_int1
theorem z_min2 (hc : X.calm = true) : CallR X (.builtin "min") rMin2 := call_min2 hc
theorem z_max2 (hc : X.calm = true) : CallR X (.builtin "max") rMax2 := call_max2 hc
theorem z_intS : CallR X (.type "int") rIntS := call_int_str
end
/-! ## readings, step by step -/
section
variable {K : PySem.W.Frag} {σ : St} {H : Hp} {Q : VK} {v x y : V} {ta tb tc te : TE} {t u : TT} {a b c p q C dx : Addr} {cs ds cs' : List As} {D : Ends} {t1 t2 : TS} {QA : List V → Hp → Prop} {QT : Bool → Hp → Prop} {tr : TA} {xs ys : List V} {i j : Int} {z z' : Str}
theorem s_var {i : Nat} (h : σ[i]? = some (some v)) (k : Q v H) : tVar i σ H Q := ⟨v, h, k⟩
theorem s_c (k : Q v H) : tC v σ H Q := k
theorem s_op {r : R2} (k : ta σ H fun x H1 => tb σ H1 fun y H2 => r x y H2 Q) : tOp r ta tb σ H Q := k
theorem s_un {r : V → Hp → VK → Prop} (k : ta σ H fun x H1 => r x H1 Q) : tUn r ta σ H Q := k
theorem s_addI (k : Q (.int (i + j)) H) : rAddZ (.int i) (.int j) H Q := .inl ⟨i, j, rfl, rfl, k⟩
theorem s_addS (h : z.length + z'.length ≤ sizeLine) (k : Q (.str (z ++ z')) H) : rAddZ (.str z) (.str z') H Q := .inr (.inl ⟨z, z', rfl, rfl, h, k⟩)
theorem s_addL (S : Sep cs H) (p1 : Pick (pt a (.lst xs)) cs ds) (p2 : Pick (pt b (.lst ys)) cs cs') (h : xs.length + ys.length ≤ sizeLine) (k : ∀ p H', Sep (pt p (.lst (xs ++ ys)) :: cs) H' → Q (.ref p) H') : rAddZ (.ref a) (.ref b) H Q :=
  .inr (.inr ⟨a, b, xs, ys, rfl, rfl, S.get p1, S.get p2, h, fun p n => k p _ (S.new n)⟩)
theorem s_mulI (h : CMul i j) (k : Q (.int (i * j)) H) : rMulZ (.int i) (.int j) H Q := .inl ⟨i, j, rfl, rfl, h, k⟩
theorem s_mulL (S : Sep cs H) (p1 : Pick (pt a (.lst xs)) cs ds) (h0 : -(2 ^ 63) ≤ j) (h1 : j < 2 ^ 63) (h : xs.length * j.toNat ≤ sizeLine) (k : ∀ p H', Sep (pt p (.lst (List.replicate j.toNat xs).flatten) :: cs) H' → Q (.ref p) H') : rMulZ (.ref a) (.int j) H Q := by
  refine .inr ⟨a, j, xs, rfl, rfl, S.get p1, h0, h1, h, fun p n => ?_⟩
  first
    | exact k p _ (S.new n)
    | (have := k p _ (S.new n); simpa using this)
theorem s_sub (k : Q (.int (i - j)) H) : rSubI (.int i) (.int j) H Q := ⟨i, j, rfl, rfl, k⟩
theorem s_mod (h : 0 < j) (k : Q (.int (i % j)) H) : rMod (.int i) (.int j) H Q := ⟨i, j, rfl, rfl, h, k⟩
theorem s_div (h : CDivW i j) (k : Q (.int (i / j)) H) : rDiv (.int i) (.int j) H Q := ⟨i, j, rfl, rfl, h, k⟩
theorem s_pow (h : CPow i j) (k : Q (.int (i ^ j.toNat)) H) : rPow (.int i) (.int j) H Q := ⟨i, j, rfl, rfl, h, k⟩
theorem s_lt (k : Q (.bl (decide (i < j))) H) : rLt (.int i) (.int j) H Q := ⟨i, j, rfl, rfl, k⟩
theorem s_le (k : Q (.bl (decide (i ≤ j))) H) : rLe (.int i) (.int j) H Q := ⟨i, j, rfl, rfl, k⟩
theorem s_gt (k : Q (.bl (decide (j < i))) H) : rGt (.int i) (.int j) H Q := ⟨i, j, rfl, rfl, k⟩
theorem s_ge (k : Q (.bl (decide (j ≤ i))) H) : rGe (.int i) (.int j) H Q := ⟨i, j, rfl, rfl, k⟩
theorem s_isN (k : Q (.bl (decide (x = .non))) H) : rIsN x .non H Q := ⟨rfl, k⟩
theorem s_notN (k : Q (.bl (!decide (x = .non))) H) : rNotN x .non H Q := ⟨rfl, k⟩
theorem s_eq (h : scal x y = true) (k : Q (.bl (decide (x = y))) H) : rEqZ K x y H Q := .inl ⟨h, k⟩
theorem s_ne (h : scal x y = true) (k : Q (.bl (!decide (x = y))) H) : rNeZ K x y H Q := .inl ⟨h, k⟩
theorem s_eqI (k : Q (.bl (decide (i = j))) H) : rEqZ K (.int i) (.int j) H Q := by
  refine .inl ⟨rfl, ?_⟩
  have e : decide (V.int i = V.int j) = decide (i = j) := by simp only [V.int.injEq]
  rw [e]
  exact k
theorem s_neI (k : Q (.bl (!decide (i = j))) H) : rNeZ K (.int i) (.int j) H Q := by
  refine .inl ⟨rfl, ?_⟩
  have e : decide (V.int i = V.int j) = decide (i = j) := by simp only [V.int.injEq]
  rw [e]
  exact k
theorem s_eqS (k : Q (.bl (decide (z = z'))) H) : rEqZ K (.str z) (.str z') H Q := by
  refine .inl ⟨rfl, ?_⟩
  have e : decide (V.str z = V.str z') = decide (z = z') := by simp only [V.str.injEq]
  rw [e]
  exact k
theorem s_neS (k : Q (.bl (!decide (z = z'))) H) : rNeZ K (.str z) (.str z') H Q := by
  refine .inl ⟨rfl, ?_⟩
  have e : decide (V.str z = V.str z') = decide (z = z') := by simp only [V.str.injEq]
  rw [e]
  exact k
theorem s_eqD {d e : PyData} (hd : Dp K H x d) (he : Dp K H y e) (h1 : SeqAt.shaped d = true) (h2 : SeqAt.shaped e = true) (k : Q (.bl (PyData.eqv d e)) H) : rEqZ K x y H Q := .inr ⟨d, e, hd, he, h1, h2, k⟩
theorem s_neD {d e : PyData} (hd : Dp K H x d) (he : Dp K H y e) (h1 : SeqAt.shaped d = true) (h2 : SeqAt.shaped e = true) (k : Q (.bl (!PyData.eqv d e)) H) : rNeZ K x y H Q := .inr ⟨d, e, hd, he, h1, h2, k⟩
theorem s_inS {c : Nat} (k : Q (.bl (decide (c ∈ z.cps.toList))) H) : rInS (.str ⟨#[c]⟩) (.str z) H Q := ⟨c, z, rfl, rfl, k⟩
theorem s_notInS {c : Nat} (k : Q (.bl (!decide (c ∈ z.cps.toList))) H) : rNotInS (.str ⟨#[c]⟩) (.str z) H Q := ⟨c, z, rfl, rfl, k⟩
theorem s_inL (S : Sep cs H) (p1 : Pick (pt a (.lst xs)) cs ds) (hx : flatV x = true) (hs : xs.all flatV = true) (k : Q (.bl (inV x xs)) H) : rIn K false x (.ref a) H Q := ⟨a, xs, rfl, .inl (SqL.of (S.get p1)), hx, hs, k⟩
theorem s_notInL (S : Sep cs H) (p1 : Pick (pt a (.lst xs)) cs ds) (hx : flatV x = true) (hs : xs.all flatV = true) (k : Q (.bl (!inV x xs)) H) : rIn K true x (.ref a) H Q := ⟨a, xs, rfl, .inl (SqL.of (S.get p1)), hx, hs, k⟩
theorem s_inT (S : Sep cs H) (p1 : Pick (pt a (.tup xs)) cs ds) (hx : flatV x = true) (hs : xs.all flatV = true) (k : Q (.bl (inV x xs)) H) : rIn K false x (.ref a) H Q := ⟨a, xs, rfl, .inr (SqT.of (S.get p1)), hx, hs, k⟩
theorem s_notInT (S : Sep cs H) (p1 : Pick (pt a (.tup xs)) cs ds) (hx : flatV x = true) (hs : xs.all flatV = true) (k : Q (.bl (!inV x xs)) H) : rIn K true x (.ref a) H Q := ⟨a, xs, rfl, .inr (SqT.of (S.get p1)), hx, hs, k⟩
/-- items by place -/
theorem s_ixL (S : Sep cs H) (p1 : Pick (pt a (.lst xs)) cs ds) (h : atI xs i = some v) (k : Q v H) : rIx K (.ref a) (.int i) H Q := .inl ⟨a, xs, i, v, rfl, rfl, SqL.of (S.get p1), h, k⟩
theorem s_ixQ (S : Sep cs H) (p1 : Pick (sq K a xs) cs ds) (h : atI xs i = some v) (k : Q v H) : rIx K (.ref a) (.int i) H Q := .inl ⟨a, xs, i, v, rfl, rfl, S.sq p1, h, k⟩
theorem s_ixT (S : Sep cs H) (p1 : Pick (pt a (.tup xs)) cs ds) (h : atI xs i = some v) (k : Q v H) : rIx K (.ref a) (.int i) H Q := .inr (.inl ⟨a, xs, i, v, rfl, rfl, SqT.of (S.get p1), h, k⟩)
theorem s_ixS {c : Nat} (h0 : z.length ≤ sizeLine) (h : atI z.cps.toList i = some c) (k : Q (.str ⟨#[c]⟩) H) : rIx K (.str z) (.int i) H Q := .inr (.inr ⟨z, i, c, rfl, rfl, h0, h, k⟩)
/-! tests -/
theorem s_test (k : te σ H fun x H' => ∃ k, x = .bl k ∧ QT k H') : tTest te σ H QT := k
theorem s_tB (k : te σ H fun x H' => ∃ k, x = .bl k ∧ QT k H') : tB te σ H QT := k
theorem s_bl {b : Bool} {R : Bool → Prop} (k : R b) : ∃ c, V.bl b = .bl c ∧ R c := ⟨b, rfl, k⟩
theorem s_tru (k : te σ H fun x H' => ∃ k, TruV K x H' k ∧ QT k H') : tTru K te σ H QT := k
theorem s_truB {b : Bool} {R : Bool → Prop} (k : R b) : ∃ c, TruV K (.bl b) H c ∧ R c := ⟨b, rfl, k⟩
theorem s_truN {R : Bool → Prop} (k : R false) : ∃ c, TruV K .non H c ∧ R c := ⟨false, rfl, k⟩
theorem s_truI {R : Bool → Prop} (k : R (i != 0)) : ∃ c, TruV K (.int i) H c ∧ R c := ⟨_, rfl, k⟩
theorem s_truS {R : Bool → Prop} (h : z.length ≤ sizeLine) (k : R ((z.length : Int) != 0)) : ∃ c, TruV K (.str z) H c ∧ R c := ⟨_, ⟨h, rfl⟩, k⟩
theorem s_truL {R : Bool → Prop} (S : Sep cs H) (p1 : Pick (pt a (.lst xs)) cs ds) (k : R (!xs.isEmpty)) : ∃ c, TruV K (.ref a) H c ∧ R c := ⟨_, .inl ⟨xs, SqL.of (S.get p1), rfl⟩, k⟩
theorem s_truT {R : Bool → Prop} (S : Sep cs H) (p1 : Pick (pt a (.tup xs)) cs ds) (k : R (!xs.isEmpty)) : ∃ c, TruV K (.ref a) H c ∧ R c := ⟨_, .inr (.inl ⟨xs, SqT.of (S.get p1), rfl⟩), k⟩
theorem s_and (k : t σ H fun c H1 => if c = true then u σ H1 QT else QT false H1) : tAnd t u σ H QT := k
theorem s_or (k : t σ H fun c H1 => if c = true then QT true H1 else u σ H1 QT) : tOr t u σ H QT := k
theorem s_not (k : t σ H fun c H1 => QT (!c) H1) : tNot t σ H QT := k
theorem s_andV (k : ta σ H fun x H1 => ∃ c, x = .bl c ∧ if c = true then tb σ H1 Q else Q (.bl false) H1) : tAndV ta tb σ H Q := k
theorem s_orV (k : ta σ H fun x H1 => ∃ c, x = .bl c ∧ if c = true then Q (.bl true) H1 else tb σ H1 Q) : tOrV ta tb σ H Q := k
theorem s_notV (k : ta σ H fun x H1 => ∃ c, x = .bl c ∧ Q (.bl (!c)) H1) : tNotV ta σ H Q := k
theorem s_if (k : t σ H fun c H1 => if c = true then ta σ H1 Q else tb σ H1 Q) : tIf t ta tb σ H Q := k
theorem s_orT (k : ta σ H fun x H1 => ∃ k, TruV K x H1 k ∧ if k = true then Q x H1 else tb σ H1 Q) : tOrT K ta tb σ H Q := k
theorem s_t {A B : Prop} (k : A) : if true = true then A else B := by rw [if_pos rfl]; exact k
theorem s_f {A B : Prop} (k : B) : if false = true then A else B := by rw [if_neg Bool.false_ne_true]; exact k
theorem s_ite {b : Bool} {A B : Prop} (h1 : b = true → A) (h2 : b = false → B) : if b = true then A else B := by
  cases b with
  | true => exact s_t (h1 rfl)
  | false => exact s_f (h2 rfl)
/-! arguments, displays -/
theorem s_nil (k : QA [] H) : tNil σ H QA := k
theorem s_cons (k : ta σ H fun x H1 => tr σ H1 fun xs H2 => QA (x :: xs) H2) : tCons ta tr σ H QA := k
theorem s_tup (k : tr σ H fun xs H1 => NewTup xs Q H1) : tTup tr σ H Q := k
theorem s_lst (k : tr σ H fun xs H1 => NewLst xs Q H1) : tLst tr σ H Q := k
theorem s_newT (h : xs.length ≤ sizeLine) (S : Sep cs H) (k : ∀ p H', Sep (pt p (.tup xs) :: cs) H' → Q (.ref p) H') : NewTup xs Q H := ⟨h, fun p n => k p _ (S.new n)⟩
theorem s_newL (h : xs.length ≤ sizeLine) (S : Sep cs H) (k : ∀ p H', Sep (pt p (.lst xs) :: cs) H' → Q (.ref p) H') : NewLst xs Q H := ⟨h, fun p n => k p _ (S.new n)⟩
/-! statements -/
theorem s_seq (k : t1 { D with nx := t2 D } σ H) : tSeq t1 t2 D σ H := k
theorem s_asg {g : TG} (k : te σ H fun x H1 => g x σ H1 D.nx) : tAsg te g D σ H := k
theorem s_ifS {c : TT} (k : c σ H fun b H1 => if b = true then t1 D σ H1 else t2 D σ H1) : tIfS c t1 t2 D σ H := k
theorem s_ret (k : te σ H D.rt) : tRet te D σ H := k
theorem s_retN (k : D.rt .non H) : tRetN D σ H := k
theorem s_next (k : D.nx σ H) : tNext D σ H := k
theorem s_drop (k : te σ H fun _ H1 => D.nx σ H1) : tDrop te D σ H := k
theorem s_break (k : D.bk σ H) : tBreak D σ H := k
theorem s_cont (k : D.ct σ H) : tCont D σ H := k
theorem s_ipAdd (k : Q (.int (i + j)) H) : ipI (fun i j => i + j) (.int i) (.int j) H Q := ⟨i, j, rfl, rfl, k⟩
/-! targets -/
theorem s_gtup {n : Nat} {g : TGs} {R : St → Hp → Prop} (S : Sep cs H) (p1 : Pick (pt a (.tup xs)) cs ds) (h : xs.length = n) (k : g xs σ H R) : gTup K n g (.ref a) σ H R := ⟨a, xs, rfl, SqT.of (S.get p1), h, k⟩
theorem s_gcons {g : TG} {gs : TGs} {R : St → Hp → Prop} (k : g v σ H fun σ' H' => gs xs σ' H' R) : gCons g gs (v :: xs) σ H R := ⟨v, xs, rfl, k⟩
theorem s_gnil {R : St → Hp → Prop} (k : R σ H) : gNil [] σ H R := ⟨rfl, k⟩
theorem s_gsub {to ti : TE} {r : TSet} {R : St → Hp → Prop} (k : to σ H fun o H1 => ti σ H1 fun i H2 => r o i v H2 fun H3 => R σ H3) : gSub to ti r v σ H R := k
theorem s_setL {n : Nat} {R : Hp → Prop} (S : Sep cs H) (p1 : ∀ cs', Chg (pt a (.lst xs)) (pt a (.lst (xs.set n v))) cs cs' → ∀ H', Sep cs' H' → R H') (g : Chg (pt a (.lst xs)) (pt a (.lst (xs.set n v))) cs cs') (h : ixN xs.length i = some n) : rSetL (.ref a) (.int i) v H R :=
  ⟨a, xs, i, n, rfl, rfl, (let ⟨_, p, _⟩ := g.pick; S.get p), h, p1 _ g _ (S.set g rfl)⟩
/-! fields -/
theorem s_fld {f : Str} (k : ta σ H fun x H1 => FldGet K f x Q H1) : tFld K ta f σ H Q := k
theorem s_fldR {fs : List (Str × V)} {f : Str} (S : Sep cs H) (p1 : Pick (pt a (.ins C dx fs)) cs ds) (hc : Cls K C) (hn : NoAttr K C f) (hl : fs.lookup f = some v) (k : Q v H) : FldGet K f (.ref a) Q H := ⟨a, C, dx, fs, v, rfl, S.get p1, hc, hn, hl, k⟩
theorem s_sfld {tv : TE} {f : Str} (k : tv σ H fun y H1 => ta σ H1 fun x H2 => FldSet K f x y (fun H3 => D.nx σ H3) H2) : sFld K ta tv f D σ H := k
theorem s_sfldR {fs : List (Str × V)} {f : Str} {R : Hp → Prop} (S : Sep cs H) (g : Chg (pt a (.ins C dx fs)) (pt a (.ins C dx (putF f v fs))) cs cs') (hc : Cls K C) (hn : NoAttr K C f) (hl : fs.length < 1000) (k : ∀ H', Sep cs' H' → R H') : FldSet K f (.ref a) v R H :=
  ⟨a, C, dx, fs, rfl, (let ⟨_, p, _⟩ := g.pick; S.get p), hc, hn, hl, k _ (S.set g rfl)⟩
/-! calls -/
theorem s_call {sp : Sp} {E : St → XK} (k : tr σ H fun vs H1 => sp vs H1 Q (E σ)) : tCallS sp E tr σ H Q := k
theorem s_cb {r : List V → Hp → VK → Prop} (k : tr σ H fun vs H1 => r vs H1 Q) : tCB r tr σ H Q := k
theorem s_mt {Cs : List Addr} {m : Str} {sp : Addr → Sp} {E : St → XK} (k : ta σ H fun x H1 => MtGo Cs m x (fun C H1 => tr σ H1 fun vs H2 => sp C (x :: vs) H2 Q (E σ)) H1) : tMt Cs m sp E ta tr σ H Q := k
theorem s_mtR {Cs : List Addr} {m : Str} {fs : List (Str × V)} {R : Addr → Hp → Prop} (S : Sep cs H) (p1 : Pick (pt a (.ins C dx fs)) cs ds) (hC : C ∈ Cs) (hl : fs.lookup m = none) (k : R C H) : MtGo Cs m (.ref a) R H := ⟨a, C, dx, fs, rfl, S.get p1, hC, hl, k⟩
theorem s_mk {sp : Sp} {E : St → XK} (k : tr σ H fun vs H1 => MkGo C sp (E σ) vs Q H1) : tMk C sp E tr σ H Q := k
theorem s_mkR {sp : Sp} {E : XK} {vs : List V} (S : Sep cs H) (k : ∀ x dx H', Sep (pt x (.ins C dx []) :: cs) H' → sp (.ref x :: vs) H' (fun v H2 => v = .non ∧ Q (.ref x) H2) E) : MkGo C sp E vs Q H := fun x dx hx hd ne => by
  refine k x dx _ ((S.new (o := .own x) hd).tail.new ?_)
  rw [upd_ne (Ne.symm ne)]
  exact hx
/-! built-in calls -/
theorem s_lenL (S : Sep cs H) (p1 : Pick (pt a (.lst xs)) cs ds) (k : Q (.int xs.length) H) : rLen K [.ref a] H Q := ⟨_, _, rfl, .inl ⟨xs, SqL.of (S.get p1), rfl⟩, k⟩
theorem s_lenQ (S : Sep cs H) (p1 : Pick (sq K a xs) cs ds) (k : Q (.int xs.length) H) : rLen K [.ref a] H Q := ⟨_, _, rfl, .inl ⟨xs, S.sq p1, rfl⟩, k⟩
theorem s_lenT (S : Sep cs H) (p1 : Pick (pt a (.tup xs)) cs ds) (k : Q (.int xs.length) H) : rLen K [.ref a] H Q := ⟨_, _, rfl, .inr ⟨xs, SqT.of (S.get p1), rfl⟩, k⟩
theorem s_lenS (h : z.length ≤ sizeLine) (k : Q (.int z.length) H) : rLen K [.str z] H Q := ⟨_, _, rfl, ⟨h, rfl⟩, k⟩
theorem s_strI (h : i.natAbs.log2 < 1920) (k : Q (.str (toString i)) H) : rStrI [.int i] H Q := ⟨i, rfl, h, k⟩
theorem s_intI (k : Q (.int i) H) : rInt1 [.int i] H Q := .inl ⟨i, rfl, k⟩
theorem s_intB {b : Bool} (k : Q (.int (if b then 1 else 0)) H) : rInt1 [.bl b] H Q := .inr ⟨b, rfl, k⟩
theorem s_intS (h : PySem.intText? z = some i) (h2 : z.length ≤ 640) (k : Q (.int i) H) : rIntS [.str z] H Q := ⟨z, i, rfl, h, h2, k⟩
/-! methods of built-in types -/
theorem s_bm {T : String} {r : V → List V → Hp → VK → Prop} (k : ta σ H fun x H1 => tyV K T x H1 ∧ tr σ H1 fun xs H2 => r x xs H2 Q) : tBM K T r ta tr σ H Q := k
theorem s_bm0 {T : String} {r : V → List V → Hp → VK → Prop} (k : ta σ H fun x H1 => tyV K T x H1 ∧ r x [] H1 Q) : tBM0 K T r ta σ H Q := k
theorem s_tyL {R : Prop} (S : Sep cs H) (p1 : Pick (pt a (.lst xs)) cs ds) (k : R) : tyV K "list" (.ref a) H ∧ R := ⟨.inl ⟨rfl, _, SqL.of (S.get p1)⟩, k⟩
theorem s_append (S : Sep cs H) (g : Chg (pt a (.lst xs)) (pt a (.lst (xs ++ [v]))) cs cs') (h : xs.length < sizeLine) (k : ∀ H', Sep cs' H' → Q .non H') : rAppend (.ref a) [v] H Q :=
  ⟨a, xs, v, rfl, rfl, (let ⟨_, p, _⟩ := g.pick; S.get p), h, k _ (S.set g rfl)⟩
theorem s_extend (S : Sep cs H) (g : Chg (pt a (.lst xs)) (pt a (.lst (xs ++ ys))) cs cs') (p1 : Pick (pt b (.lst ys)) cs ds) (h : xs.length + ys.length ≤ sizeLine) (k : ∀ H', Sep cs' H' → Q .non H') : rExtend (.ref a) [.ref b] H Q :=
  ⟨a, b, xs, ys, rfl, rfl, (let ⟨_, p, _⟩ := g.pick; S.get p), S.get p1, h, k _ (S.set g rfl)⟩
end
end L2.Zs
namespace L2.Zs
open PySem PySem.Spec PyProof.Rows
inductive SetAt : St → Nat → V → St → Prop
  | here {x σ v} : SetAt (x :: σ) 0 v (some v :: σ)
  | there {x σ i v σ'} : SetAt σ i v σ' → SetAt (x :: σ) (i + 1) v (x :: σ')
theorem SetAt.eq {σ σ' : St} {i : Nat} {v : V} (h : SetAt σ i v σ') : σ.set i (some v) = σ' := by
  induction h with
  | here => rfl
  | there h ih => simp only [List.set_cons_succ, ih]
section
variable {K : PySem.W.Frag} {σ σ' : St} {H : Hp} {Q : VK} {v x y : V} {ta tb tc te : TE} {t u : TT} {a b c p q C dx : Addr} {cs ds cs' : List As} {D : Ends} {t1 t2 tB : TS} {QA : List V → Hp → Prop} {QT : Bool → Hp → Prop} {tr : TA} {xs ys : List V} {i j : Int} {z z' : Str} {g : TG}
theorem s_name {i : Nat} {R : St → Hp → Prop} (h : SetAt σ i v σ') (k : R σ' H) : gName i v σ H R := by
  show R (σ.set i (some v)) H
  rw [h.eq]
  exact k
theorem s_aug {i : Nat} {ti : TIp} (h : σ[i]? = some (some x)) (k : te σ H fun y H1 => ti x y H1 fun z H2 => gName i z σ H2 D.nx) : tAug i te ti D σ H := ⟨x, h, k⟩
theorem s_neg (k : Q (.int (-i)) H) : rU (fun i => .int (-i)) (.int i) H Q := ⟨i, rfl, k⟩
theorem cmul_l (h : -(2 ^ 64) < i ∧ i < 2 ^ 64) : CMul i j := .inl h
theorem cmul_r (h : -(2 ^ 64) < j ∧ j < 2 ^ 64) : CMul i j := .inr h
theorem cdiv_of (h : 0 < j) (h2 : j.natAbs.log2 < 9000) : CDivW i j := ⟨h, h2⟩
theorem cpow_of (h : 0 ≤ j) (h1 : j ≤ 1000000) (h2 : i.natAbs < 2 ^ 64) : CPow i j := ⟨h, h1, h2⟩
/-- a loop by its turns -/
def Lp (J : It) (g : TG) (tb : TS) (D : Ends) (σ : St) (H : Hp) : Prop := ∃ W : Nat → Nat → St → Hp → Prop, (∃ m, W 0 m σ H) ∧ ∀ i m σ H, W i m σ H →
  (J.stop i H ∧ D.nx σ H) ∨ (J.go i H ∧ ∃ N : St → Hp → Prop, (∀ σ' H', N σ' H' → ∃ m', m' < m ∧ W (i + 1) m' σ' H') ∧ ∀ x H', J.yld i H x H' → g x σ H' fun σ2 H2 => tb { D with nx := N, ct := N, bk := D.nx } σ2 H2)
theorem s_forR1 (k : tr σ H fun vs H1 => ∃ j : Int, vs = [.int j] ∧ -(2 ^ 62) ≤ j ∧ j < 2 ^ 62 ∧ Lp (Itr 0 j.toNat) g tB D σ H1) : tFor (iRng1 tr) g tB D σ H := k
theorem s_rng1 (h0 : 0 ≤ j) (h1 : j < 2 ^ 62) (k : Lp (Itr 0 j.toNat) g tB D σ H) : ∃ j' : Int, [V.int j] = [.int j'] ∧ -(2 ^ 62) ≤ j' ∧ j' < 2 ^ 62 ∧ Lp (Itr 0 j'.toNat) g tB D σ H := ⟨j, rfl, by omega, h1, k⟩
theorem s_forL (k : te σ H fun x H1 => ∃ a, x = .ref a ∧ (∃ xs, SqL K H1 a xs) ∧ Lp (Itl K a) g tB D σ H1) : tFor (iList K te) g tB D σ H := k
theorem s_list (S : Sep cs H) (p : Pick (pt a (.lst xs)) cs ds) (k : Lp (Itl K a) g tB D σ H) : ∃ a', V.ref a = .ref a' ∧ (∃ xs, SqL K H a' xs) ∧ Lp (Itl K a') g tB D σ H := ⟨a, rfl, ⟨xs, SqL.of (S.get p)⟩, k⟩
theorem lp_range {n : Nat} (Pv : Nat → St → Hp → Prop) (h0 : Pv 0 σ H) (hs : ∀ i σ H, i < n → Pv i σ H → g (.int (i : Nat)) σ H fun σ2 H2 => tB { D with nx := Pv (i + 1), ct := Pv (i + 1), bk := D.nx } σ2 H2) (hd : ∀ σ H, Pv n σ H → D.nx σ H) :
    Lp (Itr 0 n) g tB D σ H := for_range Pv h0 (fun i σ H hi p => by
      have := hs i σ H hi p
      rw [Int.zero_add]
      exact this) hd
theorem lp_list (Pv : Nat → St → Hp → Prop) (h0 : Pv 0 σ H) (hl : ∀ i σ H, i ≤ xs.length → Pv i σ H → SqL K H a xs)
    (hs : ∀ i x σ H, xs[i]? = some x → Pv i σ H → g x σ H fun σ2 H2 => tB { D with nx := Pv (i + 1), ct := Pv (i + 1), bk := D.nx } σ2 H2) (hd : ∀ σ H, Pv xs.length σ H → D.nx σ H) :
    Lp (Itl K a) g tB D σ H := for_list Pv h0 hl hs hd
theorem s_start {t : TS} {σ0 : St} (h : σ0 = σ) (k : t D σ H) : t D σ0 H := by rw [h]; exact k
/-- a new instance, its fields to come -/
theorem atI_of {α : Type} {xs : List α} {i : Int} {v : α} (h0 : 0 ≤ i) (h : xs[i.toNat]? = some v) : atI xs i = some v := by
  have := atI_nat h
  rwa [Int.toNat_of_nonneg h0] at this
theorem ixN_of {n : Nat} {i : Int} (h0 : 0 ≤ i) (h1 : i < n) : ixN n i = some i.toNat := by
  unfold ixN
  rw [if_pos h0, if_pos h1]
theorem atI_lt {α : Type} {xs : List α} {i : Int} (h0 : 0 ≤ i) (h1 : i < xs.length) : ∃ v, atI xs i = some v ∧ v ∈ xs ∧ xs[i.toNat]? = some v := by
  have h : i.toNat < xs.length := by omega
  exact ⟨xs[i.toNat], atI_of h0 (List.getElem?_eq_getElem h), List.getElem_mem h, List.getElem?_eq_getElem h⟩
end
/-! ## draws -/
/-- what the law's cells are -/
def spCell (K : PySem.W.Frag) : Sp := fun vs H Q _ => ∃ (a : Addr) (ns : List Int) (k : Int) (cs : List As), vs = [.ref a, .int k] ∧ Sep (sq K a (ns.map V.int) :: cs) H ∧ 0 ≤ k ∧ ∀ z, Q (.int z) H
theorem len_cell {K vs H Q E} (h : spCell K vs H Q E) : vs.length = 2 := by obtain ⟨a, ns, k, cs, rfl, _⟩ := h; rfl
/-- a row of draws below base -/
def spDraws (K : PySem.W.Frag) : Sp := fun vs H Q _ => ∃ (a : Addr) (ns : List Int) (k many base : Int) (cs : List As), vs = [.ref a, .int k, .int many, .int base] ∧ Sep (sq K a (ns.map V.int) :: cs) H ∧ 0 ≤ k ∧ k < 1000000 ∧ 0 ≤ many ∧ many < 1000000 ∧ CDivW 0 base ∧
  ∀ (row : List Int) (p : Addr) (H' : Hp), (row.length : Int) = many → (∀ r ∈ row, 0 ≤ r ∧ r < base) → Sep (pt p (.lst (row.map V.int)) :: sq K a (ns.map V.int) :: cs) H' → Q (.ref p) H'
theorem len_draws {K vs H Q E} (h : spDraws K vs H Q E) : vs.length = 4 := by obtain ⟨a, ns, k, many, base, cs, rfl, _⟩ := h; rfl

theorem s_ifd {p A B : Prop} [Decidable p] (h1 : p → A) (h2 : ¬ p → B) : if decide p = true then A else B := by
  by_cases h : p
  · rw [decide_eq_true h]; exact s_t (h1 h)
  · rw [decide_eq_false h]; exact s_f (h2 h)
theorem s_ifn {p A B : Prop} [Decidable p] (h1 : ¬ p → A) (h2 : p → B) : if (!decide p) = true then A else B := by
  by_cases h : p
  · rw [decide_eq_true h]; exact s_f (h2 h)
  · rw [decide_eq_false h]; exact s_t (h1 h)

theorem atI_int {ns : List Int} {i : Int} (h0 : 0 ≤ i) (h1 : i < ns.length) : ∃ z, z ∈ ns ∧ atI (ns.map V.int) i = some (.int z) ∧ ns[i.toNat]? = some z := by
  have h : i.toNat < ns.length := by omega
  refine ⟨ns[i.toNat], List.getElem_mem h, atI_of h0 ?_, List.getElem?_eq_getElem h⟩
  rw [List.getElem?_map, List.getElem?_eq_getElem h]
  rfl
def prL : List Int := [2147483647, 2147483629, 2147483587, 2147483579, 2147483563, 2147483549, 2147483543, 2147483497]
theorem prL_ok : ∀ p ∈ prL, 0 < p ∧ p < 2147483648 := by decide
theorem prL_at (i : Int) : ∃ z, (0 < z ∧ z < 2147483648) ∧ atI (prL.map V.int) (i % 8) = some (.int z) := by
  obtain ⟨z, h, e, _⟩ := atI_int (ns := prL) (i := i % 8) (Int.emod_nonneg _ (by decide)) (Int.emod_lt_of_pos _ (by decide))
  exact ⟨z, prL_ok z h, e⟩
theorem emod_in (x : Int) {p : Int} (h : 0 < p) : 0 ≤ x % p ∧ x % p < p := ⟨Int.emod_nonneg _ (by omega), Int.emod_lt_of_pos _ h⟩

/-- two ways meet: M holds where they meet -/
theorem s_cut {t1 t2 : TS} {D : Ends} {σ : St} {H : Hp} (M : St → Hp → Prop) (h2 : ∀ σ H, M σ H → t2 D σ H) (h1 : ∀ N : St → Hp → Prop, (∀ σ H, M σ H → N σ H) → t1 { D with nx := N } σ H) : tSeq t1 t2 D σ H := h1 _ h2

section
variable {t2 : TS} {D : Ends} {σ : St} {H : Hp} {te ta tv : TE} {g : TG} {wi : TI} {tb : TS} {K : PySem.W.Frag} {f : Str}
theorem s_seqA (k : tAsg te g { D with nx := t2 D } σ H) : tSeq (tAsg te g) t2 D σ H := k
theorem s_seqD (k : tDrop te { D with nx := t2 D } σ H) : tSeq (tDrop te) t2 D σ H := k
theorem s_seqF (k : tFor wi g tb { D with nx := t2 D } σ H) : tSeq (tFor wi g tb) t2 D σ H := k
theorem s_seqS (k : sFld K ta tv f { D with nx := t2 D } σ H) : tSeq (sFld K ta tv f) t2 D σ H := k
theorem s_nxI {f : St → Hp → Prop} {rt : VK} {bk ct : St → Hp → Prop} (k : f σ H) : (Ends.mk f rt bk ct).nx σ H := k
theorem s_ctI {f : St → Hp → Prop} {rt : VK} {bk ct : St → Hp → Prop} (k : ct σ H) : (Ends.mk f rt bk ct).ct σ H := k
theorem s_bkI {f : St → Hp → Prop} {rt : VK} {bk ct : St → Hp → Prop} (k : bk σ H) : (Ends.mk f rt bk ct).bk σ H := k
theorem s_seqR (k : tRet te { D with nx := t2 D } σ H) : tSeq (tRet te) t2 D σ H := k
end
end L2.Zs
namespace L2.Zs
open PySem PySem.Spec PyProof.Rows
/-- a follows from b, by a reading's shape -/
class Stp (a : Prop) (b : outParam Prop) : Prop where
  go : b → a
class AtS (σ : St) (i : Nat) (v : outParam V) : Prop where
  at_ : σ[i]? = some (some v)
instance {σ : St} {v : V} : AtS (some v :: σ) 0 v := ⟨rfl⟩
instance {σ : St} {x : Option V} {i : Nat} {v : V} [h : AtS σ i v] : AtS (x :: σ) (i + 1) v := ⟨h.at_⟩
class PutS (σ : St) (i : Nat) (v : V) (σ' : outParam St) : Prop where
  put : SetAt σ i v σ'
instance {σ : St} {v : V} {x : Option V} : PutS (x :: σ) 0 v (some v :: σ) := ⟨.here⟩
instance {σ σ' : St} {x : Option V} {i : Nat} {v : V} [h : PutS σ i v σ'] : PutS (x :: σ) (i + 1) v (x :: σ') := ⟨.there h.put⟩
section
variable {K : PySem.W.Frag} {σ σ' : St} {H : Hp} {Q : VK} {v x y : V} {ta tb tc te tv : TE} {t u : TT} {a b c p q C dx : Addr} {cs ds cs' : List As} {D : Ends} {t1 t2 tBd : TS} {QA : List V → Hp → Prop} {QT : Bool → Hp → Prop} {tr : TA} {xs ys : List V} {i j : Int} {z z' : Str} {g : TG}
instance : Stp (tSeq (tAsg te g) t2 D σ H) (tAsg te g { D with nx := t2 D } σ H) := ⟨id⟩
instance : Stp (tSeq (tDrop te) t2 D σ H) (tDrop te { D with nx := t2 D } σ H) := ⟨id⟩
instance {wi : TI} : Stp (tSeq (tFor wi g tBd) t2 D σ H) (tFor wi g tBd { D with nx := t2 D } σ H) := ⟨id⟩
instance {f : PySem.Str} : Stp (tSeq (sFld K ta tv f) t2 D σ H) (sFld K ta tv f { D with nx := t2 D } σ H) := ⟨id⟩
instance : Stp (tSeq (tRet te) t2 D σ H) (tRet te { D with nx := t2 D } σ H) := ⟨id⟩
instance {i : Nat} {ti : TIp} : Stp (tSeq (tAug i te ti) t2 D σ H) (tAug i te ti { D with nx := t2 D } σ H) := ⟨id⟩
instance {tk : TE} : Stp (tSeq (sDPut ta tk tv) t2 D σ H) (sDPut ta tk tv { D with nx := t2 D } σ H) := ⟨id⟩
instance {tk : TE} {rd : V → V → Hp → VK → Prop} : Stp (tSeq (sDAug ta tk tv rd) t2 D σ H) (sDAug ta tk tv rd { D with nx := t2 D } σ H) := ⟨id⟩
instance {to ti : TE} {tg : V → V → Hp → VK → Prop} {tip : TIp} {ts : TSet} : Stp (tSeq (tAugS to ti te tg tip ts) t2 D σ H) (tAugS to ti te tg tip ts { D with nx := t2 D } σ H) := ⟨id⟩
instance {f : St → Hp → Prop} {rt : VK} {bk ct : St → Hp → Prop} : Stp ((Ends.mk f rt bk ct).nx σ H) (f σ H) := ⟨id⟩
instance {f : St → Hp → Prop} {rt : VK} {bk ct : St → Hp → Prop} : Stp ((Ends.mk f rt bk ct).ct σ H) (ct σ H) := ⟨id⟩
instance {f : St → Hp → Prop} {rt : VK} {bk ct : St → Hp → Prop} : Stp ((Ends.mk f rt bk ct).bk σ H) (bk σ H) := ⟨id⟩
instance {f : St → Hp → Prop} {rt : VK} {bk ct : St → Hp → Prop} : Stp ((Ends.mk f rt bk ct).rt v H) (rt v H) := ⟨id⟩
instance : Stp (tAsg te g D σ H) (te σ H fun x H1 => g x σ H1 D.nx) := ⟨id⟩
instance {i : Nat} {R : St → Hp → Prop} [h : PutS σ i v σ'] : Stp (gName i v σ H R) (R σ' H) := ⟨s_name h.put⟩
instance {i : Nat} [h : AtS σ i v] : Stp (tVar i σ H Q) (Q v H) := ⟨s_var h.at_⟩
instance : Stp (tC v σ H Q) (Q v H) := ⟨id⟩
instance {r : R2} : Stp (tOp r ta tb σ H Q) (ta σ H fun x H1 => tb σ H1 fun y H2 => r x y H2 Q) := ⟨id⟩
instance {r : V → Hp → VK → Prop} : Stp (tUn r ta σ H Q) (ta σ H fun x H1 => r x H1 Q) := ⟨id⟩
instance : Stp (rAddZ (.int i) (.int j) H Q) (Q (.int (i + j)) H) := ⟨s_addI⟩
instance : Stp (rSubI (.int i) (.int j) H Q) (Q (.int (i - j)) H) := ⟨s_sub⟩
instance : Stp (rLt (.int i) (.int j) H Q) (Q (.bl (decide (i < j))) H) := ⟨s_lt⟩
instance : Stp (rLe (.int i) (.int j) H Q) (Q (.bl (decide (i ≤ j))) H) := ⟨s_le⟩
instance : Stp (rGt (.int i) (.int j) H Q) (Q (.bl (decide (j < i))) H) := ⟨s_gt⟩
instance : Stp (rGe (.int i) (.int j) H Q) (Q (.bl (decide (j ≤ i))) H) := ⟨s_ge⟩
instance : Stp (rIsN x .non H Q) (Q (.bl (decide (x = .non))) H) := ⟨s_isN⟩
instance : Stp (rNotN x .non H Q) (Q (.bl (!decide (x = .non))) H) := ⟨s_notN⟩
instance : Stp (rEqZ K (.int i) (.int j) H Q) (Q (.bl (decide (i = j))) H) := ⟨s_eqI⟩
instance : Stp (rNeZ K (.int i) (.int j) H Q) (Q (.bl (!decide (i = j))) H) := ⟨s_neI⟩
instance : Stp (rEqZ K (.str z) (.str z') H Q) (Q (.bl (decide (z = z'))) H) := ⟨s_eqS⟩
instance : Stp (rNeZ K (.str z) (.str z') H Q) (Q (.bl (!decide (z = z'))) H) := ⟨s_neS⟩
instance {c : Nat} : Stp (rInS (.str ⟨#[c]⟩) (.str z) H Q) (Q (.bl (decide (c ∈ z.cps.toList))) H) := ⟨s_inS⟩
instance {c : Nat} : Stp (rNotInS (.str ⟨#[c]⟩) (.str z) H Q) (Q (.bl (!decide (c ∈ z.cps.toList))) H) := ⟨s_notInS⟩
instance : Stp (rU (fun i => .int (-i)) (.int i) H Q) (Q (.int (-i)) H) := ⟨s_neg⟩
instance {c : TT} : Stp (tIfS c t1 t2 D σ H) (c σ H fun b H1 => if b = true then t1 D σ H1 else t2 D σ H1) := ⟨id⟩
instance : Stp (tTest te σ H QT) (te σ H fun x H' => ∃ k, x = .bl k ∧ QT k H') := ⟨id⟩
instance : Stp (tB te σ H QT) (te σ H fun x H' => ∃ k, x = .bl k ∧ QT k H') := ⟨id⟩
instance : Stp (tTru K te σ H QT) (te σ H fun x H' => ∃ k, TruV K x H' k ∧ QT k H') := ⟨id⟩
instance {b : Bool} {R : Bool → Prop} : Stp (∃ c, V.bl b = .bl c ∧ R c) (R b) := ⟨s_bl⟩
instance {b : Bool} {R : Bool → Prop} : Stp (∃ c, TruV K (.bl b) H c ∧ R c) (R b) := ⟨s_truB⟩
instance {R : Bool → Prop} : Stp (∃ c, TruV K .non H c ∧ R c) (R false) := ⟨s_truN⟩
instance {R : Bool → Prop} : Stp (∃ c, TruV K (.int i) H c ∧ R c) (R (i != 0)) := ⟨s_truI⟩
instance : Stp (tAnd t u σ H QT) (t σ H fun c H1 => if c = true then u σ H1 QT else QT false H1) := ⟨id⟩
instance : Stp (tOr t u σ H QT) (t σ H fun c H1 => if c = true then QT true H1 else u σ H1 QT) := ⟨id⟩
instance : Stp (tNot t σ H QT) (t σ H fun c H1 => QT (!c) H1) := ⟨id⟩
instance : Stp (tAndV ta tb σ H Q) (ta σ H fun x H1 => ∃ c, x = .bl c ∧ if c = true then tb σ H1 Q else Q (.bl false) H1) := ⟨id⟩
instance : Stp (tOrV ta tb σ H Q) (ta σ H fun x H1 => ∃ c, x = .bl c ∧ if c = true then Q (.bl true) H1 else tb σ H1 Q) := ⟨id⟩
instance : Stp (tNotV ta σ H Q) (ta σ H fun x H1 => ∃ c, x = .bl c ∧ Q (.bl (!c)) H1) := ⟨id⟩
instance : Stp (tNotT K ta σ H Q) (ta σ H fun x H1 => ∃ k, TruV K x H1 k ∧ Q (.bl (!k)) H1) := ⟨id⟩
instance : Stp (tIf t ta tb σ H Q) (t σ H fun c H1 => if c = true then ta σ H1 Q else tb σ H1 Q) := ⟨id⟩
instance : Stp (tOrT K ta tb σ H Q) (ta σ H fun x H1 => ∃ k, TruV K x H1 k ∧ if k = true then Q x H1 else tb σ H1 Q) := ⟨id⟩
instance : Stp (tAndT K ta tb σ H Q) (ta σ H fun x H1 => ∃ k, TruV K x H1 k ∧ if k = true then tb σ H1 Q else Q x H1) := ⟨id⟩
instance {A B : Prop} : Stp (if true = true then A else B) A := ⟨s_t⟩
instance {A B : Prop} : Stp (if false = true then A else B) B := ⟨s_f⟩
instance : Stp (tNil σ H QA) (QA [] H) := ⟨id⟩
instance : Stp (tCons ta tr σ H QA) (ta σ H fun x H1 => tr σ H1 fun xs H2 => QA (x :: xs) H2) := ⟨id⟩
instance : Stp (tTup tr σ H Q) (tr σ H fun xs H1 => NewTup xs Q H1) := ⟨id⟩
instance : Stp (tLst tr σ H Q) (tr σ H fun xs H1 => NewLst xs Q H1) := ⟨id⟩
instance : Stp (tRet te D σ H) (te σ H D.rt) := ⟨id⟩
instance : Stp (tRetN D σ H) (D.rt .non H) := ⟨id⟩
instance : Stp (tNext D σ H) (D.nx σ H) := ⟨id⟩
instance : Stp (tDrop te D σ H) (te σ H fun _ H1 => D.nx σ H1) := ⟨id⟩
instance : Stp (tCont D σ H) (D.ct σ H) := ⟨id⟩
instance : Stp (tBreak D σ H) (D.bk σ H) := ⟨id⟩
instance {r : List V → Hp → VK → Prop} : Stp (tCB r tr σ H Q) (tr σ H fun vs H1 => r vs H1 Q) := ⟨id⟩
instance {sp : Sp} {E : St → XK} : Stp (tCallS sp E tr σ H Q) (tr σ H fun vs H1 => sp vs H1 Q (E σ)) := ⟨id⟩
instance {Cs : List Addr} {m : PySem.Str} {sp : Addr → Sp} {E : St → XK} : Stp (tMt Cs m sp E ta tr σ H Q) (ta σ H fun x H1 => MtGo Cs m x (fun C H1 => tr σ H1 fun vs H2 => sp C (x :: vs) H2 Q (E σ)) H1) := ⟨id⟩
instance {sp : Sp} {E : St → XK} : Stp (tMk C sp E tr σ H Q) (tr σ H fun vs H1 => MkGo C sp (E σ) vs Q H1) := ⟨id⟩
instance {T : String} {r : V → List V → Hp → VK → Prop} : Stp (tBM K T r ta tr σ H Q) (ta σ H fun x H1 => tyV K T x H1 ∧ tr σ H1 fun xs H2 => r x xs H2 Q) := ⟨id⟩
instance {T : String} {r : V → List V → Hp → VK → Prop} : Stp (tBM0 K T r ta σ H Q) (ta σ H fun x H1 => tyV K T x H1 ∧ r x [] H1 Q) := ⟨id⟩
instance {to ti : TE} {r : TSet} {R : St → Hp → Prop} : Stp (gSub to ti r v σ H R) (to σ H fun o H1 => ti σ H1 fun i H2 => r o i v H2 fun H3 => R σ H3) := ⟨id⟩
instance {gs : TGs} {R : St → Hp → Prop} : Stp (gCons g gs (v :: xs) σ H R) (g v σ H fun σ' H' => gs xs σ' H' R) := ⟨s_gcons⟩
instance {R : St → Hp → Prop} : Stp (gNil [] σ H R) (R σ H) := ⟨s_gnil⟩
instance {i : Nat} {ti : TIp} [h : AtS σ i x] : Stp (tAug i te ti D σ H) (te σ H fun y H1 => ti x y H1 fun z H2 => gName i z σ H2 D.nx) := ⟨s_aug h.at_⟩
instance : Stp (ipI (fun i j => i + j) (.int i) (.int j) H Q) (Q (.int (i + j)) H) := ⟨s_ipAdd⟩
instance {f : PySem.Str} : Stp (tFld K ta f σ H Q) (ta σ H fun x H1 => FldGet K f x Q H1) := ⟨id⟩
instance {f : PySem.Str} : Stp (sFld K ta tv f D σ H) (tv σ H fun y H1 => ta σ H1 fun x H2 => FldSet K f x y (fun H3 => D.nx σ H3) H2) := ⟨id⟩
instance : Stp (tFor (iRng1 tr) g tBd D σ H) (tr σ H fun vs H1 => ∃ j : Int, vs = [.int j] ∧ -(2 ^ 62) ≤ j ∧ j < 2 ^ 62 ∧ Lp (Itr 0 j.toNat) g tBd D σ H1) := ⟨id⟩
instance : Stp (tFor (iList K te) g tBd D σ H) (te σ H fun x H1 => ∃ a, x = .ref a ∧ (∃ xs, SqL K H1 a xs) ∧ Lp (Itl K a) g tBd D σ H1) := ⟨id⟩
instance : Stp (rInt1 [.int i] H Q) (Q (.int i) H) := ⟨s_intI⟩
instance {b : Bool} : Stp (rInt1 [.bl b] H Q) (Q (.int (if b then 1 else 0)) H) := ⟨s_intB⟩
instance {to ti : TE} {tg : V → V → Hp → VK → Prop} {tip : TIp} {ts : TSet} : Stp (tAugS to ti te tg tip ts D σ H) (to σ H fun o H1 => ti σ H1 fun i H2 => tg o i H2 fun x H3 => te σ H3 fun y H4 => tip x y H4 fun z H5 => ts o i z H5 fun H6 => D.nx σ H6) := ⟨id⟩
end
end L2.Zs
namespace L2.Zs
open PySem PySem.Spec PyProof.Rows
/-! ## the rules that name the written part -/
section
variable {X : Cx} {K : PySem.W.Frag}
theorem k_eq (hK : X.K = K) (hu : X.A.units + 64 < cLine) : OpR X (compareOp .Eq) (rEqZ K) := hK ▸ zo_eq hu
theorem k_ne (hK : X.K = K) (hu : X.A.units + 64 < cLine) : OpR X (compareOp .NotEq) (rNeZ K) := hK ▸ zo_ne hu
theorem k_inQ (hK : X.K = K) : OpR X (compareOp .In) (rIn K false) := hK ▸ zo_inQ
theorem k_notInQ (hK : X.K = K) : OpR X (compareOp .NotIn) (rIn K true) := hK ▸ zo_notInQ
theorem k_ix (hK : X.K = K) : IxR X (rIx K) := hK ▸ ix_seq
theorem k_len (hK : X.K = K) : CallR X (.builtin "len") (rLen K) := hK ▸ z_len
theorem k_isi (hK : X.K = K) : CallR X (.builtin "isinstance") (rIsi K) := hK ▸ call_isi
theorem k_isiT (hK : X.K = K) : CallR X (.builtin "isinstance") (rIsiT K) := hK ▸ call_isiT
theorem k_slL (hK : X.K = K) : SlR X (rSlL K) := hK ▸ sl_list
theorem k_slT (hK : X.K = K) : SlR X (rSlT K) := hK ▸ sl_tup
def rListOf (K : PySem.W.Frag) : List V → Hp → VK → Prop := fun xs H Q => ∃ p ys, xs = [.ref p] ∧ (SqL K H p ys ∨ SqT K H p ys) ∧ ∀ l, H l = none → Q (.ref l) (upd H l (.lst ys))
theorem k_listOf (hK : X.K = K) : CallR X (.type "list") (rListOf K) := hK ▸ call_list_of
theorem k_tru {a : Expr} {ta : TE} (hK : X.K = K) (ha : PE X a ta) (he : ∀ whole, isTrue a X.env whole = (do let v ← whole; standAt a.pos; holding [v] (truthy v)) := by intro _; rfl) : PT X a (tTru K ta) := hK ▸ pt_truth ha he
theorem k_fld {e : Expr} {ta : TE} {f : PySem.Str} {pos : Pos} (hK : X.K = K) (he : PE X e ta) (hb : attributeBase e f X.env (eval e X.env) = eval e X.env) : PE X (.Attribute e f pos) (tFld K ta f) := hK ▸ pe_fld he hb
theorem k_sfld {o value : Expr} {ta tv : TE} {f : PySem.Str} {pos pos' : Pos} (hK : X.K = K) (ha : PE X o ta) (hv : PE X value tv) (hs : swapsWith value (some (.Attribute o f pos')) pos.line X.env = pure false) : PS X (.Assign [.Attribute o f pos'] value pos) (sFld K ta tv f) := hK ▸ ps_fld ha hv hs
theorem k_fldaug {o value : Expr} {ta tv : TE} {f : PySem.Str} {pos tpos : Pos} {op : Operator} {rd : V → V → Hp → VK → Prop} (hK : X.K = K) (ha : PE X o ta) (hv : PE X value tv) (hop : InOp X op rd) : PS X (.AugAssign (.Attribute o f tpos) op value pos) (sFldAug K ta tv rd f) := hK ▸ ps_fldaug ha hv hop
theorem k_list {tg l : Expr} {tl : TE} (hK : X.K = K) (hl : PE X l tl) : PI X tg l (iList K tl) := hK ▸ pi_list hl
theorem k_tup {tg l : Expr} {tl : TE} (hK : X.K = K) (hl : PE X l tl) : PI X tg l (iTup K tl) := hK ▸ pi_tup hl
theorem k_enum {e : Expr} {ta : TA} {p pos tpos : Pos} {elts : List Expr} {kk : Nat} (hK : X.K = K) (hg : Gl X "enumerate") (hm : X.mg "enumerate" = none) (ha : PA X [e] ta) (hs : starEach [e] X.env = [(false, eval e X.env)] := by rfl) :
    PI X (.Tuple elts kk tpos) (.Call (.Name "enumerate" p) [e] [] pos) (iEnum K ta) := hK ▸ pi_enum hg hm ha hs
theorem k_zip {e e2 : Expr} {ta : TA} {p pos tpos : Pos} {elts : List Expr} {kk : Nat} (hK : X.K = K) (hg : Gl X "zip") (hm : X.mg "zip" = none) (ha : PA X [e, e2] ta)
    (hs : starEach [e, e2] X.env = (false, eval e X.env) :: starEach [e2] X.env := by rfl) (hpl : (backTo pos (starEach [e2] X.env)).any (·.1) = false := by rfl) :
    PI X (.Tuple elts kk tpos) (.Call (.Name "zip" p) [e, e2] [] pos) (iZip K ta) := hK ▸ pi_zip hg hm ha hs hpl
theorem k_gtup {es : List Expr} {kk : Nat} {t : TGs} {n : Nat} {pos : Pos} (hK : X.K = K) (hc : X.calm = true) (h : PGs X es t)
    (hn : (assignEach es X.env).length = n := by rfl) (hst : (assignEach es X.env).findIdx? (·.1) = none := by rfl) : PG X (.Tuple es kk pos) (gTup K n t) := hK ▸ pg_tup hc h hn hst
theorem k_tupleOf {a : Expr} {ta : TE} {p pos : Pos} (hK : X.K = K) (hg : Gl X "tuple") (hm : X.mg "tuple" = none) (ha : PE X a ta) (na : starEach [a] X.env = (false, eval a X.env) :: starEach [] X.env := by rfl) :
    PE X (.Call (.Name "tuple" p) [a] [] pos) (tThen ta (kTup K)) := hK ▸ pe_tupleOf hg hm ha na
theorem k_orT {a b : Expr} {rest : List Expr} {ta tb : TE} {pos : Pos} (hK : X.K = K) (ha : PE X a ta) (hb : PE X (.BoolOp .Or (b :: rest) pos) tb) : PE X (.BoolOp .Or (a :: b :: rest) pos) (tOrT K ta tb) := hK ▸ pe_orT ha hb
theorem k_andT {a b : Expr} {rest : List Expr} {ta tb : TE} {pos : Pos} (hK : X.K = K) (ha : PE X a ta) (hb : PE X (.BoolOp .And (b :: rest) pos) tb) : PE X (.BoolOp .And (a :: b :: rest) pos) (tAndT K ta tb) := hK ▸ pe_andT ha hb
theorem k_notT {a : Expr} {ta : TE} {pos : Pos} (hK : X.K = K) (ha : PE X a ta) : PE X (.UnaryOp .Not a pos) (tNotT K ta) := hK ▸ pe_notT ha
section
variable {T id : String} {name : PySem.Str} {r : V → List V → Hp → VK → Prop} {o e : Expr} {es : List Expr} {to : TE} {t : TA} {apos cpos : Pos}
theorem k_bm0 (hK : X.K = K) (pa : PlainAttrs T) (slot : Slot T name id) (hty : typeOf (.builtin id) = pure (.type "method_descriptor")) (hm : MtR X id r) (ho : PE X o to)
    (hbase : attributeBase o name X.env (eval o X.env) = eval o X.env := by rfl) (hline : (apos.endLine == cpos.line) = true := by rfl) : PE X (.Call (.Attribute o name apos) [] [] cpos) (tBM0 K T r to) := hK ▸ pe_bm0 pa slot hty hm ho hbase hline
theorem k_bm (hK : X.K = K) (pa : PlainAttrs T) (slot : Slot T name id) (hty : typeOf (.builtin id) = pure (.type "method_descriptor")) (hm : MtR X id r) (ho : PE X o to) (ha : PA X (e :: es) t)
    (hbase : attributeBase o name X.env (eval o X.env) = eval o X.env := by rfl)
    (hfew : ((backTo cpos (starEach (e :: es) X.env)).all (fun x => !x.1) && (backToKw cpos (keywordEach [] X.env)).all (fun x => x.1.isSome)
      && decide ((e :: es).length + ([] : List Keyword).length + (if ([] : List Keyword).isEmpty then 0 else 1) < 30)) = true := by rfl)
    (hline : (apos.endLine == cpos.line) = true := by rfl) (hs : starEach (e :: es) X.env = (false, eval e X.env) :: starEach es X.env := by rfl) (hplain : (backTo cpos (starEach es X.env)).any (·.1) = false := by rfl) :
    PE X (.Call (.Attribute o name apos) (e :: es) [] cpos) (tBM K T r to t) := hK ▸ pe_bm pa slot hty hm ho ha hbase hfew hline hs hplain
end
theorem z_append : MtR X "list.append" rAppend := mt_append
theorem z_extend : MtR X "list.extend" rExtend := mt_extend
theorem z_pop : MtR X "list.pop" rPop := mt_pop
theorem z_popAt : MtR X "list.pop" rPopAt := mt_popAt
theorem z_remove : MtR X "list.remove" rRemI := mt_remove
theorem k_index (hK : X.K = K) : MtR X "list.index" (rIndex K) := hK ▸ mt_index
/-! ### xs[i] += e -/
theorem k_get (hK : X.K = K) : PGet X (rIxL K) := by
  subst hK
  intro pins s σ H o i ov iv Q I ro ri h
  obtain ⟨p, xs, k, z, rfl, rfl, hq, he, q⟩ := h
  cases ro
  obtain ⟨t, rfl⟩ := ri
  obtain ⟨its, r, pl, hz⟩ := I.list hq
  obtain ⟨j, h1, h2, h3, h4, h5⟩ := atI_get he
  obtain ⟨w, ew, rw'⟩ := r.get h2
  have hl := r.length
  have hn := line63
  have fin : EP X pins σ Q w s := ⟨z, H, I, rw', q⟩
  by_cases h0 : 0 ≤ k
  · have hj : k.toNat = j := by
      rw [seqIndex_of h0 h5] at h1
      exact Option.some.inj h1
    exact wpAny_getItem_list pl.isList h0 (by omega) (by rw [hj]; simpa using ew) fin
  · have hj : (k + (its.toArray.size : Int)).toNat = j := by
      rw [seqIndex_neg (by omega) h4] at h1
      rw [List.size_toArray, ← hl]
      exact Option.some.inj h1
    exact wpAny_getItem_list_neg pl.isList (by omega) (by rw [List.size_toArray] <;> omega) (by omega) (by rw [hj]; simpa using ew) fin
end
end L2.Zs
namespace L2.Zs
open PySem PySem.Spec PyProof.Rows
/-! ## own errors -/
/-- the own error class at C, called x -/
structure XC (K : PySem.W.Frag) (mg : PySem.Str → Option Value) (x : PySem.Str) (C : Addr) : Prop where
  exc : PySem.W.excIn K C [.type "ValueError", .type "Exception", .type "BaseException", .type "object"] "ValueError.__new__" = true
  g : mg x = some (.ref C)
  kp : PySem.W.keepIn K (.ref C) = true
  b : PySem.W.subIn K (.ref C) (.type "BaseException") = some true
  ty : PySem.W.typeIn K (.ref C) = some (.type "type")
  ic : PySem.W.isClsIn K C = true
/-- what isinstance asks of its instances, besides -/
structure XI (K : PySem.W.Frag) (D : Addr) : Prop where
  c : ExcC K D
  ve : PySem.W.subIn K (.ref D) (.type "ValueError") = some true
def tRaise (C : Addr) (W : WX) : TS := fun _ σ H => W (.ref C) none σ H
section
variable {X : Cx} {W : WX} {x m : PySem.Str} {C : Addr} {p p2 pos pos2 : Pos} {j : Nat}
theorem z_raise (hc : X.calm = true) (tk : Takes X W) (T : XC X.K X.mg x C) (hg : Gl X x) (hdb : (x == ("__debug__" : PySem.Str)) = false := by decide) :
    PS X (.Raise (some (.Call (.Name x p) [.Constant (.str m) j p2] [] pos)) none pos2) (tRaise C W) :=
  ps_raise hc tk (pmk_own PySem.F.excBase_ValueError T.exc T.g T.kp (raises_own T.b T.ty) hg hdb)
end
instance {C : Addr} {W : WX} {D : Ends} {σ : St} {H : Hp} : Stp (tRaise C W D σ H) (W (.ref C) none σ H) := ⟨id⟩
instance {C : Addr} {W : WX} {D : Ends} {σ : St} {H : Hp} {t2 : TS} : Stp (tSeq (tRaise C W) t2 D σ H) (W (.ref C) none σ H) := ⟨id⟩
/-- an error of the class at D is an instance of the class at C, or not -/
theorem kit_ref {K : PySem.W.Frag} {D C : Addr} {b : Bool} (h : (Value.ref D == Value.ref C) = true → b = true) (i : PySem.W.isClsIn K C = true) (t : PySem.W.typeIn K (.ref C) = some (.type "type")) (s : PySem.W.subIn K (.ref D) (.ref C) = some b) :
    PySem.W.kitOne K (.ref D) (.ref C) = some b := by
  unfold PySem.W.kitOne
  split
  · rename_i e; rw [h e]
  · have i' : (PySem.W.clsIn K C).isSome = true := i
    show (if ((PySem.W.clsIn K C).isSome && PySem.W.typeIn K (.ref C) == some (.type "type")) = true then PySem.W.subIn K (.ref D) (.ref C) else none) = some b
    rw [i', t, if_pos (by rfl)]
    exact s
theorem kit_ve {K : PySem.W.Frag} {D : Addr} (T : XI K D) : PySem.W.kitOne K (.ref D) (.type "ValueError") = some true := by
  unfold PySem.W.kitOne
  rw [if_neg (by intro q; cases q)]
  show (if PySem.W.kitMeta "ValueError" = true then PySem.W.subIn K (.ref D) (.type "ValueError") else none) = some true
  rw [if_pos (show PySem.W.kitMeta "ValueError" = true by decide +kernel)]
  exact T.ve
theorem kitAny_no {K : PySem.W.Frag} {t : Value} : ∀ {cs : List Value}, (∀ c ∈ cs, PySem.W.kitOne K t c = some false) → PySem.W.kitAny K t cs = some false
  | [], _ => rfl
  | c :: cs, h => by
    unfold PySem.W.kitAny
    rw [h c List.mem_cons_self]
    exact kitAny_no fun d hd => h d (List.mem_cons_of_mem _ hd)
/-- isinstance of the error that the suite holds -/
def rIsEZ (K : PySem.W.Frag) (a : Addr) (cls : Value) (dd : Option Addr) : List V → Hp → VK → Prop := fun xs H Q => ∃ D, cls = .ref D ∧ dd = none ∧ ExcC K D ∧ rIsE K D a xs H Q
def rIsETZ (K : PySem.W.Frag) (a : Addr) (cls : Value) (dd : Option Addr) : List V → Hp → VK → Prop := fun xs H Q => ∃ D tp cs us b, cls = .ref D ∧ dd = none ∧ ExcC K D ∧ xs = [.ref a, .ref tp] ∧ H tp = some (.tup cs) ∧ Paired ClsV cs us ∧ PySem.W.kitAny K (.ref D) us = some b ∧ Q (.bl b) H
section
variable {X : Cx} {a : Addr} {cls : Value} {dd : Option Addr} {oe : Obj} {pn : List (Addr × Obj)}
theorem z_isE (hz : Zc cls dd oe) (hf : ∃ vs, oe.data = .fields vs) : CallR (X.suite a ((a, oe) :: pn)) (.builtin "isinstance") (rIsEZ X.K a cls dd) := by
  intro pins s σ H xs us Q I r h
  obtain ⟨D, rfl, rfl, c, h⟩ := h
  exact call_isE c hz hf pins s σ H xs us Q I r h
theorem z_isET (hz : Zc cls dd oe) (hf : ∃ vs, oe.data = .fields vs) : CallR (X.suite a ((a, oe) :: pn)) (.builtin "isinstance") (rIsETZ X.K a cls dd) := by
  intro pins s σ H xs us Q I r h
  obtain ⟨D, tp, cs, ws, b, rfl, rfl, C, rfl, hT, k, e, q⟩ := h
  obtain ⟨u1, u2, rfl, r1, r2⟩ := vals2 r
  cases (show u1 = Value.ref a from r1)
  cases (show u2 = Value.ref tp from r2)
  obtain ⟨_, its, rv, o, h1, h2, n, h3⟩ := (show ObjOk _ _ H s.heap tp (.tup cs) from I.hok tp _ hT)
  have e3 := ClsV.all k rv
  subst e3
  obtain ⟨oc, od, dt, sl⟩ := o
  simp only at h2 h3
  subst h2 h3
  obtain ⟨hget, _⟩ := I.pin (a, oe) (List.mem_append.mpr (.inl List.mem_cons_self))
  obtain ⟨vs, hv⟩ := hf
  have J : PySem.W.InstAt s.heap a oe D none := by
    obtain ⟨oc, od, oda, osl⟩ := oe
    obtain ⟨h1, h2⟩ := hz
    dsimp only at h1 h2 hv
    subst h1 h2 hv
    exact ⟨hget, rfl, rfl, trivial⟩
  exact PySem.W.kia_tup (PySem.W.handS_kitx_exc C.hg C.hk C.hs C.hd C.ha C.hn C.ht C.hm) I.kIn J h1 e (fun z => nomatch z) fun tk => ⟨.bl b, H, I.kept (t' := tk) fun _ _ z => z, rfl, q⟩
end
section
variable {K : PySem.W.Frag} {H : Hp} {Q : VK} {a D C tp : Addr} {cs : List As} {ds : List As}
theorem s_isE {b : Bool} (T : XI K D) (k1 : PySem.W.kitOne K (.ref D) (.ref C) = some b) (k : Q (.bl b) H) : rIsEZ K a (.ref D) none [.ref a, .ref C] H Q :=
  ⟨D, rfl, rfl, T.c, .ref C, .ref C, b, rfl, (fun u r => r), k1, k⟩
theorem s_isVE (T : XI K D) (k : Q (.bl true) H) : rIsEZ K a (.ref D) none [.ref a, .ty "ValueError"] H Q :=
  ⟨D, rfl, rfl, T.c, .ty "ValueError", .type "ValueError", true, rfl, (fun u r => r), kit_ve T, k⟩
theorem pairedCls : ∀ l : List Addr, Paired ClsV (l.map V.ref) (l.map Value.ref)
  | [] => .nil
  | c :: l => .cons (.own c) (pairedCls l)
theorem s_isET {l : List Addr} {xs : List V} (T : XI K D) (S : Sep cs H) (p : Pick (pt tp (.tup xs)) cs ds) (e : xs = l.map V.ref) (h : ∀ c ∈ l, PySem.W.kitOne K (.ref D) (.ref c) = some false) (k : Q (.bl false) H) : rIsETZ K a (.ref D) none [.ref a, .ref tp] H Q :=
  ⟨D, tp, _, _, false, rfl, rfl, T.c, rfl, S.get p, e ▸ pairedCls l, kitAny_no fun c hc => by obtain ⟨x, hx, rfl⟩ := List.mem_map.mp hc; exact h x hx, k⟩
end
/-- try: .. except x as n: .. -/
def tTry (K : PySem.W.Frag) (c : Value) (i : Nat) (tb : WX → TS) (ts : Addr → Value → Option Addr → TS) (Wout : WX) : TS := fun D σ H => tb (wAs K c i ts Wout D) D σ H
section
variable {X : Cx} {x n : PySem.Str} {c : Value} {i : Nat} {body suite : List Stmt} {b₀ : Stmt} {np pos pos' : Pos} {tb : WX → TS} {ts : Addr → Value → Option Addr → TS} {Wout : WX}
theorem z_try_as (hs : X.stack = X.env :: X.outer) (hf : X.env.frame = some X.env.locals) (hN : X.N.Nodup) (hi : X.N[i]? = some n) (hln : X.env.kindOf n = some .local) (hc : Names X x c) (tk : Takes X Wout)
    (hb : ∀ (W : WX) (pn : List (Addr × Obj)) (xe : Value → Shared → Prop), Takes (X.tr pn xe) W → PassesOwn (model X.prog X.w) X.A X.env xe → PSs (X.tr pn xe) body (tb W))
    (hsu : ∀ (a : Addr) (oe : Obj) (cls : Value) (d : Option Addr) (pn : List (Addr × Obj)), Zc cls d oe → (∃ vs, oe.data = .fields vs) → PSs (X.suite a ((a, oe) :: pn)) (b₀ :: suite) (ts a cls d)) :
    PS X (.Try body [.ExceptHandler (some (.Name x np)) (some n) (b₀ :: suite) pos'] [] [] pos) (tTry X.K c i tb ts Wout) := ps_try_as hs hf hN hi hln hc tk hb hsu
end
theorem s_try {K : PySem.W.Frag} {c : Value} {i : Nat} {tb : WX → TS} {ts : Addr → Value → Option Addr → TS} {Wout : WX} {D : Ends} {σ : St} {H : Hp} (M : Value → St → Hp → Prop) (hs : ∀ cls σ H, M cls σ H → wAs K c i ts Wout D cls none σ H)
    (hb : ∀ W : WX, (∀ cls σ H, M cls σ H → W cls none σ H) → tb W D σ H) : tTry K c i tb ts Wout D σ H := hb _ hs
/-- the clause takes it -/
theorem s_caught {K : PySem.W.Frag} {c cls : Value} {d : Option Addr} {i : Nat} {ts : Addr → Value → Option Addr → TS} {Wout : WX} {D : Ends} {σ : St} {H : Hp} (h : PySem.W.exmOne K cls c = some true)
    (k : ∀ a, ts a cls d { nx := fun σ' H' => D.nx (σ'.set i none) H', rt := D.rt, bk := fun σ' H' => D.bk (σ'.set i none) H', ct := fun σ' H' => D.ct (σ'.set i none) H' } (σ.set i (some (.ref a))) H) : wAs K c i ts Wout D cls d σ H :=
  ⟨true, h, fun _ a _ => k a, fun q => nomatch q⟩
theorem exm_of' {K : PySem.W.Frag} {D C : Addr} (h1 : PySem.W.subIn K (.ref C) (.type "BaseException") = some true) (h2 : PySem.W.isClsIn K C = true) (h3 : PySem.W.typeIn K (.ref C) = some (.type "type")) (h4 : PySem.W.subIn K (.ref D) (.ref C) = some true) :
    PySem.W.exmOne K (.ref D) (.ref C) = some true := by
  have e1 : (PySem.W.subIn K (.ref C) (.type "BaseException") == some true) = true := by rw [h1] <;> rfl
  have e2 : ((PySem.W.clsIn K C).isSome && PySem.W.typeIn K (.ref C) == some (.type "type")) = true := by
    have h2' : (PySem.W.clsIn K C).isSome = true := h2
    rw [h2', h3] <;> rfl
  show (if (PySem.W.subIn K (.ref C) (.type "BaseException") == some true) = true then (if ((PySem.W.clsIn K C).isSome && PySem.W.typeIn K (.ref C) == some (.type "type")) = true then PySem.W.subIn K (.ref D) (.ref C) else none) else none) = some true
  rw [if_pos e1, if_pos e2]
  exact h4
/-! ## fields by name -/
theorem lk_hd {f : PySem.Str} {v : V} {fs : List (PySem.Str × V)} : List.lookup f ((f, v) :: fs) = some v := by simp [List.lookup]
theorem lk_tl {f g : PySem.Str} {v : V} {fs : List (PySem.Str × V)} {r : Option V} (h : (f == g) = false) (k : List.lookup f fs = r) : List.lookup f ((g, v) :: fs) = r := by simp [List.lookup, h, k]
theorem lk_nil {f : PySem.Str} : List.lookup f ([] : List (PySem.Str × V)) = none := rfl
theorem pf_nil {f : PySem.Str} {v : V} : putF f v [] = [(f, v)] := rfl
theorem pf_tl {f g : PySem.Str} {v w : V} {fs r : List (PySem.Str × V)} (h : (f == g) = false) (k : putF f v fs = r) : putF f v ((g, w) :: fs) = (g, w) :: r := by
  show (if g = f then _ else _) = _
  rw [if_neg (by intro e; subst e; simp at h), k]
theorem pf_hd {f : PySem.Str} {v w : V} {fs : List (PySem.Str × V)} : putF f v ((f, w) :: fs) = (f, v) :: fs := by
  show (if f = f then _ else _) = _
  rw [if_pos rfl]
/-! ## figures -/
/-- a text of n figures -/
def figs (n : Nat) (z : PySem.Str) : Prop := z.length = n ∧ ∀ c ∈ z.cps.toList, 48 ≤ c ∧ c ≤ 57
def spNumber : Sp := fun vs H Q _ => ∃ (d n : Int), vs = [.int d, .int n] ∧ -100 ≤ n ∧ n < 100000 ∧ ∀ z, figs n.toNat z → Q (.str z) H
theorem len_number {vs H Q E} (h : spNumber vs H Q E) : vs.length = 2 := by obtain ⟨d, n, rfl, _⟩ := h; rfl
theorem app_codes (a b : PySem.Str) : (a ++ b).cps.toList = a.cps.toList ++ b.cps.toList := by
  show (a.cps ++ b.cps).toList = _
  simp
theorem app_len (a b : PySem.Str) : (a ++ b).length = a.length + b.length := by
  show (a.cps ++ b.cps).size = _
  simp [PySem.Str.length]
theorem digits_codes : (PySem.Str.ofString "0123456789").cps.toList = [48, 49, 50, 51, 52, 53, 54, 55, 56, 57] := by decide +kernel
theorem digit_at (i : Int) : ∃ c, atI (PySem.Str.ofString "0123456789").cps.toList (i % 10) = some c ∧ 48 ≤ c ∧ c ≤ 57 := by
  have h := emod_in i (p := 10) (by decide)
  obtain ⟨c, h1, h2, _⟩ := atI_lt (xs := (PySem.Str.ofString "0123456789").cps.toList) h.1 (by rw [digits_codes]; exact h.2)
  refine ⟨c, h1, ?_⟩
  rw [digits_codes] at h2
  simp only [List.mem_cons, List.not_mem_nil, or_false] at h2
  omega
/-- whether it is a whole number -/
def spWhole : Sp := fun vs H Q _ => (∃ i, vs = [.int i] ∧ Q (.bl true) H) ∨ (vs = [.non] ∧ Q (.bl false) H)
theorem len_whole {vs H Q E} (h : spWhole vs H Q E) : vs.length = 1 := by rcases h with ⟨i, rfl, _⟩ | ⟨rfl, _⟩ <;> rfl
end L2.Zs
namespace L2.Zs
open PySem PySem.Spec PyProof.Rows
section
variable {K : PySem.W.Frag} {H : Hp} {Q : VK} {v : V} {a : Addr} {cs cs' ds : List As} {xs : List V} {i : Int} {R : Hp → Prop}
theorem s_ixG (S : Sep cs H) (p1 : Pick (pt a (.lst xs)) cs ds) (h : atI xs i = some v) (k : Q v H) : rIxL K (.ref a) (.int i) H Q := ⟨a, xs, i, v, rfl, rfl, SqL.of (S.get p1), h, k⟩
theorem s_stL (S : Sep cs H) {n : Nat} (g : Chg (pt a (.lst xs)) (pt a (.lst (xs.set n v))) cs cs') (h : ixN xs.length i = some n) (k : ∀ H', Sep cs' H' → R H') : rSetL (.ref a) (.int i) v H R :=
  ⟨a, xs, i, n, rfl, rfl, (let ⟨_, p, _⟩ := g.pick; S.get p), h, k _ (S.set g rfl)⟩
end
/-! ## built-in classes as values, isinstance -/
theorem z_ty {X : Cx} {x : PySem.Str} {T : String} {pos : Pos} (hg : Gl X x) (hm : X.mg x = none) (hv : bootBuiltins x = some (.type T)) (hd : (x == ("__debug__" : PySem.Str)) = false := by decide) (hn : x ≠ "__name__" := by decide) : PE X (.Name x pos) (tC (.ty T)) :=
  pe_bltn hg hm hv rfl (hn := hn) (hd := hd)
theorem z_cls {X : Cx} {x : PySem.Str} {C : Addr} {pos : Pos} (hg : Gl X x) (hm : X.mg x = some (.ref C)) (hd : (x == ("__debug__" : PySem.Str)) = false := by decide) : PE X (.Name x pos) (tC (.ref C)) :=
  pe_glob hg hm rfl (hd := hd)
theorem isi_b {K : PySem.W.Frag} {H : Hp} {Q : VK} {x : V} {A T : String} {b : Bool} (h : TyX K H x (.type A)) (k : kitB A T = some b) (q : Q (.bl b) H) : rIsi K [x, .ty T] H Q := ⟨x, .ty T, .type A, .type T, b, rfl, .ty T, h, kit_ty k, q⟩
section
variable {K : PySem.W.Frag} {H : Hp} {Q : VK} {i : Int} {b : Bool} {z : PySem.Str} {a : Addr} {xs : List V} {cs ds : List As}
instance : Stp (rIsi K [.int i, .ty "int"] H Q) (Q (.bl true) H) := ⟨isi_b (.base (.int i)) (by decide +kernel)⟩
instance : Stp (rIsi K [.int i, .ty "bool"] H Q) (Q (.bl false) H) := ⟨isi_b (.base (.int i)) (by decide +kernel)⟩
instance : Stp (rIsi K [.int i, .ty "str"] H Q) (Q (.bl false) H) := ⟨isi_b (.base (.int i)) (by decide +kernel)⟩
instance : Stp (rIsi K [.bl b, .ty "int"] H Q) (Q (.bl true) H) := ⟨isi_b (.base (.bl b)) (by decide +kernel)⟩
instance : Stp (rIsi K [.bl b, .ty "bool"] H Q) (Q (.bl true) H) := ⟨isi_b (.base (.bl b)) (by decide +kernel)⟩
instance : Stp (rIsi K [.non, .ty "int"] H Q) (Q (.bl false) H) := ⟨isi_b (.base .non) (by decide +kernel)⟩
instance : Stp (rIsi K [.non, .ty "str"] H Q) (Q (.bl false) H) := ⟨isi_b (.base .non) (by decide +kernel)⟩
instance : Stp (rIsi K [.non, .ty "list"] H Q) (Q (.bl false) H) := ⟨isi_b (.base .non) (by decide +kernel)⟩
instance : Stp (rIsi K [.non, .ty "tuple"] H Q) (Q (.bl false) H) := ⟨isi_b (.base .non) (by decide +kernel)⟩
instance : Stp (rIsi K [.str z, .ty "str"] H Q) (Q (.bl true) H) := ⟨isi_b (.base (.str z)) (by decide +kernel)⟩
instance : Stp (rIsi K [.str z, .ty "int"] H Q) (Q (.bl false) H) := ⟨isi_b (.base (.str z)) (by decide +kernel)⟩
theorem s_isL (S : Sep cs H) (p : Pick (pt a (.lst xs)) cs ds) (k : Q (.bl true) H) : rIsi K [.ref a, .ty "list"] H Q := isi_b (.base (.lst (S.get p))) (by decide +kernel) k
theorem s_isT (S : Sep cs H) (p : Pick (pt a (.tup xs)) cs ds) (k : Q (.bl true) H) : rIsi K [.ref a, .ty "tuple"] H Q := isi_b (.base (.tup (S.get p))) (by decide +kernel) k
theorem s_isTL (S : Sep cs H) (p : Pick (pt a (.tup xs)) cs ds) (k : Q (.bl false) H) : rIsi K [.ref a, .ty "list"] H Q := isi_b (.base (.tup (S.get p))) (by decide +kernel) k
theorem s_isTS (S : Sep cs H) (p : Pick (pt a (.tup xs)) cs ds) (k : Q (.bl false) H) : rIsi K [.ref a, .ty "str"] H Q := isi_b (.base (.tup (S.get p))) (by decide +kernel) k
theorem s_isLS (S : Sep cs H) (p : Pick (pt a (.lst xs)) cs ds) (k : Q (.bl false) H) : rIsi K [.ref a, .ty "str"] H Q := isi_b (.base (.lst (S.get p))) (by decide +kernel) k
end
/-! list(xs), tuple(xs), max -/
section
variable {K : PySem.W.Frag} {H : Hp} {Q : VK} {i j : Int} {a : Addr} {xs : List V} {cs ds : List As} {D : Ends} {σ : St} {ta : TE} {R : List V → Prop}
theorem s_listL (S : Sep cs H) (p : Pick (pt a (.lst xs)) cs ds) (k : ∀ q H', Sep (pt q (.lst xs) :: cs) H' → Q (.ref q) H') : rListOf K [.ref a] H Q := ⟨a, xs, rfl, .inl (SqL.of (S.get p)), fun l hl => k l _ (S.new hl)⟩
theorem s_listT (S : Sep cs H) (p : Pick (pt a (.tup xs)) cs ds) (k : ∀ q H', Sep (pt q (.lst xs) :: cs) H' → Q (.ref q) H') : rListOf K [.ref a] H Q := ⟨a, xs, rfl, .inr (SqT.of (S.get p)), fun l hl => k l _ (S.new hl)⟩
theorem s_tupL (S : Sep cs H) (p : Pick (pt a (.lst xs)) cs ds) (k : ∀ q H', Sep (pt q (.tup xs) :: cs) H' → Q (.ref q) H') : kTup K (.ref a) H Q := .inl ⟨a, xs, rfl, SqL.of (S.get p), fun l hl => k l _ (S.new hl)⟩
instance : Stp (tThen ta (kTup K) σ H Q) (ta σ H fun x H1 => kTup K x H1 Q) := ⟨id⟩
instance : Stp (rMax2 [.int i, .int j] H Q) (Q (.int (if j > i then j else i)) H) := ⟨fun k => ⟨i, j, rfl, k⟩⟩
instance : Stp (rMin2 [.int i, .int j] H Q) (Q (.int (if j < i then j else i)) H) := ⟨fun k => ⟨i, j, rfl, k⟩⟩
end
/-! ## racks -/
structure Rk where
  held : List V
  brk : List Bool
  tak : List Int
structure Rk.ok (r : Rk) : Prop where
  b : r.brk.length = r.held.length
  t : r.tak.length = r.held.length
  n : r.held.length ≤ 60
def Rk.rdy (r : Rk) (i : Nat) : Bool := decide (r.held[i]? = some .non) && !(r.brk.getD i true)
def Rk.give (r : Rk) (i : Nat) (v : V) : Rk := { r with held := r.held.set i v, tak := r.tak.set i (r.tak.getD i 0 + 1) }
def Rk.free (r : Rk) (i : Nat) : Rk := { r with held := r.held.set i .non }
def Rk.brkAt (r : Rk) (i : Nat) (b : Bool) : Rk := { r with brk := r.brk.set i b }
theorem Rk.ok.give {r : Rk} (h : r.ok) (i : Nat) (v : V) : (r.give i v).ok := ⟨by simp [Rk.give, h.b], by simp [Rk.give, h.t], by simp [Rk.give, h.n]⟩
theorem Rk.ok.free {r : Rk} (h : r.ok) (i : Nat) : (r.free i).ok := ⟨by simp [Rk.free, h.b], by simp [Rk.free, h.t], by simp [Rk.free, h.n]⟩
theorem Rk.ok.brkAt {r : Rk} (h : r.ok) (i : Nat) (b : Bool) : (r.brkAt i b).ok := ⟨by simp [Rk.brkAt, h.b], by simp [Rk.brkAt, h.t], by simp [Rk.brkAt, h.n]⟩
/-- where a rack stands -/
structure RL where
  C : Addr
  dx : Addr
  p : Addr
  l1 : Addr
  l2 : Addr
  l3 : Addr
  more : List (PySem.Str × V)
def rkF (l1 l2 l3 : Addr) (more : List (PySem.Str × V)) : List (PySem.Str × V) := ("held_by", .ref l1) :: ("broken", .ref l2) :: ("taken", .ref l3) :: more
@[reducible] def rkC (L : RL) (r : Rk) (F : List As) : List As := pt L.p (.ins L.C L.dx (rkF L.l1 L.l2 L.l3 L.more)) :: pt L.l1 (.lst r.held) :: pt L.l2 (.lst (r.brk.map .bl)) :: pt L.l3 (.lst (r.tak.map .int)) :: F
def rackMeths : List PySem.Str := ["need", "is_ready", "given", "free", "stick", "mend", "shares", "take", "paper", "holders", "stuck", "mark", "steps"]
structure RL.good (L : RL) (Cs : List Addr) : Prop where
  c : L.C ∈ Cs
  nm : ∀ m ∈ rackMeths, L.more.lookup m = none
theorem rkF_held {l1 l2 l3 : Addr} {m : List (PySem.Str × V)} : (rkF l1 l2 l3 m).lookup ("held_by" : PySem.Str) = some (V.ref l1) := lk_hd
theorem rkF_brk {l1 l2 l3 : Addr} {m : List (PySem.Str × V)} : (rkF l1 l2 l3 m).lookup ("broken" : PySem.Str) = some (V.ref l2) := lk_tl (by decide +kernel) lk_hd
theorem rkF_tak {l1 l2 l3 : Addr} {m : List (PySem.Str × V)} : (rkF l1 l2 l3 m).lookup ("taken" : PySem.Str) = some (V.ref l3) := lk_tl (by decide +kernel) (lk_tl (by decide +kernel) lk_hd)
theorem rkF_m : ∀ m ∈ rackMeths, ((m == ("held_by" : PySem.Str)) = false ∧ (m == ("broken" : PySem.Str)) = false ∧ (m == ("taken" : PySem.Str)) = false) := by decide +kernel
theorem rkF_no {l1 l2 l3 : Addr} {more : List (PySem.Str × V)} {m : PySem.Str} (hm : m ∈ rackMeths) (h : ∀ m ∈ rackMeths, more.lookup m = none) : (rkF l1 l2 l3 more).lookup m = none :=
  lk_tl (rkF_m m hm).1 (lk_tl (rkF_m m hm).2.1 (lk_tl (rkF_m m hm).2.2 (h m hm)))
/-- what the racks' classes say -/
structure RT (K : PySem.W.Frag) (Cs : List Addr) : Prop where
  cls : ∀ C ∈ Cs, Cls K C
  n1 : ∀ C ∈ Cs, NoAttr K C "held_by"
  n2 : ∀ C ∈ Cs, NoAttr K C "broken"
  n3 : ∀ C ∈ Cs, NoAttr K C "taken"
section
variable {K : PySem.W.Frag} {Cs : List Addr} {σ : St} {H : Hp} {Q : VK} {L : RL} {r : Rk} {cs ds : List As}
theorem s_held (T : RT K Cs) (g : L.good Cs) (S : Sep cs H) (p : Pick (pt L.p (.ins L.C L.dx (rkF L.l1 L.l2 L.l3 L.more))) cs ds) (k : Q (.ref L.l1) H) : FldGet K "held_by" (.ref L.p) Q H := s_fldR S p (T.cls _ g.c) (T.n1 _ g.c) rkF_held k
theorem s_brk (T : RT K Cs) (g : L.good Cs) (S : Sep cs H) (p : Pick (pt L.p (.ins L.C L.dx (rkF L.l1 L.l2 L.l3 L.more))) cs ds) (k : Q (.ref L.l2) H) : FldGet K "broken" (.ref L.p) Q H := s_fldR S p (T.cls _ g.c) (T.n2 _ g.c) rkF_brk k
theorem s_tak (T : RT K Cs) (g : L.good Cs) (S : Sep cs H) (p : Pick (pt L.p (.ins L.C L.dx (rkF L.l1 L.l2 L.l3 L.more))) cs ds) (k : Q (.ref L.l3) H) : FldGet K "taken" (.ref L.p) Q H := s_fldR S p (T.cls _ g.c) (T.n3 _ g.c) rkF_tak k
theorem s_rm {m : PySem.Str} {R : Addr → Hp → Prop} (g : L.good Cs) (S : Sep cs H) (hm : m ∈ rackMeths) (p : Pick (pt L.p (.ins L.C L.dx (rkF L.l1 L.l2 L.l3 L.more))) cs ds) (k : R L.C H) : MtGo Cs m (.ref L.p) R H := s_mtR S p g.c (rkF_no hm g.nm) k
end
/-! ### what each def of a rack is worth -/
section
variable (Cs : List Addr) (XS : Addr)
def spNeed (C : Addr) : Sp := fun vs H Q E => ∃ (L : RL) (r : Rk) (k : Int) (F : List As), vs = [.ref L.p, .int k] ∧ L.good Cs ∧ Sep (rkC L r F) H ∧ (0 ≤ k ∧ k < r.held.length → Q .non H) ∧ (¬ (0 ≤ k ∧ k < r.held.length) → E (.ref XS) none H)
def spReady (C : Addr) : Sp := fun vs H Q E => ∃ (L : RL) (r : Rk) (k : Int) (F : List As), vs = [.ref L.p, .int k] ∧ L.good Cs ∧ r.ok ∧ Sep (rkC L r F) H ∧ 0 ≤ k ∧ k < r.held.length ∧ Q (.bl (r.rdy k.toNat)) H
def spGiven (C : Addr) : Sp := fun vs H Q E => ∃ (L : RL) (r : Rk) (k : Int) (v : V) (F : List As), vs = [.ref L.p, .int k, v] ∧ L.good Cs ∧ r.ok ∧ Sep (rkC L r F) H ∧ 0 ≤ k ∧ k < r.held.length ∧ ∀ H', Sep (rkC L (r.give k.toNat v) F) H' → Q .non H'
def spFree (C : Addr) : Sp := fun vs H Q E => ∃ (L : RL) (r : Rk) (k : Int) (F : List As), vs = [.ref L.p, .int k] ∧ L.good Cs ∧ Sep (rkC L r F) H ∧
  (0 ≤ k → k < r.held.length → r.held[k.toNat]? ≠ some .non → ∀ H', Sep (rkC L (r.free k.toNat) F) H' → Q .non H') ∧ (¬ (0 ≤ k ∧ k < r.held.length ∧ r.held[k.toNat]? ≠ some .non) → E (.ref XS) none H)
def spStick (b : Bool) (C : Addr) : Sp := fun vs H Q E => ∃ (L : RL) (r : Rk) (k : Int) (F : List As), vs = [.ref L.p, .int k] ∧ L.good Cs ∧ r.ok ∧ Sep (rkC L r F) H ∧
  (0 ≤ k → k < r.held.length → ∀ H', Sep (rkC L (r.brkAt k.toNat b) F) H' → Q .non H') ∧ (¬ (0 ≤ k ∧ k < r.held.length) → E (.ref XS) none H)
def spShares (C : Addr) : Sp := fun vs H Q E => ∃ (L : RL) (r : Rk) (F : List As), vs = [.ref L.p] ∧ L.good Cs ∧ Sep (rkC L r F) H ∧ ∀ q H', Sep (pt q (.lst (r.tak.map .int)) :: (rkC L r F)) H' → Q (.ref q) H'
/-- a new rack of many things -/
def Rk.new (n : Nat) : Rk := ⟨List.replicate n .non, List.replicate n false, List.replicate n 0⟩
theorem Rk.new_ok {n : Nat} (h : n ≤ 60) : (Rk.new n).ok := ⟨by simp [Rk.new], by simp [Rk.new], by simp [Rk.new, h]⟩
def spRack (C : Addr) : Sp := fun vs H Q E => ∃ (p dx : Addr) (n : Int) (F : List As), vs = [.ref p, .int n] ∧ C ∈ Cs ∧ 0 ≤ n ∧ n ≤ 60 ∧ Sep (pt p (.ins C dx []) :: F) H ∧
  ∀ l1 l2 l3 H', Sep (rkC ⟨C, dx, p, l1, l2, l3, []⟩ (Rk.new n.toNat) F) H' → Q .non H'
/-- the first that is neither held nor stuck -/
def Rk.first (r : Rk) : Option Nat := (List.range r.held.length).find? r.rdy
def spTake (C : Addr) : Sp := fun vs H Q E => ∃ (L : RL) (r : Rk) (v : V) (F : List As), vs = [.ref L.p, v] ∧ L.good Cs ∧ r.ok ∧ Sep (rkC L r F) H ∧
  (r.first = none → ∀ H', Sep (rkC L r F) H' → Q .non H') ∧ (∀ k, r.first = some k → k < r.held.length → ∀ H', Sep (rkC L (r.give k v) F) H' → Q (.int k) H')
def Rk.said (r : Rk) (i : Nat) : V := match r.held.getD i .non with
  | .non => if r.brk.getD i false then .str "stuck" else .str "free"
  | v => v
def Rk.paper (r : Rk) : List V := (List.range r.held.length).map r.said
def spPaper (C : Addr) : Sp := fun vs H Q E => ∃ (L : RL) (r : Rk) (F : List As), vs = [.ref L.p] ∧ L.good Cs ∧ r.ok ∧ Sep (rkC L r F) H ∧ ∀ q H', Sep (pt q (.tup r.paper) :: (rkC L r F)) H' → Q (.ref q) H'
end
section
variable {Cs : List Addr} {XS C : Addr} {vs : List V} {H : Hp} {Q : VK} {E : XK}
theorem len_need (h : spNeed Cs XS C vs H Q E) : vs.length = 2 := by obtain ⟨L, r, k, F, rfl, _⟩ := h; rfl
theorem len_ready (h : spReady Cs C vs H Q E) : vs.length = 2 := by obtain ⟨L, r, k, F, rfl, _⟩ := h; rfl
theorem len_given (h : spGiven Cs C vs H Q E) : vs.length = 3 := by obtain ⟨L, r, k, v, F, rfl, _⟩ := h; rfl
theorem len_free (h : spFree Cs XS C vs H Q E) : vs.length = 2 := by obtain ⟨L, r, k, F, rfl, _⟩ := h; rfl
theorem len_stick {b : Bool} (h : spStick Cs XS b C vs H Q E) : vs.length = 2 := by obtain ⟨L, r, k, F, rfl, _⟩ := h; rfl
theorem len_shares (h : spShares Cs C vs H Q E) : vs.length = 1 := by obtain ⟨L, r, F, rfl, _⟩ := h; rfl
theorem len_rack (h : spRack Cs C vs H Q E) : vs.length = 2 := by obtain ⟨p, dx, n, F, rfl, _⟩ := h; rfl
theorem len_take (h : spTake Cs C vs H Q E) : vs.length = 2 := by obtain ⟨L, r, v, F, rfl, _⟩ := h; rfl
theorem len_paper (h : spPaper Cs C vs H Q E) : vs.length = 1 := by obtain ⟨L, r, F, rfl, _⟩ := h; rfl
end
end L2.Zs
namespace L2.Zs
open PySem PySem.Spec PyProof.Rows
open PySem PySem.Spec PyProof.Rows
instance {A B : Prop} : Stp (if (!true) = true then A else B) B := ⟨s_f⟩
instance {A B : Prop} : Stp (if (!false) = true then A else B) A := ⟨s_t⟩
/-! ## flat data compared -/
def dV : V → PyData
  | .bl b => .bool b
  | .int i => .int i
  | .str z => .str z
  | _ => .none
def okV : V → Bool
  | .non => true
  | .bl _ => true
  | .int _ => true
  | .str z => PyData.canLay0 (.str z)
  | _ => false
theorem okV_flat {v : V} (h : okV v = true) : flatV v = true := by cases v <;> first | rfl | cases h
theorem dp_flat {K : PySem.W.Frag} {H : Hp} {v : V} (h : okV v = true) : Dp K H v (dV v) := by
  cases v <;> first | cases h | skip
  · exact .non
  · exact .bl _
  · exact .int _
  · exact .str _
theorem dpAll_flat {K : PySem.W.Frag} {H : Hp} : ∀ {xs : List V}, (∀ v ∈ xs, okV v = true) → DpAll K H xs (xs.map dV)
  | [], _ => .nil
  | x :: xs, h => .cons (dp_flat (h x List.mem_cons_self)) (dpAll_flat fun v hv => h v (List.mem_cons_of_mem _ hv))
theorem can_dV {v : V} (h : okV v = true) : (dV v).canLay0 = true := by
  cases v <;> first | rfl | exact h
theorem dep_dV (v : V) : (dV v).depth = 0 := by cases v <;> rfl
theorem canAll_flat : ∀ {xs : List V}, (∀ v ∈ xs, okV v = true) → PyData.canLayAll0 (xs.map dV) = true
  | [], _ => rfl
  | x :: xs, h => by
    show (PyData.canLay0 (dV x) && PyData.canLayAll0 (xs.map dV)) = true
    rw [can_dV (h x List.mem_cons_self), canAll_flat fun v hv => h v (List.mem_cons_of_mem _ hv)]
    rfl
theorem depAll_flat : ∀ (xs : List V), PyData.depthAll (xs.map dV) = 0
  | [] => rfl
  | x :: xs => by
    show max (PyData.depth (dV x)) (PyData.depthAll (xs.map dV)) = 0
    rw [dep_dV, depAll_flat xs]
    rfl
theorem shaped_lst {xs : List V} (h : ∀ v ∈ xs, okV v = true) : SeqAt.shaped (.list (xs.map dV)) = true := by
  show (PyData.canLayAll0 (xs.map dV) && decide (PyData.depthAll (xs.map dV) + 1 ≤ 64)) = true
  rw [canAll_flat h, depAll_flat]
  rfl
theorem shaped_tup {xs : List V} (h : ∀ v ∈ xs, okV v = true) : SeqAt.shaped (.tuple (xs.map dV)) = true := by
  show (PyData.canLayAll0 (xs.map dV) && decide (PyData.depthAll (xs.map dV) + 1 ≤ 64)) = true
  rw [canAll_flat h, depAll_flat]
  rfl
theorem eqv_same {d : PyData} (h : SeqAt.shaped d = true) : PyData.eqv d d = true := SeqAt.eqv_refl d (SeqAt.canLay_of_shaped h)
section
variable {K : PySem.W.Frag} {H : Hp} {Q : VK} {a b : Addr} {xs ys : List V} {cs ds es : List As}
theorem s_eqLL (S : Sep cs H) (p : Pick (pt a (.lst xs)) cs ds) (q : Pick (pt b (.lst xs)) cs es) (h : ∀ v ∈ xs, okV v = true) (k : Q (.bl true) H) : rEqZ K (.ref a) (.ref b) H Q := by
  refine s_eqD (.lst (SqL.of (S.get p)) (dpAll_flat h)) (.lst (SqL.of (S.get q)) (dpAll_flat h)) (shaped_lst h) (shaped_lst h) ?_
  rw [eqv_same (shaped_lst h)]
  exact k
theorem s_neLL (S : Sep cs H) (p : Pick (pt a (.lst xs)) cs ds) (q : Pick (pt b (.lst xs)) cs es) (h : ∀ v ∈ xs, okV v = true) (k : Q (.bl false) H) : rNeZ K (.ref a) (.ref b) H Q := by
  refine s_neD (.lst (SqL.of (S.get p)) (dpAll_flat h)) (.lst (SqL.of (S.get q)) (dpAll_flat h)) (shaped_lst h) (shaped_lst h) ?_
  rw [eqv_same (shaped_lst h)]
  exact k
theorem s_neTT (S : Sep cs H) (p : Pick (pt a (.tup xs)) cs ds) (q : Pick (pt b (.tup xs)) cs es) (h : ∀ v ∈ xs, okV v = true) (k : Q (.bl false) H) : rNeZ K (.ref a) (.ref b) H Q := by
  refine s_neD (.tup (SqT.of (S.get p)) (dpAll_flat h)) (.tup (SqT.of (S.get q)) (dpAll_flat h)) (shaped_tup h) (shaped_tup h) ?_
  rw [eqv_same (shaped_tup h)]
  exact k
theorem s_eqTT (S : Sep cs H) (p : Pick (pt a (.tup xs)) cs ds) (q : Pick (pt b (.tup xs)) cs es) (h : ∀ v ∈ xs, okV v = true) (k : Q (.bl true) H) : rEqZ K (.ref a) (.ref b) H Q := by
  refine s_eqD (.tup (SqT.of (S.get p)) (dpAll_flat h)) (.tup (SqT.of (S.get q)) (dpAll_flat h)) (shaped_tup h) (shaped_tup h) ?_
  rw [eqv_same (shaped_tup h)]
  exact k
theorem s_eqNil (S : Sep cs H) (p : Pick (pt a (.lst xs)) cs ds) (q : Pick (pt b (.lst [])) cs es) (h : ∀ v ∈ xs, okV v = true) (k : Q (.bl (decide (xs = []))) H) : rEqZ K (.ref a) (.ref b) H Q := by
  refine s_eqD (.lst (SqL.of (S.get p)) (dpAll_flat h)) (.lst (SqL.of (S.get q)) .nil) (shaped_lst h) (shaped_lst (xs := []) (fun _ h => nomatch h)) ?_
  have e : PyData.eqv (.list (xs.map dV)) (.list []) = decide (xs = []) := by cases xs <;> rfl
  rw [e]
  exact k
theorem s_neNil (S : Sep cs H) (p : Pick (pt a (.lst xs)) cs ds) (q : Pick (pt b (.lst [])) cs es) (h : ∀ v ∈ xs, okV v = true) (k : Q (.bl (!decide (xs = []))) H) : rNeZ K (.ref a) (.ref b) H Q := by
  refine s_neD (.lst (SqL.of (S.get p)) (dpAll_flat h)) (.lst (SqL.of (S.get q)) .nil) (shaped_lst h) (shaped_lst (xs := []) (fun _ h => nomatch h)) ?_
  have e : PyData.eqv (.list (xs.map dV)) (.list []) = decide (xs = []) := by cases xs <;> rfl
  rw [e]
  exact k
end
theorem okI (ns : List Int) : ∀ v ∈ ns.map V.int, okV v = true := fun v hv => by obtain ⟨i, _, rfl⟩ := List.mem_map.mp hv; rfl
theorem okB (ns : List Bool) : ∀ v ∈ ns.map V.bl, okV v = true := fun v hv => by obtain ⟨i, _, rfl⟩ := List.mem_map.mp hv; rfl
theorem flatI (ns : List Int) : (ns.map V.int).all flatV = true := List.all_eq_true.mpr fun v hv => okV_flat (okI ns v hv)
theorem inV_int (k : Int) : ∀ ns : List Int, inV (.int k) (ns.map V.int) = decide (k ∈ ns)
  | [] => by simp [inV]
  | n :: ns => by
    have ih := inV_int k ns
    unfold inV at ih ⊢
    rw [List.map_cons, List.any_cons, ih]
    show ((n == k) || _) = _
    by_cases e : n = k
    · subst e; simp
    · have : ¬ k = n := fun z => e z.symm
      simp [e, this]
theorem figs_ok {n : Nat} {z : PySem.Str} (h : figs n z) : PyData.canLay0 (.str z) = true := by
  show z.cps.all (· < 0x110000) = true
  rw [← Array.all_toList, List.all_eq_true]
  intro c hc
  have := h.2 c hc
  exact decide_eq_true (by omega)
/-- list.remove -/
theorem s_remove {K : PySem.W.Frag} {H : Hp} {Q : VK} {a : Addr} {ns : List Int} {k : Int} {cs cs' : List As} (S : Sep cs H) (h : k ∈ ns) (g : Chg (pt a (.lst (ns.map V.int))) (pt a (.lst ((ns.erase k).map V.int))) cs cs') (c : ∀ H', Sep cs' H' → Q .non H') : rRemI (.ref a) [.int k] H Q := by
  have hi : ns.idxOf k < ns.length := List.idxOf_lt_length_of_mem h
  have e : ns.eraseIdx (ns.idxOf k) = ns.erase k := (List.erase_eq_eraseIdx_of_idxOf rfl).symm
  refine ⟨a, ns, k, ns.idxOf k, rfl, rfl, (let ⟨_, p, _⟩ := g.pick; S.get p), ?_, fun m hm => ?_, ?_⟩
  · rw [List.getElem?_eq_getElem hi, List.getElem_idxOf hi]
  · intro q
    obtain ⟨h1, h2⟩ := List.getElem?_eq_some_iff.mp q
    have := List.not_of_lt_findIdx (p := (· == k)) (xs := ns) (i := m) hm
    simp [h2] at this
  · rw [e]
    exact c _ (S.set g rfl)
end L2.Zs
namespace L2.Zs
open PySem PySem.Spec PyProof.Rows
/-! ## list comprehensions -/
def LcGo (J : It) (g : TG) (tt : TT) (te : TE) (vs : List Nat) (σ : St) (Q : VK) (H1 : Hp) : Prop := ∀ D, H1 D = none → ∃ W : Nat → Nat → Hp → Prop, (∃ m, W 0 m (upd H1 D (.lst []))) ∧ ∀ i m H, W i m H →
  (J.stop i H ∧ Q (.ref D) H) ∨ (J.go i H ∧ ∃ Nx : Hp → Prop, (∀ H', Nx H' → ∃ m', m' < m ∧ W (i + 1) m' H') ∧ ∀ x H', J.yld i H x H' → g x (wipe σ vs) H' fun σ2 H2 => wipe σ2 vs = wipe σ vs ∧ tt σ2 H2 fun b H3 =>
    if b = true then te σ2 H3 fun y H4 => ∃ acc, H4 D = some (.lst acc) ∧ acc.length < sizeLine ∧ Nx (upd H4 D (.lst (acc ++ [y]))) else Nx H3)
def LcPut (D : Addr) (y : V) (N : Hp → Prop) (H4 : Hp) : Prop := ∃ acc, H4 D = some (.lst acc) ∧ acc.length < sizeLine ∧ N (upd H4 D (.lst (acc ++ [y])))
section
variable {K : PySem.W.Frag} {H : Hp} {Q : VK} {a b D : Addr} {xs ys : List V} {cs ds es : List As} {wi : TI} {g : TG} {tt : TT} {te : TE} {tr : TA} {vs : List Nat} {σ : St} {R : It → Hp → Prop} {y : V} {N : Hp → Prop}
instance : Stp (tLc wi g tt te vs σ H Q) (wi σ H fun J H1 => LcGo J g tt te vs σ Q H1) := ⟨id⟩
instance : Stp (iRng1 tr σ H R) (tr σ H fun vs H1 => ∃ j : Int, vs = [.int j] ∧ -(2 ^ 62) ≤ j ∧ j < 2 ^ 62 ∧ R (Itr 0 j.toNat) H1) := ⟨id⟩
instance : Stp (iList K te σ H R) (te σ H fun x H1 => ∃ a, x = .ref a ∧ (∃ xs, SqL K H1 a xs) ∧ R (Itl K a) H1) := ⟨id⟩
theorem s_lcput (S : Sep cs H) (g : Chg (pt D (.lst xs)) (pt D (.lst (xs ++ [y]))) cs ds) (h : xs.length < sizeLine) (k : ∀ H', Sep ds H' → N H') : LcPut D y N H :=
  ⟨xs, (let ⟨_, p, _⟩ := g.pick; S.get p), h, k _ (S.set g rfl)⟩
theorem s_lcR {lo : Int} {n : Nat} (S : Sep cs H) (Pv : Addr → Nat → Hp → Prop) (h0 : ∀ D H', Sep (pt D (.lst []) :: cs) H' → Pv D 0 H')
    (hs : ∀ D i H', i < n → Pv D i H' → g (.int (lo + i)) (wipe σ vs) H' fun σ2 H2 => wipe σ2 vs = wipe σ vs ∧ tt σ2 H2 fun b H3 => if b = true then te σ2 H3 fun y H4 => LcPut D y (Pv D (i + 1)) H4 else Pv D (i + 1) H3)
    (hd : ∀ D H', Pv D n H' → Q (.ref D) H') : LcGo (Itr lo n) g tt te vs σ Q H :=
  fun D hD => lc_range (Pv D) (h0 D _ (S.new hD)) (fun i H' hi p => hs D i H' hi p) (fun H' p => hd D H' p)
theorem s_lcL (S : Sep cs H) (Pv : Addr → Nat → Hp → Prop) (h0 : ∀ D H', Sep (pt D (.lst []) :: cs) H' → Pv D 0 H') (hl : ∀ D i H', i ≤ xs.length → Pv D i H' → SqL K H' a xs)
    (hs : ∀ D i x H', xs[i]? = some x → Pv D i H' → g x (wipe σ vs) H' fun σ2 H2 => wipe σ2 vs = wipe σ vs ∧ tt σ2 H2 fun b H3 => if b = true then te σ2 H3 fun y H4 => LcPut D y (Pv D (i + 1)) H4 else Pv D (i + 1) H3)
    (hd : ∀ D H', Pv D xs.length H' → Q (.ref D) H') : LcGo (Itl K a) g tt te vs σ Q H :=
  fun D hD => lc_list (Pv D) (h0 D _ (S.new hD)) (hl D) (fun i x H' e p => hs D i x H' e p) (fun H' p => hd D H' p)
end
/-! ## a pair with a list in it -/
section
variable {K : PySem.W.Frag} {H : Hp} {Q : VK} {a b t1 t2 : Addr} {xs ys : List V} {x : V} {cs ds es ds2 es2 : List As}
theorem shaped_tl {xs : List V} {x : V} (hx : okV x = true) (h : ∀ v ∈ xs, okV v = true) : SeqAt.shaped (.tuple [dV x, .list (xs.map dV)]) = true := by
  show (((dV x).canLay0 && ((PyData.canLayAll0 (xs.map dV)) && true)) && decide (max (PyData.depth (dV x)) (max (PyData.depthAll (xs.map dV) + 1) 0) + 1 ≤ 64)) = true
  rw [can_dV hx, canAll_flat h, dep_dV, depAll_flat]
  rfl
theorem s_neTL (S : Sep cs H) (p1 : Pick (pt t1 (.tup [x, .ref a])) cs ds) (p2 : Pick (pt a (.lst xs)) cs es) (q1 : Pick (pt t2 (.tup [x, .ref b])) cs ds2) (q2 : Pick (pt b (.lst xs)) cs es2) (hx : okV x = true) (h : ∀ v ∈ xs, okV v = true) (k : Q (.bl false) H) : rNeZ K (.ref t1) (.ref t2) H Q := by
  refine s_neD (.tup (SqT.of (S.get p1)) (.cons (dp_flat hx) (.cons (.lst (SqL.of (S.get p2)) (dpAll_flat h)) .nil))) (.tup (SqT.of (S.get q1)) (.cons (dp_flat hx) (.cons (.lst (SqL.of (S.get q2)) (dpAll_flat h)) .nil))) (shaped_tl hx h) (shaped_tl hx h) ?_
  rw [eqv_same (shaped_tl hx h)]
  exact k
end
section
variable {H : Hp} {Q : VK} {i j : Int} {te : TE} {σ : St}
instance : Stp (rMax2 [.int i, .int j] H Q) (Q (.int (if j > i then j else i)) H) := ⟨fun k => ⟨i, j, rfl, k⟩⟩
instance : Stp (rMin2 [.int i, .int j] H Q) (Q (.int (if j < i then j else i)) H) := ⟨fun k => ⟨i, j, rfl, k⟩⟩
/-- one value by many ways -/
theorem s_val (v : V) (h : ∀ Q : VK, Q v H → te σ H Q) (k : Q v H) : te σ H Q := h Q k
end
/-- what a law is to do -/
def spLawK (K : PySem.W.Frag) : Sp := fun vs H Q _ => ∃ (a : Addr) (ns : List Int), vs = [.ref a] ∧ SqL K H a (ns.map V.int) ∧ ns.length ≤ 63 ∧ ∀ H', Q (.bl true) H'
theorem len_law {K vs H Q E} (h : spLawK K vs H Q E) : vs.length = 1 := by obtain ⟨a, ns, rfl, _⟩ := h; rfl
theorem sep_law {K : PySem.W.Frag} {H : Hp} {a : Addr} {xs : List V} (h : SqL K H a xs) : Sep [sq K a xs] H := ⟨H, fun _ => none, Le.refl _, (fun _ _ q => nomatch q), (fun _ _ _ _ q => nomatch q), h, trivial⟩
end L2.Zs
namespace L2.Zs
open PySem PySem.Spec PyProof.Rows
/-! ## C.m(self, ..): a def of a base, through its class -/
/-- the def m of the class at C, called through the class, keeps sp -/
def Bas (P : Program) (w : World) (K : PySem.W.Frag) (mg : PySem.Str → Option Value) (base : Heap) (k : Nat) (C : Addr) (m : PySem.Str) (sp : Sp) : Prop :=
  ∃ f fd ps, FnOk P w K mg base (L2.CX P w) k f fd ps sp ∧ PySem.W.readsIn K C (.type "type") = true ∧ PySem.W.specialIn K (.ref C) "__getattribute__" = some (some (.builtin "type.__getattribute__")) ∧
    PySem.W.findCls K (.ref C) (.type "type") m = some (.val (.ref f)) ∧ PySem.W.keepIn K (.ref f) = true ∧ Binds K fd ps []
def tBas (C : Addr) (sp : Sp) (E : St → XK) (ta : TE) (t : TA) : TE := fun σ H Q => ta σ H fun x H1 => x = .ref C ∧ t σ H1 fun vs H2 => sp vs H2 Q (E σ)
section
variable {X : Cx} {W : WX} {k j : Nat} {C : Addr} {sp : Sp} {m : PySem.Str} {pos apos : Pos} {e o : Expr} {es : List Expr} {ta : TE} {t : TA} {pl : Sem Bool}
theorem z_base (c : Bas X.prog X.w X.K X.mg X.base k C m sp) (tk : Takes X W) (hr : Room j X.A) (hk : k ≤ j) (ho : PE X o ta) (ha : PA X (e :: es) t)
    (hst : starEach (e :: es) X.env = (false, eval e X.env) :: starEach es X.env := by rfl) (hpl : (backTo pos (starEach es X.env)).any (·.1) = false := by rfl)
    (ht : eval (.Call (.Attribute o m apos) (e :: es) [] pos) X.env = (do
      let ov ← eval o X.env
      standAt apos.atName
      let (f, first) ← holding [ov] (getMethod ov m pl)
      callWith pos f first (backTo pos (starEach (e :: es) X.env)) (backToKw pos (keywordEach [] X.env))) := by rfl) :
    PE X (.Call (.Attribute o m apos) (e :: es) [] pos) (tBas C sp (WE W) ta t) := by
  obtain ⟨f, fd, ps, F, h1, h2, h3, kp, hb⟩ := c
  refine ⟨fun pins s σ H Q I h => ?_⟩
  refine PySem.W.methodCall_KW (pl := pl) (thn (ho.run pins s σ H _ I h) fun u s1 ⟨x, H1, I1, rx, ex, q⟩ => ?_) ht
  subst ex
  obtain rfl : u = Value.ref C := rx
  refine PySem.W.method_cls I1.kIn h2 (PySem.W.cls_value I1.kIn h1 h3 rfl ?_)
  refine PySem.W.callWith_K (h₀ := X.base) I1.ok.mod.kin kp (thn (ha.run pos pins _ σ H1 _ (I1.tok _) q) fun us s2 ⟨vs, H2, I2, r, q2⟩ => ⟨I2.kIn, ?_⟩) hst hpl
  exact run_fnS F (hr.mono hk) hb (passAt tk σ) I2 r q2
end
section
variable {K : PySem.W.Frag} {σ : St} {H : Hp} {Q : VK} {v x y : V} {ta tb tv td ty : TE} {a b C : Addr} {cs ds cs' : List As} {D : Ends} {tr : TA} {sp : Sp} {E : St → XK} {R : Prop}
instance : Stp (tBas C sp E ta tr σ H Q) (ta σ H fun x H1 => x = .ref C ∧ tr σ H1 fun vs H2 => sp vs H2 Q (E σ)) := ⟨id⟩
instance : Stp (V.ref C = .ref C ∧ R) R := ⟨fun k => ⟨rfl, k⟩⟩
/-! ## dicts whose keys are texts -/
def DG (x y : V) (Q : VK) (H : Hp) : Prop := ∃ a v, x = .ref a ∧ DGet H a y (some v) ∧ Q v H
def DP (x y v : V) (N : Hp → Prop) (H : Hp) : Prop := ∃ a H4, x = .ref a ∧ DPut H a y v H4 ∧ N H4
instance : Stp (tDGet td ty σ H Q) (td σ H fun x H1 => ty σ H1 fun y H2 => DG x y Q H2) := ⟨id⟩
instance : Stp (sDPut td ty tv D σ H) (tv σ H fun v H1 => td σ H1 fun x H2 => ty σ H2 fun y H3 => DP x y v (fun H4 => D.nx σ H4) H3) := ⟨id⟩
def DA (tv : TE) (rd : V → V → Hp → VK → Prop) (D : Ends) (σ : St) (x y : V) (H : Hp) : Prop := ∃ a v, x = .ref a ∧ DGet H a y (some v) ∧ tv σ H fun y2 H3 => rd v y2 H3 fun z H4 => ∃ H5, DPut H4 a y z H5 ∧ D.nx σ H5
instance {rd : V → V → Hp → VK → Prop} : Stp (sDAug td ty tv rd D σ H) (td σ H fun x H1 => ty σ H1 fun y H2 => DA tv rd D σ x y H2) := ⟨id⟩
theorem s_dget {kvs : List (Key × V)} {z : PySem.Str} (S : Sep cs H) (p : Pick (pt a (.dK kvs)) cs ds) (h : valV kvs (.inr z) = some v) (k : Q v H) : DG (.ref a) (.str z) Q H :=
  ⟨a, v, rfl, h ▸ DGet.k (k := .inr z) (S.get p), k⟩
theorem s_dput {kvs kvs' : List (Key × V)} {z : PySem.Str} {N : Hp → Prop} (S : Sep cs H) (g : Chg (pt a (.dK kvs)) (pt a (.dK kvs')) cs cs') (e : putK kvs (.inr z) v = kvs') (h : kvs.length < sizeLine) (k : ∀ H', Sep cs' H' → N H') : DP (.ref a) (.str z) v N H :=
  ⟨a, _, rfl, e ▸ DPut.k (k := .inr z) (let ⟨_, p, _⟩ := g.pick; S.get p) h, k _ (S.set g rfl)⟩
theorem vv_hd {z : PySem.Str} {v : V} {r : List (Key × V)} : valV ((.inr z, v) :: r) (.inr z : Key) = some v := valV_pos rfl
theorem vv_tl {z z' : PySem.Str} {v : V} {r : List (Key × V)} {o : Option V} (h : z' ≠ z) (k : valV r (.inr z : Key) = o) : valV ((.inr z', v) :: r) (.inr z : Key) = o := by
  rw [valV_neg (fun e => h (Sum.inr.inj e)), k]
end
end L2.Zs
namespace L2.Zs
open PySem PySem.Spec PyProof.Rows
/-! ## seekers -/
structure Sk where
  r : Rk
  pl : Int
  sp : List Int
  gn : List Int
  nx : Nat
def Sk.n (s : Sk) : Nat := s.r.held.length
structure Sk.ok (s : Sk) : Prop where
  r : s.r.ok
  q : s.sp.length = s.r.held.length
  g : s.gn.length = s.r.held.length
  x : s.nx < s.r.held.length
  p : 0 < s.pl
structure SL where
  C : Addr
  dx : Addr
  p : Addr
  l1 : Addr
  l2 : Addr
  l3 : Addr
  l4 : Addr
  l5 : Addr
@[reducible] def skL (B : SL) (s : Sk) : RL := ⟨B.C, B.dx, B.p, B.l1, B.l2, B.l3, [("places", .int s.pl), ("spots", .ref B.l4), ("gone", .ref B.l5), ("next_one", .int s.nx)]⟩
@[reducible] def skC (B : SL) (s : Sk) (F : List As) : List As := rkC (skL B s) s.r (pt B.l4 (.lst (s.sp.map .int)) :: pt B.l5 (.lst (s.gn.map .int)) :: F)
theorem skM : ∀ m ∈ rackMeths, (m == ("places" : PySem.Str)) = false ∧ (m == ("spots" : PySem.Str)) = false ∧ (m == ("gone" : PySem.Str)) = false ∧ (m == ("next_one" : PySem.Str)) = false := by decide +kernel
theorem sk_nm {v1 v2 v3 v4 : V} : ∀ m ∈ rackMeths, List.lookup m [(("places" : PySem.Str), v1), ("spots", v2), ("gone", v3), ("next_one", v4)] = none := fun m hm =>
  lk_tl (skM m hm).1 (lk_tl (skM m hm).2.1 (lk_tl (skM m hm).2.2.1 (lk_tl (skM m hm).2.2.2 lk_nil)))
theorem skL_good {B : SL} {s : Sk} {Cs : List Addr} (h : B.C ∈ Cs) : (skL B s).good Cs := ⟨h, sk_nm⟩
theorem rkF_else {l1 l2 l3 : Addr} {more : List (PySem.Str × V)} {f : PySem.Str} {o : Option V} (h1 : (f == ("held_by" : PySem.Str)) = false) (h2 : (f == ("broken" : PySem.Str)) = false) (h3 : (f == ("taken" : PySem.Str)) = false) (h : more.lookup f = o) : (rkF l1 l2 l3 more).lookup f = o :=
  lk_tl h1 (lk_tl h2 (lk_tl h3 h))
theorem rkF_put {l1 l2 l3 : Addr} {more more' : List (PySem.Str × V)} {f : PySem.Str} {v : V} (h1 : (f == ("held_by" : PySem.Str)) = false) (h2 : (f == ("broken" : PySem.Str)) = false) (h3 : (f == ("taken" : PySem.Str)) = false) (h : putF f v more = more') : putF f v (rkF l1 l2 l3 more) = rkF l1 l2 l3 more' :=
  pf_tl h1 (pf_tl h2 (pf_tl h3 h))
structure ST (K : PySem.W.Frag) (Cs : List Addr) : Prop where
  cls : ∀ C ∈ Cs, Cls K C
  n1 : ∀ C ∈ Cs, NoAttr K C "places"
  n2 : ∀ C ∈ Cs, NoAttr K C "spots"
  n3 : ∀ C ∈ Cs, NoAttr K C "gone"
  n4 : ∀ C ∈ Cs, NoAttr K C "next_one"
section
variable {K : PySem.W.Frag} {Cs : List Addr} {H : Hp} {Q : VK} {C dx p l1 l2 l3 : Addr} {cs ds cs' : List As} {v1 v2 v3 v4 v : V} {R : Hp → Prop}
theorem s_pl (T : ST K Cs) (g : C ∈ Cs) (S : Sep cs H) (q : Pick (pt p (.ins C dx (rkF l1 l2 l3 [("places", v1), ("spots", v2), ("gone", v3), ("next_one", v4)]))) cs ds) (k : Q v1 H) : FldGet K "places" (.ref p) Q H :=
  s_fldR S q (T.cls _ g) (T.n1 _ g) (rkF_else (by decide +kernel) (by decide +kernel) (by decide +kernel) lk_hd) k
theorem s_sp (T : ST K Cs) (g : C ∈ Cs) (S : Sep cs H) (q : Pick (pt p (.ins C dx (rkF l1 l2 l3 [("places", v1), ("spots", v2), ("gone", v3), ("next_one", v4)]))) cs ds) (k : Q v2 H) : FldGet K "spots" (.ref p) Q H :=
  s_fldR S q (T.cls _ g) (T.n2 _ g) (rkF_else (by decide +kernel) (by decide +kernel) (by decide +kernel) (lk_tl (by decide +kernel) lk_hd)) k
theorem s_gn (T : ST K Cs) (g : C ∈ Cs) (S : Sep cs H) (q : Pick (pt p (.ins C dx (rkF l1 l2 l3 [("places", v1), ("spots", v2), ("gone", v3), ("next_one", v4)]))) cs ds) (k : Q v3 H) : FldGet K "gone" (.ref p) Q H :=
  s_fldR S q (T.cls _ g) (T.n3 _ g) (rkF_else (by decide +kernel) (by decide +kernel) (by decide +kernel) (lk_tl (by decide +kernel) (lk_tl (by decide +kernel) lk_hd))) k
theorem s_nx (T : ST K Cs) (g : C ∈ Cs) (S : Sep cs H) (q : Pick (pt p (.ins C dx (rkF l1 l2 l3 [("places", v1), ("spots", v2), ("gone", v3), ("next_one", v4)]))) cs ds) (k : Q v4 H) : FldGet K "next_one" (.ref p) Q H :=
  s_fldR S q (T.cls _ g) (T.n4 _ g) (rkF_else (by decide +kernel) (by decide +kernel) (by decide +kernel) (lk_tl (by decide +kernel) (lk_tl (by decide +kernel) (lk_tl (by decide +kernel) lk_hd)))) k
theorem s_nxS (T : ST K Cs) (g : C ∈ Cs) (S : Sep cs H) (q : Chg (pt p (.ins C dx (rkF l1 l2 l3 [("places", v1), ("spots", v2), ("gone", v3), ("next_one", v4)]))) (pt p (.ins C dx (rkF l1 l2 l3 [("places", v1), ("spots", v2), ("gone", v3), ("next_one", v)]))) cs cs')
    (k : ∀ H', Sep cs' H' → R H') : FldSet K "next_one" (.ref p) v R H := by
  have e : putF "next_one" v (rkF l1 l2 l3 [("places", v1), ("spots", v2), ("gone", v3), ("next_one", v4)]) = rkF l1 l2 l3 [("places", v1), ("spots", v2), ("gone", v3), ("next_one", v)] :=
    rkF_put (by decide +kernel) (by decide +kernel) (by decide +kernel) (pf_tl (by decide +kernel) (pf_tl (by decide +kernel) (pf_tl (by decide +kernel) pf_hd)))
  refine s_sfldR S (e ▸ q) (T.cls _ g) (T.n4 _ g) (by show 7 < 1000; decide) k
end
/-! ### what the defs of seekers are worth -/
def Sk.new (n : Nat) (pl : Int) : Sk := ⟨Rk.new n, pl, List.replicate n 0, List.replicate n 0, 0⟩
theorem Sk.new_ok {n : Nat} {pl : Int} (h0 : 0 < n) (h : n ≤ 60) (hp : 0 < pl) : (Sk.new n pl).ok := ⟨Rk.new_ok h, by simp [Sk.new, Rk.new], by simp [Sk.new, Rk.new], by simpa [Sk.new, Rk.new] using h0, hp⟩
def Sk.ord (s : Sk) : List Nat := (List.range s.r.held.length).map fun far => (s.nx + far) % s.r.held.length
def Sk.first (s : Sk) : Option Nat := s.ord.find? s.r.rdy
def Sk.way (s : Sk) (k : Nat) (place : Int) : Int := (place - s.sp.getD k 0) % s.pl
def Sk.took (s : Sk) (k : Nat) (place : Int) : Sk := { r := s.r.give k (.int place), pl := s.pl, sp := s.sp.set k place, gn := s.gn.set k (s.gn.getD k 0 + s.way k place), nx := (k + 1) % s.r.held.length }
def Rk.jam (r : Rk) : List Int := ((List.range r.held.length).filter fun k => r.brk.getD k false).map fun k => ((k : Nat) : Int)
section
variable (Cs : List Addr)
def spSkInit (C : Addr) : Sp := fun vs H Q E => ∃ (p dx : Addr) (n pl : Int) (F : List As), vs = [.ref p, .int n, .int pl] ∧ C ∈ Cs ∧ 1 ≤ n ∧ n ≤ 60 ∧ Sep (pt p (.ins C dx []) :: F) H ∧
  ∀ l1 l2 l3 l4 l5 H', Sep (skC ⟨C, dx, p, l1, l2, l3, l4, l5⟩ (Sk.new n.toNat pl) F) H' → Q .non H'
def spSkTake (C : Addr) : Sp := fun vs H Q E => ∃ (B : SL) (s : Sk) (place : Int) (F : List As), vs = [.ref B.p, .int place] ∧ B.C ∈ Cs ∧ s.ok ∧ Sep (skC B s F) H ∧
  (s.first = none → ∀ H', Sep (skC B s F) H' → Q .non H') ∧ (∀ k, s.first = some k → k < s.r.held.length → ∀ t H', Sep (pt t (.tup [.int k, .int (s.way k place)]) :: skC B (s.took k place) F) H' → Q (.ref t) H')
def spHolders (C : Addr) : Sp := fun vs H Q E => ∃ (L : RL) (r : Rk) (F : List As), vs = [.ref L.p] ∧ L.good Cs ∧ Sep (rkC L r F) H ∧ ∀ q H', Sep (pt q (.lst r.held) :: (rkC L r F)) H' → Q (.ref q) H'
def spJam (C : Addr) : Sp := fun vs H Q E => ∃ (L : RL) (r : Rk) (F : List As), vs = [.ref L.p] ∧ L.good Cs ∧ r.ok ∧ Sep (rkC L r F) H ∧ ∀ q H', Sep (pt q (.lst (r.jam.map .int)) :: (rkC L r F)) H' → Q (.ref q) H'
def spMark (C : Addr) : Sp := fun vs H Q E => ∃ (B : SL) (s : Sk) (F : List As), vs = [.ref B.p] ∧ B.C ∈ Cs ∧ Sep (skC B s F) H ∧ Q (.int s.nx) H
def spSteps (C : Addr) : Sp := fun vs H Q E => ∃ (B : SL) (s : Sk) (F : List As), vs = [.ref B.p] ∧ B.C ∈ Cs ∧ Sep (skC B s F) H ∧ ∀ q H', Sep (pt q (.lst (s.gn.map .int)) :: (skC B s F)) H' → Q (.ref q) H'
end
section
variable {Cs : List Addr} {C : Addr} {vs : List V} {H : Hp} {Q : VK} {E : XK}
theorem len_skinit (h : spSkInit Cs C vs H Q E) : vs.length = 3 := by obtain ⟨p, dx, n, pl, F, rfl, _⟩ := h; rfl
theorem len_sktake (h : spSkTake Cs C vs H Q E) : vs.length = 2 := by obtain ⟨L, r, v, F, rfl, _⟩ := h; rfl
theorem len_holders (h : spHolders Cs C vs H Q E) : vs.length = 1 := by obtain ⟨L, r, F, rfl, _⟩ := h; rfl
theorem len_jam (h : spJam Cs C vs H Q E) : vs.length = 1 := by obtain ⟨L, r, F, rfl, _⟩ := h; rfl
theorem len_mark (h : spMark Cs C vs H Q E) : vs.length = 1 := by obtain ⟨L, r, F, rfl, _⟩ := h; rfl
theorem len_steps (h : spSteps Cs C vs H Q E) : vs.length = 1 := by obtain ⟨L, r, F, rfl, _⟩ := h; rfl
end
end L2.Zs
namespace L2.Zs
open PySem PySem.Spec PyProof.Rows
/-! ## dicts written out -/
def DDone (p : Addr) (Q : VK) : List (V × V) → Hp → Prop := fun ps H2 => H2 p = some (.dK []) ∧ ∃ kvs : List (Key × V), ps = kvs.map (fun kv => (kV kv.1, kv.2)) ∧ kvs.length ≤ 15 ∧ Q (.ref p) (upd H2 p (.dK (mergeK [] kvs)))
def DNew (trs : List (TE × TE)) (σ : St) (Q : VK) (H : Hp) : Prop := ∀ p, H p = none → tPairs trs σ (upd H p (.dK [])) (DDone p Q)
theorem putK_new {kvs : List (Key × V)} {ks : List Key} {k : Key} {v : V} (e : kvs.map (·.1) = ks) (hn : (k :: ks).Nodup) : putK kvs k v = kvs ++ [(k, v)] := by
  have h : k ∉ ks := (List.nodup_cons.mp hn).1
  unfold putK
  rw [if_neg]
  intro z
  obtain ⟨kv, h1, h2⟩ := List.any_eq_true.mp z
  exact h (e ▸ of_decide_eq_true h2 ▸ List.mem_map_of_mem h1)
theorem merge_acc : ∀ {more acc : List (Key × V)}, ((acc ++ more).map (·.1)).Nodup → mergeK acc more = acc ++ more
  | [], acc, _ => by simp [mergeK]
  | (k, v) :: r, acc, h => by
    show mergeK (putK acc k v) r = _
    rw [putK_new rfl (by
      rw [List.map_append, List.nodup_append] at h
      exact List.nodup_cons.mpr ⟨fun z => h.2.2 k z k (by simp) rfl, h.1⟩), merge_acc (by simpa using h)]
    simp
theorem merge_new {kvs : List (Key × V)} {ks : List Key} (e : kvs.map (·.1) = ks) (h : ks.Nodup) : mergeK [] kvs = kvs := by
  rw [merge_acc (by rw [List.nil_append, e]; exact h)]
  rfl
section
variable {K : PySem.W.Frag} {σ : St} {H : Hp} {Q : VK} {tk tv : TE} {r trs : List (TE × TE)} {QP : List (V × V) → Hp → Prop} {cs cs' ds : List As} {p : Addr} {ps : List (V × V)}
instance : Stp (tDisp trs σ H Q) (DNew trs σ Q H) := ⟨id⟩
instance : Stp (tPairs [] σ H QP) (QP [] H) := ⟨id⟩
instance : Stp (tPairs ((tk, tv) :: r) σ H QP) (tk σ H fun x H1 => tv σ H1 fun y H2 => tPairs r σ H2 fun ps H3 => QP ((x, y) :: ps) H3) := ⟨id⟩
theorem s_dnew (S : Sep cs H) (k : ∀ p H', Sep (pt p (.dK []) :: cs) H' → tPairs trs σ H' (DDone p Q)) : DNew trs σ Q H := fun p hp => k p _ (S.new hp)
theorem s_ddone {kvs : List (Key × V)} {ks : List Key} (S : Sep cs H) (g : Chg (pt p (.dK [])) (pt p (.dK kvs)) cs cs') (e : ps = kvs.map (fun kv => (kV kv.1, kv.2))) (hl : kvs.length ≤ 15) (ek : kvs.map (·.1) = ks) (hn : ks.Nodup) (k : ∀ H', Sep cs' H' → Q (.ref p) H') : DDone p Q ps H := by
  refine ⟨(let ⟨_, q, _⟩ := g.pick; S.get q), kvs, e, hl, ?_⟩
  rw [merge_new ek hn]
  exact k _ (S.set g rfl)
instance {QT : Bool → Hp → Prop} : Stp (tYes σ H QT) (QT true H) := ⟨id⟩
instance {A B : Prop} : Stp (if decide (V.non = V.non) = true then A else B) A := ⟨fun h => by rw [decide_eq_true rfl]; exact s_t h⟩
instance {a : Addr} {A B : Prop} : Stp (if decide (V.ref a = V.non) = true then A else B) B := ⟨fun h => by rw [decide_eq_false (fun z => nomatch z)]; exact s_f h⟩
instance {i : Int} {A B : Prop} : Stp (if decide (V.int i = V.non) = true then A else B) B := ⟨fun h => by rw [decide_eq_false (fun z => nomatch z)]; exact s_f h⟩
instance {a : Addr} {A B : Prop} : Stp (if (!decide (V.ref a = V.non)) = true then A else B) A := ⟨fun h => by rw [decide_eq_false (fun z => nomatch z)]; exact s_t h⟩
instance {A B : Prop} : Stp (if (!decide (V.non = V.non)) = true then A else B) B := ⟨fun h => by rw [decide_eq_true rfl]; exact s_f h⟩
/-! ## sorted -/
theorem s_sorted {a : Addr} {ns : List Int} (S : Sep cs H) (q : Pick (pt a (.lst (ns.map V.int))) cs ds) (h : ns.length < 64) (k : ∀ (ns' : List Int) (l : Addr) (H' : Hp), ns'.Perm ns → ns'.Pairwise (· ≤ ·) → Sep (pt l (.lst (ns'.map V.int)) :: cs) H' → Q (.ref l) H') : rSorted K [.ref a] H Q :=
  ⟨a, ns, rfl, SqL.of (S.get q), h, fun ns' l p1 p2 hl => k ns' l _ p1 p2 (S.new hl)⟩
end
theorem sorted_eq : ∀ {xs ys : List Int}, xs.Perm ys → xs.Pairwise (· ≤ ·) → ys.Pairwise (· ≤ ·) → xs = ys
  | [], ys, p, _, _ => (List.nil_perm.mp p).symm
  | x :: xs, [], p, _, _ => absurd p.length_eq (by simp)
  | x :: xs, y :: ys, p, h1, h2 => by
    have a1 := List.pairwise_cons.mp h1
    have a2 := List.pairwise_cons.mp h2
    have e : x = y := by
      have m1 : x ∈ y :: ys := p.subset List.mem_cons_self
      have m2 : y ∈ x :: xs := p.symm.subset List.mem_cons_self
      rcases List.mem_cons.mp m1 with e | m1
      · exact e
      · rcases List.mem_cons.mp m2 with e | m2
        · exact e.symm
        · have := a1.1 y m2
          have := a2.1 x m1
          omega
    subst e
    rw [sorted_eq ((List.perm_cons x).mp p) a1.2 a2.2]
/-! ## lists of flat lists compared -/
section
variable {K : PySem.W.Frag} {H : Hp} {Q : VK} {t1 t2 a1 a2 a3 a4 b1 b2 b3 b4 : Addr} {x1 x2 x3 x4 : List V} {cs ds es c1 c2 c3 c4 d1 d2 d3 d4 : List As}
theorem shaped_4 (h1 : ∀ v ∈ x1, okV v = true) (h2 : ∀ v ∈ x2, okV v = true) (h3 : ∀ v ∈ x3, okV v = true) (h4 : ∀ v ∈ x4, okV v = true) : SeqAt.shaped (.list [.list (x1.map dV), .list (x2.map dV), .list (x3.map dV), .list (x4.map dV)]) = true := by
  show ((PyData.canLayAll0 (x1.map dV) && (PyData.canLayAll0 (x2.map dV) && (PyData.canLayAll0 (x3.map dV) && (PyData.canLayAll0 (x4.map dV) && true)))) && decide (max (PyData.depthAll (x1.map dV) + 1) (max (PyData.depthAll (x2.map dV) + 1) (max (PyData.depthAll (x3.map dV) + 1) (max (PyData.depthAll (x4.map dV) + 1) 0))) + 1 ≤ 64)) = true
  rw [canAll_flat h1, canAll_flat h2, canAll_flat h3, canAll_flat h4, depAll_flat, depAll_flat, depAll_flat, depAll_flat]
  rfl
theorem s_ne4 (S : Sep cs H) (p : Pick (pt t1 (.lst [.ref a1, .ref a2, .ref a3, .ref a4])) cs ds) (q : Pick (pt t2 (.lst [.ref b1, .ref b2, .ref b3, .ref b4])) cs es)
    (p1 : Pick (pt a1 (.lst x1)) cs c1) (p2 : Pick (pt a2 (.lst x2)) cs c2) (p3 : Pick (pt a3 (.lst x3)) cs c3) (p4 : Pick (pt a4 (.lst x4)) cs c4) (q1 : Pick (pt b1 (.lst x1)) cs d1) (q2 : Pick (pt b2 (.lst x2)) cs d2) (q3 : Pick (pt b3 (.lst x3)) cs d3) (q4 : Pick (pt b4 (.lst x4)) cs d4)
    (h1 : ∀ v ∈ x1, okV v = true) (h2 : ∀ v ∈ x2, okV v = true) (h3 : ∀ v ∈ x3, okV v = true) (h4 : ∀ v ∈ x4, okV v = true) (k : Q (.bl false) H) : rNeZ K (.ref t1) (.ref t2) H Q := by
  have L : ∀ {a : Addr} {x : List V} {cs' : List As}, Pick (pt a (.lst x)) cs cs' → (∀ v ∈ x, okV v = true) → Dp K H (.ref a) (.list (x.map dV)) := fun q h => .lst (SqL.of (S.get q)) (dpAll_flat h)
  refine s_neD (.lst (SqL.of (S.get p)) (.cons (L p1 h1) (.cons (L p2 h2) (.cons (L p3 h3) (.cons (L p4 h4) .nil))))) (.lst (SqL.of (S.get q)) (.cons (L q1 h1) (.cons (L q2 h2) (.cons (L q3 h3) (.cons (L q4 h4) .nil))))) (shaped_4 h1 h2 h3 h4) (shaped_4 h1 h2 h3 h4) ?_
  rw [eqv_same (shaped_4 h1 h2 h3 h4)]
  exact k
end
theorem k_sorted {X : Cx} {K : PySem.W.Frag} (hK : X.K = K) : CallR X (.builtin "sorted") (rSorted K) := hK ▸ cr_sorted
end L2.Zs
namespace L2.Zs
open PySem PySem.Spec PyProof.Rows
/-! ## a text over and over -/
def rRepS : R2 := fun x y H Q => ∃ (z : PySem.Str) (k : Int), x = .str z ∧ y = .int k ∧ 1 ≤ k ∧ k < 1000 ∧ z.length ≤ 10000 ∧ ∀ z' : PySem.Str, z'.length ≤ z.length * k.toNat → Q (.str z') H
theorem fold_len (x : Array Nat) : ∀ (n : Nat) (b : Array Nat), ((List.replicate n x).foldl (· ++ ·) b).size = b.size + x.size * n
  | 0, b => by simp
  | n + 1, b => by
    rw [List.replicate_succ, List.foldl_cons, fold_len x n (b ++ x), Array.size_append, Nat.mul_succ]
    omega
theorem zo_repS {X : Cx} : OpR X (binaryOp .Mult) rRepS := by
  intro pins s σ H x y v u Q I rx ry h
  obtain ⟨z, k, rfl, rfl, k1, k2, hz, q⟩ := h
  obtain ⟨t, rfl⟩ := rx
  obtain ⟨t', rfl⟩ := ry
  have hl : z.length * k.toNat ≤ sizeLine := by
    refine Nat.le_trans (Nat.mul_le_mul hz (show k.toNat ≤ 1000 by omega)) (by decide)
  refine PySem.P.mul_str (by rw [decide_eq_false (by omega), decide_eq_false (by omega)]; rfl) (fun _ _ => ?_) (fun _ _ => ?_) ?_
  · have h1 : (z.length : Int) ≤ 10000 := Int.ofNat_le.mpr hz
    have h2 : (10000 : Int) ≤ (2 ^ 63 - 1) / k := by
      rw [Int.le_ediv_iff_mul_le (by omega)]
      omega
    omega
  · show decide (z.length * k.toNat > sizeLine) = false
    exact decide_eq_false (by omega)
  · rw [if_neg (by omega)]
    split
    · exact ⟨.str z, H, I, ⟨_, rfl⟩, q z (by
        have : 1 ≤ k.toNat := by omega
        exact Nat.le_mul_of_pos_right _ this)⟩
    · refine ⟨PySem.fits_reps (by show decide (z.length * k.toNat > sizeLine) = false; exact decide_eq_false (by omega)), ?_⟩
      · refine ⟨.str _, H, I.tok _, ⟨_, rfl⟩, q _ ?_⟩
        show Array.size _ ≤ _
        rw [fold_len]
        simp [PySem.Str.length]
/-! ## texts walked and cut -/
section
variable {K : PySem.W.Frag} {H : Hp} {Q : VK} {σ : St} {g : TG} {tB : TS} {D : Ends} {te : TE} {R : It → Hp → Prop} {z : PySem.Str} {cs ds cs' : List As}
def ForS (g : TG) (tB : TS) (D : Ends) (σ : St) (x : V) (H : Hp) : Prop := ∃ z, x = .str z ∧ Lp (Its z) g tB D σ H
instance : Stp (tFor (iStr te) g tB D σ H) (te σ H fun x H1 => ForS g tB D σ x H1) := ⟨id⟩
theorem s_forS (k : Lp (Its z) g tB D σ H) : ForS g tB D σ (.str z) H := ⟨z, rfl, k⟩
theorem lp_str (Pv : Nat → St → Hp → Prop) (h0 : Pv 0 σ H) (hs : ∀ i c σ H, z.cps.toList[i]? = some c → Pv i σ H → g (.str ⟨#[c]⟩) σ H fun σ2 H2 => tB { D with nx := Pv (i + 1), ct := Pv (i + 1), bk := D.nx } σ2 H2) (hd : ∀ σ H, Pv z.cps.toList.length σ H → D.nx σ H) :
    Lp (Its z) g tB D σ H := by
  refine ⟨fun i m σ H => m = z.cps.size - i ∧ i ≤ z.cps.size ∧ Pv i σ H, ⟨z.cps.size, by simp, Nat.zero_le _, h0⟩, ?_⟩
  rintro i m σ H ⟨rfl, hi, p⟩
  by_cases hlt : i < z.cps.size
  · refine .inr ⟨hlt, Pv (i + 1), fun σ' H' p' => ⟨z.cps.size - (i + 1), by omega, rfl, hlt, p'⟩, fun x H' y => ?_⟩
    obtain ⟨e, c, hc, rfl⟩ := y
    subst e
    exact hs i c σ _ (by rw [Array.getElem?_toList]; exact hc) p
  · have e : i = z.cps.size := by omega
    subst e
    exact .inl ⟨Nat.le_refl _, hd σ H (by rw [Array.length_toList]; exact p)⟩
theorem s_slS {lo hi : Option Int} (h : z.length ≤ 10000000) (k : ∀ z' : PySem.Str, z'.length ≤ z.length → Q (.str z') H) : rSlS (.str z) lo hi H Q :=
  ⟨z, rfl, Nat.le_trans h (by decide), k _ (cutS_length z lo hi)⟩
end
section
variable {H : Hp} {Q : VK} {σ : St} {te : TE} {lo hi : TO} {r : V → Option Int → Option Int → Hp → VK → Prop} {QO : Option Int → Hp → Prop} {i : Int} {R : Int → Prop}
instance : Stp (L2.tSl r te lo hi σ H Q) (te σ H fun x H1 => lo σ H1 fun l H2 => hi σ H2 fun u H3 => r x l u H3 Q) := ⟨id⟩
instance : Stp (tNoPart σ H QO) (QO none H) := ⟨id⟩
instance : Stp (tPart te σ H QO) (te σ H fun x H1 => ∃ i, x = .int i ∧ QO (some i) H1) := ⟨id⟩
instance : Stp (∃ j, V.int i = .int j ∧ R j) (R i) := ⟨fun k => ⟨i, rfl, k⟩⟩
end
/-! ## many tuples -/
def tl (as : List Addr) (ds : List (List V)) : As := fun H => as.length = ds.length ∧ ∀ (i : Nat) (a : Addr) (d : List V), as[i]? = some a → ds[i]? = some d → H a = some (.tup d)
theorem Sep.join {c d e : As} {F : List As} {H : Hp} (h : Sep (c :: d :: F) H) (f : ∀ H1 H2 H', Le H1 H' → Le H2 H' → c H1 → d H2 → e H') : Sep (e :: F) H := by
  obtain ⟨H1, H2, a, b, x, q, H3, H4, a2, b2, x2, q2, y⟩ := h
  exact ⟨uni H1 H3, H4, uni_le a (a2.trans b), b2.trans b, dj_uni (x.le (Le.refl _) b2) x2, f _ _ _ le_uni1 (le_uni2 a (a2.trans b)) q q2, y⟩
theorem Sep.tl0 {F : List As} {H : Hp} (h : Sep F H) : Sep (tl [] [] :: F) H :=
  ⟨fun _ => none, H, (fun _ _ q => nomatch q), Le.refl _, (fun _ _ q => nomatch q), ⟨rfl, fun i a d h => by simp at h⟩, h⟩
theorem Sep.tlAdd {as : List Addr} {ds : List (List V)} {t : Addr} {d : List V} {n : Nat} {F : List As} {H : Hp} (h : Sep (pt t (.tup d) :: tl as ds :: F) H) : Sep (tl (as ++ List.replicate n t) (ds ++ List.replicate n d) :: F) H := by
  refine h.join fun H1 H2 H' l1 l2 q1 q2 => ⟨by simp [q2.1], fun i a d' h1 h2 => ?_⟩
  by_cases c : i < as.length
  · rw [List.getElem?_append_left c] at h1
    rw [List.getElem?_append_left (q2.1 ▸ c)] at h2
    exact l2 _ _ (q2.2 i a d' h1 h2)
  · rw [List.getElem?_append_right (by omega)] at h1
    rw [List.getElem?_append_right (by rw [← q2.1]; omega)] at h2
    have e1 := List.eq_of_mem_replicate (List.mem_of_getElem? h1)
    have e2 := List.eq_of_mem_replicate (List.mem_of_getElem? h2)
    subst e1 e2
    exact l1 _ _ q1
theorem Sep.tlGet {as : List Addr} {ds : List (List V)} {cs es : List As} {H : Hp} (h : Sep cs H) (p : Pick (tl as ds) cs es) : tl as ds H := by
  obtain ⟨H1, H2, l, _, _, q, _⟩ := h.pick p
  exact ⟨q.1, fun i a d h1 h2 => l _ _ (q.2 i a d h1 h2)⟩
def dT (d : List V) : PyData := .tuple (d.map dV)
theorem dp_tups {K : PySem.W.Frag} {H : Hp} : ∀ {as : List Addr} {ds : List (List V)}, tl as ds H → (∀ d ∈ ds, ∀ v ∈ d, okV v = true) → DpAll K H (as.map V.ref) (ds.map dT)
  | [], [], _, _ => .nil
  | [], _ :: _, h, _ => by cases h.1
  | _ :: _, [], h, _ => by cases h.1
  | a :: as, d :: ds, h, ok => .cons (.tup (SqT.of (h.2 0 a d rfl rfl)) (dpAll_flat (ok d List.mem_cons_self))) (dp_tups ⟨by have := h.1; simpa using this, fun i a d h1 h2 => h.2 (i + 1) a d h1 h2⟩ fun d' h' => ok d' (List.mem_cons_of_mem _ h'))
theorem can_tups : ∀ {ds : List (List V)}, (∀ d ∈ ds, ∀ v ∈ d, okV v = true) → PyData.canLayAll0 (ds.map dT) = true
  | [], _ => rfl
  | d :: ds, ok => by
    show (PyData.canLayAll0 (d.map dV) && PyData.canLayAll0 (ds.map dT)) = true
    rw [canAll_flat (ok d List.mem_cons_self), can_tups fun d' h' => ok d' (List.mem_cons_of_mem _ h')]
    rfl
theorem dep_tups : ∀ (ds : List (List V)), PyData.depthAll (ds.map dT) ≤ 1
  | [] => Nat.zero_le _
  | d :: ds => by
    show max (PyData.depthAll (d.map dV) + 1) (PyData.depthAll (ds.map dT)) ≤ 1
    rw [depAll_flat]
    have := dep_tups ds
    omega
theorem shaped_tups {ds : List (List V)} (ok : ∀ d ∈ ds, ∀ v ∈ d, okV v = true) : SeqAt.shaped (.list (ds.map dT)) = true := by
  show (PyData.canLayAll0 (ds.map dT) && decide (PyData.depthAll (ds.map dT) + 1 ≤ 64)) = true
  rw [can_tups ok, decide_eq_true (by have := dep_tups ds; omega)]
  rfl
section
variable {K : PySem.W.Frag} {H : Hp} {Q : VK} {a b : Addr} {as bs : List Addr} {dd : List (List V)} {cs c1 c2 c3 c4 : List As}
theorem s_neLD (S : Sep cs H) (p : Pick (pt a (.lst (as.map V.ref))) cs c1) (pt' : Pick (tl as dd) cs c2) (q : Pick (pt b (.lst (bs.map V.ref))) cs c3) (qt : Pick (tl bs dd) cs c4) (ok : ∀ d ∈ dd, ∀ v ∈ d, okV v = true) (k : Q (.bl false) H) : rNeZ K (.ref a) (.ref b) H Q := by
  refine s_neD (.lst (SqL.of (S.get p)) (dp_tups (S.tlGet pt') ok)) (.lst (SqL.of (S.get q)) (dp_tups (S.tlGet qt) ok)) (shaped_tups ok) (shaped_tups ok) ?_
  rw [eqv_same (shaped_tups ok)]
  exact k
theorem s_eqLD (S : Sep cs H) (p : Pick (pt a (.lst (as.map V.ref))) cs c1) (pt' : Pick (tl as dd) cs c2) (q : Pick (pt b (.lst (bs.map V.ref))) cs c3) (qt : Pick (tl bs dd) cs c4) (ok : ∀ d ∈ dd, ∀ v ∈ d, okV v = true) (k : Q (.bl true) H) : rEqZ K (.ref a) (.ref b) H Q := by
  refine s_eqD (.lst (SqL.of (S.get p)) (dp_tups (S.tlGet pt') ok)) (.lst (SqL.of (S.get q)) (dp_tups (S.tlGet qt) ok)) (shaped_tups ok) (shaped_tups ok) ?_
  rw [eqv_same (shaped_tups ok)]
  exact k
end
end L2.Zs
namespace L2.Zs
open PySem PySem.Spec PyProof.Rows
/-! ## set(a list of texts): how many are unlike -/
structure Cnt (xs : List PySem.Str) (i c : Nat) : Prop where
  le : c ≤ i
  nd : c = i ↔ (xs.take i).Nodup
theorem Cnt.zero (xs : List PySem.Str) : Cnt xs 0 0 := ⟨Nat.le_refl _, by simp⟩
theorem Cnt.next {xs : List PySem.Str} {i c : Nat} (h : Cnt xs i c) {x : PySem.Str} (hx : xs[i]? = some x) : Cnt xs (i + 1) (if decide (x ∈ xs.take i) = true then c else c + 1) := by
  have e : xs.take (i + 1) = xs.take i ++ [x] := by rw [List.take_succ, hx]; rfl
  have hl := h.le
  by_cases m : x ∈ xs.take i
  · rw [if_pos (decide_eq_true m)]
    refine ⟨by omega, ⟨fun z => by omega, fun z => ?_⟩⟩
    rw [e, List.nodup_append] at z
    exact absurd rfl (z.2.2 x m x List.mem_cons_self)
  · rw [if_neg (by rw [decide_eq_false m]; decide)]
    refine ⟨by omega, ?_⟩
    rw [e, List.nodup_append]
    constructor
    · intro z
      exact ⟨h.nd.mp (by omega), by simp, fun a ha b hb => by rw [List.mem_singleton.mp hb]; exact fun y => m (y ▸ ha)⟩
    · intro z
      have := h.nd.mpr z.1
      omega
section
variable {P : Program} {w : World} {A : Around} {E : Value → Shared → Prop} {s : Shared}
abbrev TxSet (P : Program) (w : World) (h : Heap) (S : Addr) (ys : List PySem.Str) (c : Nat) : Prop := h.SetOf (PySem.strKind P w) S (fun k => decide (k ∈ ys)) c
theorem TxSet.at {h h' : Heap} {S : Addr} {ys : List PySem.Str} {c : Nat} (x : TxSet P w h S ys c) (k : ∀ o, h.get? S = some o → h'.get? S = some o) : TxSet P w h' S ys c := by
  obtain ⟨o, es, ep, t, ho, r⟩ := x
  exact ⟨o, es, ep, t, k o ho, r⟩
/-- the loop that lays the texts, one by one -/
theorem tx_loop {R : Result → Shared → Prop} {I : Addr} {fp wr : List Addr} {G : Array GenState → Array GenState → Prop} {n : Nat} {Pv : Nat → Value → Prop} {St : Nat → Shared → Prop} (W : WalksS P w A.in1 I fp wr G n Pv St) (S : Addr) (out : S ∉ fp) (xs : List PySem.Str) (en : xs.length = n) (few : n + 1 < scanBound)
    (val : ∀ i v, Pv i v → ∃ z t, xs[i]? = some z ∧ v = .str z t) : ∀ (k i : Nat) (s : Shared) (c : Nat), n - i = k → i ≤ n → St i s → TxSet P w s.heap S (xs.take i) c → Cnt xs i c →
      (∀ s' c', Moved (S :: wr) G s s' → TxSet P w s'.heap S xs c' → Cnt xs n c' → R (.ok (.ret .none)) s') → codeAny (model P w) A (.builtin "set.update.loop" ⟨[.ref S, .ref I], []⟩) R s := by
  have out2 : S ∉ wr := fun h => out (W.sub _ h)
  have inn : ∀ b ∈ wr, b ∈ S :: wr := fun _ hb => .tail _ hb
  intro k; induction k with
  | zero =>
    intro i s c hk hi hst hS hc hR
    obtain rfl : i = n := by omega
    refine codeAny_builtin PyProof.Rows.F.entry_set_update_loop ?_; rw [Around.under_plainId PyProof.Rows.F.plain_set_update_loop _]
    change wpAny _ A.in1 (pyNext (.ref I) >>= _) _ _ s; refine wpAny_bind (W.done s _ _ hst fun s' hm => ?_); rw [List.take_of_length_le (by omega)] at hS
    change wpAny _ A.in1 (ret Value.none) _ _ s'; exact wpAny_pure (hR s' c (hm.mono inn) (hS.at fun o e => hm.heap S o out2 e) hc)
  | succ k ih =>
    intro i s c hk hi hst hS hc hR
    have lt : i < n := by omega
    refine codeAny_builtin PyProof.Rows.F.entry_set_update_loop ?_; rw [Around.under_plainId PyProof.Rows.F.plain_set_update_loop _]
    change wpAny _ A.in1 (pyNext (.ref I) >>= _) _ _ s; refine wpAny_bind (W.item i s _ _ lt hst fun v s' hP hst' hm => ?_)
    obtain ⟨z, t, hz, rfl⟩ := val i v hP
    have hS1 : TxSet P w s'.heap S (xs.take i) c := hS.at fun o e => hm.heap S o out2 e
    have ci := hc.le
    change wpAny _ A.in1 (holding [Value.str z t] (setAdd S (.str z t)) >>= _) _ _ s'; refine wpAny_bind (wpAny_holding ?_); unfold setAdd; refine wpAny_holding (wpAny_bind ?_)
    refine (PySem.strKind P w).pyHash (k := z) (strKind_is _ _ _ _) ?_; refine wpAny_setAddHashed_of (knd := PySem.strKind P w) (s := { s' with toks := s'.toks + 1 }) (strKind_is _ _ _ _) rfl hS1 (by omega) fun h2 sb hS2 => ?_
    have hS3 : TxSet P w h2 S (xs.take (i + 1)) (if decide (z ∈ xs.take i) = true then c else c + 1) := PyProof.Rows.SetOf_congr hS2 (fun q => by rw [List.take_succ, hz]; simp [List.mem_append]) rfl
    refine wpAny_pure ⟨plainId_quiet PyProof.Rows.F.plain_set_update_loop _, ih (i + 1) _ _ (by omega) lt (W.frame _ s' _ _ hst' (Nat.le_succ _) fun b hb o e => (sb.2 b fun (y : b = S) => out (y ▸ hb)).trans e) hS3 (hc.next hz) fun s3 c3 m3 x3 y3 => ?_⟩
    exact hR s3 c3 (Moved.trans W.gtrans ((hm.mono inn).then_heap (Nat.le_succ _) fun b o hb e => (sb.2 b fun (y : b = S) => hb (y ▸ .head _)).trans e) m3) x3 y3
abbrev nil0 (led : Bool) : Obj := { cls := .type "set", dict := none, data := .set #[] 0 (.fresh 0 0 led) }
set_option maxHeartbeats 3200000 in
/-- set(l) of a list of texts -/
theorem tx_set {l : Addr} {items : Array Value} {xs : List PySem.Str} {Q : Value → Shared → Prop} (hh : A.handled = none) (hl : s.heap.IsList l items) (val : ∀ (i : Nat) (v : Value), items[i]? = some v → ∃ z t, xs[i]? = some z ∧ v = .str z t) (en : xs.length = items.size) (few : xs.length + 1 < scanBound)
    (h : ∀ (h' : Heap) (tk c : Nat), TxSet P w h' s.heap.objs.size xs c → Cnt xs xs.length c → (∀ b o, b < s.heap.objs.size → s.heap.get? b = some o → h'.get? b = some o) → Q (.ref s.heap.objs.size) { s with heap := h', toks := tk }) : wpAny (model P w) A (call (.type "set") [.ref l]) Q E s := by
  obtain ⟨c0, tl0, hmro⟩ := PySem.F.called_set.mro; have made := PySem.F.called_set.made; have sub0 := PySem.F.called_set.sub
  refine wpAny_call (codeAny_of_tree ?_); change wpAny _ _ (callAny (.type "set") _) _ _ _
  refine wpAny_pure ⟨Code.quiet_builtin _ (by decide +kernel), ?_⟩; refine codeAny_builtin PySem.F.entry_type_call ?_; rw [Around.under_plain (weight_type_call_type "set" [.ref l] []) rfl]
  have k1 := PySem.F.called_set.notType; have k2 := PySem.F.called_set.canCreate; have k3 := PySem.F.typeCall_set_1 (.ref l)
  repeat any_goals first | assumption | wp_step
  refine codeAny_mono (PySem.code_set_new_1 (.ref l) (E := E) (Q₁ := fun ob s1 => ∃ led : Bool, ob = .ref s.heap.objs.size ∧ s1 = { s with heap := s.heap.push (nil0 led) }) fun led => ⟨led, rfl, rfl⟩) fun r s1 hr => ?_
  rcases r with e | fl
  · exact hr
  cases fl <;> first | exact hr.elim | skip
  obtain ⟨led, rfl, rfl⟩ := hr
  have at0 : (s.heap.push (nil0 led)).get? s.heap.objs.size = some (nil0 led) := Heap.get?_push_size _ rfl
  have ty0 : Shared.TypeIs { s with heap := s.heap.push (nil0 led) } (.ref s.heap.objs.size) "set" := ⟨_, at0, rfl⟩
  have i1 := PySem.F.called_set.init.lookup; have i2 := PySem.F.called_set.init.bind (.ref s.heap.objs.size)
  repeat any_goals first | assumption | wp_step
  refine codeAny_mono (codeAny_call_builtin (R := wants (fun r s2 => r = .none ∧ ∃ h' tk c, s2 = { s with heap := h', toks := tk } ∧ TxSet P w h' s.heap.objs.size xs c ∧ Cnt xs xs.length c ∧ ∀ b o, b < s.heap.objs.size → s.heap.get? b = some o → h'.get? b = some o) E)
    PySem.F.called_set.init.plain PySem.F.entry_set_init (PySem.check_set_init_1 ty0 ?_)) fun r2 s2 hr2 => ?_
  · obtain ⟨⟨oc, od, oda, osl⟩, ho, hcl, nl, hdl⟩ := hl
    dsimp only at hcl hdl; subst hcl hdl
    have lh : (s.heap.push (nil0 led)).get? l = some { cls := .type "list", dict := od, data := .seq items nl, slots := osl } := Heap.get?_push_of_some _ ho
    have s1 := PySem.F.sub_list_set; have s2 := PySem.F.sub_list_frozenset; have nd : (Value.type "list" == Value.type "dict") = false := by decide
    have ll : (s.heap.push (nil0 led)).IsList l items := ⟨_, lh, rfl, nl, rfl⟩
    unfold Builtin.«set.__init__» noKeywords Builtin.Frozenset.updateFrom; generalize hPI : pyIter = PI; wp_walk; subst hPI
    refine wpAny_pyIter_list ll (wpAny_bind (wpAny_runValue ?_))
    have lS : l < s.heap.objs.size := Heap.lt_size ho
    have q3 : A.in1.in1.in1.handled = none := by simp [hh]
    have z1 : (s.heap.push (nil0 led)).objs.size = s.heap.objs.size + 1 := Heap.size_push ..
    have n1 : l ≠ (s.heap.push (nil0 led)).objs.size := by rw [z1]; exact Nat.ne_of_lt (Nat.lt_succ_of_lt lS)
    have n2 : s.heap.objs.size ∉ [(s.heap.push (nil0 led)).objs.size, l] := by rw [z1]; simp; exact Nat.ne_of_gt lS
    refine tx_loop ((Walks.list q3 _ l n1 items).toS) s.heap.objs.size n2 xs en (by omega) val (items.size - 0) 0 _ 0 (by omega) (Nat.zero_le _) ⟨⟨_, Heap.get?_push_size _ rfl, rfl, rfl⟩, (ll.push _)⟩ ?_ (Cnt.zero xs) ?_
    · exact PyProof.Rows.SetOf_congr ((PyProof.Rows.setObjOf_fresh (knd := PySem.strKind P w) led).setOf (Heap.get?_push_of_some _ at0) (by decide)) (fun k => by simp) rfl
    · rintro ⟨h', g', d', tk', os'⟩ c' hm hS hC
      obtain rfl : g' = s.gens := hm.gens
      obtain rfl : d' = s.drawn := hm.drawn
      obtain rfl : os' = s.os := hm.os
      change wpAny _ _ _ _ _ _; refine wpAny_pure ?_; change wpAny _ _ (ret Value.none) _ _ _
      refine wpAny_pure ⟨rfl, h', tk', c', rfl, hS, en ▸ hC, fun b o hb e => ?_⟩
      exact hm.heap b o (by rw [z1]; simp only [List.mem_cons, List.not_mem_nil, or_false, not_or]; exact ⟨Nat.ne_of_lt hb, Nat.ne_of_lt (Nat.lt_succ_of_lt hb)⟩) (Heap.get?_push_of_some _ (Heap.get?_push_of_some _ e))
  · rcases r2 with e | f2
    · exact hr2
    cases f2 <;> first | exact hr2.elim | skip
    obtain ⟨rfl, h', tk, c, rfl, q1, q2, q3⟩ := hr2
    repeat any_goals first | assumption | wp_step
    exact h _ _ _ q1 q2 q3
end
theorem texts_at : ∀ {xs : List PySem.Str} {us : List Value}, Vals (xs.map V.str) us → ∀ (i : Nat) (v : Value), us[i]? = some v → ∃ z t, xs[i]? = some z ∧ v = .str z t
  | [], _, .nil, i, v, h => by simp at h
  | x :: xs, _, .cons r t, 0, v, h => by
    obtain ⟨k, rfl⟩ := r
    exact ⟨x, k, rfl, (Option.some.inj h).symm⟩
  | x :: xs, _, .cons r t, i + 1, v, h => texts_at t i v h
/-- len(set(a)) of a list of texts -/
def tLenU (K : PySem.W.Frag) (ta : TE) : TE := fun σ H Q => ta σ H fun x H1 => ∃ (l : Addr) (xs : List PySem.Str), x = .ref l ∧ SqL K H1 l (xs.map V.str) ∧ xs.length ≤ 1000 ∧ ∀ c, Cnt xs xs.length c → Q (.int (c : Nat)) H1
theorem z_lenU {X : Cx} {K : PySem.W.Frag} {a : Expr} {ta : TE} {p p2 q pos : Pos} (hK : X.K = K) (hc : X.calm = true) (hg : Gl X "len") (hm : X.mg "len" = none) (hg2 : Gl X "set") (hm2 : X.mg "set" = none) (ha : PE X a ta)
    (na : starEach [a] X.env = (false, eval a X.env) :: starEach [] X.env := by rfl) : PE X (.Call (.Name "len" p) [.Call (.Name "set" p2) [a] [] q] [] pos) (tLenU K ta) := by
  subst hK; refine ⟨fun pins s σ H Q I h => Call_ (ld_blt I hg hm boot_len ?_)⟩
  refine PyProof.Rows.callWith_builtin1 (PyProof.Rows.args_cons (Call_ (ld_blt I hg2 hm2 boot_set ?_)) rfl) rfl rfl
  refine PyProof.Rows.callWith_type1 (PyProof.Rows.args_cons (thn (ha.run pins s σ H _ I h) fun v s1 ⟨x, H1, I1, r1, l, xs, ex, hq, h1, q1⟩ => PyProof.Rows.args_nil ?_) na) na rfl
  subst ex; cases r1; obtain ⟨its, r, pl, hz⟩ := I1.list hq
  have el : xs.length = its.toArray.size := by rw [List.size_toArray, ← r.length, List.length_map]
  refine tx_set (I1.ok.hd hc) pl.isList (fun i v hv => texts_at r i v (by simpa using hv)) el (Nat.lt_of_le_of_lt (show xs.length + 1 ≤ 1001 by omega) (by decide)) fun h' tk c hS hC hk => PyProof.Rows.args_nil ?_
  obtain ⟨o, es, ep, t, ho, hex, hd, _, _, _, hf, hn⟩ := hS
  have I2 : Inv X pins σ H1 { s1 with heap := h', toks := tk } := I1.kept fun b o e => hk b o (Heap.lt_size e) e
  exact call_len_set ho hex hd hf (by have := hC.le; rw [hn]; omega) ⟨.int (c : Nat), H1, I2.tok _, ⟨_, by rw [hn]⟩, q1 c hC⟩
instance {K : PySem.W.Frag} {ta : TE} {σ : St} {H : Hp} {Q : VK} : Stp (tLenU K ta σ H Q) (ta σ H fun x H1 => ∃ (l : Addr) (xs : List PySem.Str), x = .ref l ∧ SqL K H1 l (xs.map V.str) ∧ xs.length ≤ 1000 ∧ ∀ c, Cnt xs xs.length c → Q (.int (c : Nat)) H1) := ⟨id⟩
end L2.Zs
namespace L2.Zs
open PySem PySem.Spec PyProof.Rows
/-! # data that never changes -/
mutual
inductive Is (H : Hp) : V → PyData → Prop
  | non : Is H .non .none
  | bl (b : Bool) : Is H (.bl b) (.bool b)
  | int (i : Int) : Is H (.int i) (.int i)
  | str (z : PySem.Str) : Is H (.str z) (.str z)
  | tup {a : Addr} {xs : List V} {ds : List PyData} : H a = some (.tup xs) → IsAll H xs ds → Is H (.ref a) (.tuple ds)
inductive IsAll (H : Hp) : List V → List PyData → Prop
  | nil : IsAll H [] []
  | cons {v : V} {d : PyData} {vs : List V} {ds : List PyData} : Is H v d → IsAll H vs ds → IsAll H (v :: vs) (d :: ds)
end
mutual
theorem Is.mono {H H' : Hp} (h : ∀ a xs, H a = some (.tup xs) → H' a = some (.tup xs)) : ∀ {v : V} {d : PyData}, Is H v d → Is H' v d
  | _, _, .non => .non
  | _, _, .bl b => .bl b
  | _, _, .int i => .int i
  | _, _, .str z => .str z
  | _, _, .tup e r => .tup (h _ _ e) (IsAll.mono h r)
theorem IsAll.mono {H H' : Hp} (h : ∀ a xs, H a = some (.tup xs) → H' a = some (.tup xs)) : ∀ {vs : List V} {ds : List PyData}, IsAll H vs ds → IsAll H' vs ds
  | _, _, .nil => .nil
  | _, _, .cons a r => .cons (Is.mono h a) (IsAll.mono h r)
end
theorem Is.le {H H' : Hp} {v : V} {d : PyData} (h : Is H v d) (l : Le H H') : Is H' v d := h.mono fun a xs e => l a _ e
theorem IsAll.le {H H' : Hp} {vs : List V} {ds : List PyData} (h : IsAll H vs ds) (l : Le H H') : IsAll H' vs ds := h.mono fun a xs e => l a _ e
mutual
theorem Is.dp {K : PySem.W.Frag} {H : Hp} : ∀ {v : V} {d : PyData}, Is H v d → Dp K H v d
  | _, _, .non => .non
  | _, _, .bl b => .bl b
  | _, _, .int i => .int i
  | _, _, .str z => .str z
  | _, _, .tup e r => .tup (SqT.of e) (IsAll.dp r)
theorem IsAll.dp {K : PySem.W.Frag} {H : Hp} : ∀ {vs : List V} {ds : List PyData}, IsAll H vs ds → DpAll K H vs ds
  | _, _, .nil => .nil
  | _, _, .cons a r => .cons (Is.dp a) (IsAll.dp r)
end
theorem IsAll.length {H : Hp} : ∀ {vs : List V} {ds : List PyData}, IsAll H vs ds → vs.length = ds.length
  | _, _, .nil => rfl
  | _, _, .cons _ r => by rw [List.length_cons, List.length_cons, r.length]
theorem IsAll.app {H : Hp} : ∀ {vs us : List V} {ds es : List PyData}, IsAll H vs ds → IsAll H us es → IsAll H (vs ++ us) (ds ++ es)
  | _, _, _, _, .nil, r => r
  | _, _, _, _, .cons a r, r' => .cons a (r.app r')
theorem IsAll.at_ {H : Hp} : ∀ {vs : List V} {ds : List PyData} {i : Nat} {v : V}, IsAll H vs ds → vs[i]? = some v → ∃ d, ds[i]? = some d ∧ Is H v d
  | _, _, 0, _, .cons a _, e => by cases e; exact ⟨_, rfl, a⟩
  | _, _, i + 1, _, .cons _ r, e => r.at_ e
  | _, _, _, _, .nil, e => by simp at e
theorem IsAll.atD {H : Hp} : ∀ {vs : List V} {ds : List PyData} {i : Nat} {d : PyData}, IsAll H vs ds → ds[i]? = some d → ∃ v, vs[i]? = some v ∧ Is H v d
  | _, _, 0, _, .cons a _, e => by cases e; exact ⟨_, rfl, a⟩
  | _, _, i + 1, _, .cons _ r, e => r.atD e
  | _, _, _, _, .nil, e => by simp at e
theorem IsAll.erase {H : Hp} : ∀ {vs : List V} {ds : List PyData} (i : Nat), IsAll H vs ds → IsAll H (vs.eraseIdx i) (ds.eraseIdx i)
  | _, _, 0, .cons _ r => r
  | _, _, i + 1, .cons a r => .cons a (r.erase i)
  | _, _, _, .nil => .nil
theorem IsAll.drop {H : Hp} : ∀ {vs : List V} {ds : List PyData} (i : Nat), IsAll H vs ds → IsAll H (vs.drop i) (ds.drop i)
  | _, _, 0, r => by simpa using r
  | _, _, i + 1, .cons _ r => by simpa using r.drop i
  | _, _, _ + 1, .nil => .nil
theorem IsAll.take {H : Hp} : ∀ {vs : List V} {ds : List PyData} (i : Nat), IsAll H vs ds → IsAll H (vs.take i) (ds.take i)
  | _, _, 0, r => by simpa using IsAll.nil
  | _, _, i + 1, .cons a r => by simpa using IsAll.cons a (r.take i)
  | _, _, _ + 1, .nil => .nil
/-- the tuples of a heap -/
def tupsOf (H : Hp) : Hp := fun a => match H a with
  | some (.tup xs) => some (.tup xs)
  | _ => none
theorem tupsOf_le {H : Hp} : Le (tupsOf H) H := fun a o h => by
  unfold tupsOf at h
  split at h
  · rename_i xs e; rw [e]; exact h
  · cases h
theorem tupsOf_imm {H : Hp} {a : Addr} {o : HO} (h : tupsOf H a = some o) : Imm o = true := by
  unfold tupsOf at h
  split at h
  · cases h; rfl
  · cases h
theorem tupsOf_tup {H : Hp} {a : Addr} {xs : List V} (h : H a = some (.tup xs)) : tupsOf H a = some (.tup xs) := by
  unfold tupsOf; rw [h]
def Pers (c : As) : Prop := ∀ H, c H → c (tupsOf H)
/-- what a chunk says of tuples may be told apart -/
theorem Sep.out {c d : As} {F : List As} {H : Hp} (p : Pers d) (f : ∀ H, c H → d H) (h : Sep (c :: F) H) : Sep (d :: c :: F) H := by
  obtain ⟨H1, H2, l1, l2, dj, q, y⟩ := h
  refine ⟨tupsOf H1, uni H1 H2, tupsOf_le.trans l1, uni_le l1 l2, fun x u e u' e' => ⟨tupsOf_imm e, ?_⟩, p _ (f _ q), H1, H2, le_uni1, le_uni2 l1 l2, dj, q, y⟩
  rcases uni_or e' with e' | e'
  · rw [tupsOf_le _ _ e] at e'; cases e'; exact tupsOf_imm e
  · exact (dj x u (tupsOf_le _ _ e) u' e').2
theorem Sep.dupP {c : As} {F : List As} {H : Hp} (p : Pers c) (h : Sep (c :: F) H) : Sep (c :: c :: F) H := h.out p fun _ q => q
/-- a chunk that says nothing of the heap -/
theorem Sep.free {c : As} {F : List As} {H : Hp} (q : c fun _ => none) (h : Sep F H) : Sep (c :: F) H :=
  ⟨fun _ => none, H, (fun _ _ q => nomatch q), Le.refl _, (fun _ _ q => nomatch q), q, h⟩
def im (v : V) (d : PyData) : As := fun H => Is H v d
def ims (vs : List V) (ds : List PyData) : As := fun H => IsAll H vs ds
theorem pers_im {v : V} {d : PyData} : Pers (im v d) := fun _ h => h.mono fun _ _ e => tupsOf_tup e
theorem pers_ims {vs : List V} {ds : List PyData} : Pers (ims vs ds) := fun _ h => h.mono fun _ _ e => tupsOf_tup e
theorem pers_pu {p : Prop} : Pers (pu p) := fun _ h => h
theorem pers_tup {a : Addr} {xs : List V} : Pers (pt a (.tup xs)) := fun _ h => tupsOf_tup h
theorem Sep.imGet {v : V} {d : PyData} {cs es : List As} {H : Hp} (h : Sep cs H) (p : Pick (im v d) cs es) : Is H v d := by
  obtain ⟨H1, H2, l, _, _, q, _⟩ := h.pick p
  exact Is.le q l
theorem Sep.imsGet {v : List V} {d : List PyData} {cs es : List As} {H : Hp} (h : Sep cs H) (p : Pick (ims v d) cs es) : IsAll H v d := by
  obtain ⟨H1, H2, l, _, _, q, _⟩ := h.pick p
  exact IsAll.le q l
/-- a list of such data -/
def lsI (a : Addr) (ds : List PyData) : As := fun H => ∃ xs, H a = some (.lst xs) ∧ IsAll H xs ds
theorem Sep.lsO {a : Addr} {ds : List PyData} {F : List As} {H : Hp} (h : Sep (lsI a ds :: F) H) : ∃ xs, Sep (pt a (.lst xs) :: ims xs ds :: F) H := by
  obtain ⟨H1, H2, l1, l2, dj, ⟨xs, e, r⟩, y⟩ := h
  refine ⟨xs, fun b => if b = a then some (.lst xs) else none, uni (tupsOf H1) H2, fun b o z => ?_, uni_le (tupsOf_le.trans l1) l2, fun b o z o' z' => ?_, if_pos rfl, tupsOf H1, H2, le_uni1, le_uni2 (tupsOf_le.trans l1) l2, dj.le tupsOf_le (Le.refl _), pers_ims _ r, y⟩
  · dsimp only at z
    split at z
    · rename_i e2; subst e2; cases z; exact l1 _ _ e
    · cases z
  · dsimp only at z
    split at z
    · rename_i e2; subst e2; cases z
      rcases uni_or z' with z' | z'
      · have := tupsOf_le _ _ z'; rw [e] at this; cases this; exact absurd (tupsOf_imm z') (by intro q; cases q)
      · exact absurd (dj _ _ e _ z').1 (by intro q; cases q)
    · cases z
theorem Sep.lsC {a : Addr} {xs : List V} {ds : List PyData} {F : List As} {H : Hp} (h : Sep (pt a (.lst xs) :: ims xs ds :: F) H) : Sep (lsI a ds :: F) H :=
  h.join fun H1 H2 H' a b q r => ⟨xs, a _ _ q, IsAll.le r b⟩
theorem Sep.lsGet {a : Addr} {ds : List PyData} {cs es : List As} {H : Hp} (h : Sep cs H) (p : Pick (lsI a ds) cs es) : ∃ xs, H a = some (.lst xs) ∧ IsAll H xs ds := by
  obtain ⟨H1, H2, l, _, _, ⟨xs, q, r⟩, _⟩ := h.pick p
  exact ⟨xs, l _ _ q, IsAll.le r l⟩
/-! closing a tuple -/
class Fl (vs : List V) (ds : outParam (List PyData)) : Prop where
  all : ∀ H, IsAll H vs ds
instance : Fl [] [] := ⟨fun _ => .nil⟩
instance {z : PySem.Str} {vs : List V} {ds : List PyData} [f : Fl vs ds] : Fl (.str z :: vs) (.str z :: ds) := ⟨fun H => .cons (.str z) (f.all H)⟩
instance {i : Int} {vs : List V} {ds : List PyData} [f : Fl vs ds] : Fl (.int i :: vs) (.int i :: ds) := ⟨fun H => .cons (.int i) (f.all H)⟩
instance {vs : List V} {ds : List PyData} [f : Fl vs ds] : Fl (.non :: vs) (.none :: ds) := ⟨fun H => .cons .non (f.all H)⟩
instance {b : Bool} {vs : List V} {ds : List PyData} [f : Fl vs ds] : Fl (.bl b :: vs) (.bool b :: ds) := ⟨fun H => .cons (.bl b) (f.all H)⟩
theorem Sep.imT {t : Addr} {xs : List V} {ds : List PyData} {F : List As} {H : Hp} (h : Sep (pt t (.tup xs) :: ims xs ds :: F) H) : Sep (im (.ref t) (.tuple ds) :: F) H :=
  h.join fun H1 H2 H' a b q r => .tup (a _ _ q) (IsAll.le r b)
theorem Sep.imF {t : Addr} {xs : List V} {ds : List PyData} {F : List As} {H : Hp} [f : Fl xs ds] (h : Sep (pt t (.tup xs) :: F) H) : Sep (im (.ref t) (.tuple ds) :: F) H :=
  Sep.imT (Sep.cons (fun _ h => h.free (f.all _)) h)
theorem Sep.imO {t : Addr} {ds : List PyData} {F : List As} {H : Hp} (h : Sep (im (.ref t) (.tuple ds) :: F) H) : ∃ xs, Sep (pt t (.tup xs) :: ims xs ds :: F) H := by
  obtain ⟨H1, H2, l1, l2, dj, q, y⟩ := h
  cases q with
  | @tup _ xs _ e r =>
    refine ⟨xs, tupsOf H1, uni (tupsOf H1) H2, tupsOf_le.trans l1, uni_le (tupsOf_le.trans l1) l2, fun b o z o' z' => ?_, tupsOf_tup e, tupsOf H1, H2, le_uni1, le_uni2 (tupsOf_le.trans l1) l2, dj.le tupsOf_le (Le.refl _), pers_ims _ r, y⟩
    refine ⟨tupsOf_imm z, ?_⟩
    rcases uni_or z' with z' | z'
    · exact tupsOf_imm z'
    · exact (dj _ _ (tupsOf_le _ _ z) _ z').2
theorem Sep.ims0 {F : List As} {H : Hp} (h : Sep F H) : Sep (ims [] [] :: F) H := h.free .nil
theorem Sep.imsF {xs : List V} {ds : List PyData} {F : List As} {H : Hp} [f : Fl xs ds] (h : Sep F H) : Sep (ims xs ds :: F) H := h.free (f.all _)
theorem Sep.imS {z : PySem.Str} {F : List As} {H : Hp} (h : Sep F H) : Sep (im (.str z) (.str z) :: F) H := h.free (.str z)
theorem Sep.imN {F : List As} {H : Hp} (h : Sep F H) : Sep (im .non .none :: F) H := h.free .non
theorem Sep.imsC {x : V} {d : PyData} {xs : List V} {ds : List PyData} {F : List As} {H : Hp} (h : Sep (im x d :: ims xs ds :: F) H) : Sep (ims (x :: xs) (d :: ds) :: F) H :=
  h.join fun H1 H2 H' a b q r => .cons (Is.le q a) (IsAll.le r b)
theorem Sep.imsA {us vs : List V} {ds es : List PyData} {F : List As} {H : Hp} (h : Sep (ims us ds :: ims vs es :: F) H) : Sep (ims (us ++ vs) (ds ++ es) :: F) H :=
  h.join fun H1 H2 H' a b q r => (IsAll.le q a).app (IsAll.le r b)
theorem Sep.imsP {x : V} {d : PyData} {xs : List V} {ds : List PyData} {F : List As} {H : Hp} (h : Sep (ims xs ds :: im x d :: F) H) : Sep (ims (xs ++ [x]) (ds ++ [d]) :: F) H :=
  h.join fun H1 H2 H' a b q r => (IsAll.le q a).app (.cons (Is.le r b) .nil)
/-- one of many -/
theorem Sep.imsAt {xs : List V} {ds : List PyData} {F : List As} {H : Hp} {i : Nat} {x : V} (h : Sep (ims xs ds :: F) H) (e : xs[i]? = some x) : ∃ d, ds[i]? = some d ∧ Sep (im x d :: ims xs ds :: F) H := by
  obtain ⟨H1, H2, l1, l2, dj, q, y⟩ := h
  obtain ⟨d, hd, r⟩ := IsAll.at_ q e
  refine ⟨d, hd, Sep.out (c := ims xs ds) pers_im (fun H q => ?_) ⟨H1, H2, l1, l2, dj, q, y⟩⟩
  obtain ⟨d', hd', r'⟩ := IsAll.at_ q e
  rw [hd] at hd'; cases hd'; exact r'
theorem Sep.imsHd {x : V} {d : PyData} {xs : List V} {ds : List PyData} {F : List As} {H : Hp} (h : Sep (ims (x :: xs) (d :: ds) :: F) H) : Sep (im x d :: ims xs ds :: F) H := by
  obtain ⟨H1, H2, l1, l2, dj, q, y⟩ := h
  cases q with
  | cons a r => exact Sep.cons (fun _ h => h.imp fun H q => by cases q with | cons _ r => exact r) (Sep.out (c := ims (x :: xs) (d :: ds)) pers_im (fun H q => by cases q with | cons a _ => exact a) ⟨H1, H2, l1, l2, dj, .cons a r, y⟩)
/-! a sequence's shape by its data -/
theorem Sep.imsLen {xs : List V} {ds : List PyData} {cs es : List As} {H : Hp} (h : Sep cs H) (p : Pick (ims xs ds) cs es) : xs.length = ds.length := (h.imsGet p).length
theorem IsAll.strs {H : Hp} : ∀ {vs : List V} {zs : List PySem.Str}, IsAll H vs (zs.map .str) → vs = zs.map .str
  | [], [], _ => rfl
  | _ :: _, [], h => by cases h
  | [], _ :: _, h => by cases h
  | v :: vs, z :: zs, h => by cases h with | cons a r => cases a; rw [r.strs]; rfl
theorem IsAll.ofStrs {H : Hp} : ∀ (zs : List PySem.Str), IsAll H (zs.map V.str) (zs.map .str)
  | [] => .nil
  | z :: zs => .cons (.str z) (IsAll.ofStrs zs)
/-! comparing -/
section
variable {K : PySem.W.Frag} {H : Hp} {Q : VK} {a b : Addr} {x y : V} {d e : PyData} {ds es : List PyData} {cs c1 c2 : List As}
theorem Dp.lsI (S : Sep cs H) (p : Pick (Zs.lsI a ds) cs c1) : Dp K H (.ref a) (.list ds) := by
  obtain ⟨xs, h, r⟩ := S.lsGet p
  exact .lst (SqL.of h) r.dp
theorem Dp.im (S : Sep cs H) (p : Pick (Zs.im x d) cs c1) : Dp K H x d := (S.imGet p).dp
end
/-! # many chunks by names -/
def big (ks : List PySem.Str) (f : PySem.Str → As) : As := star (ks.map f)
theorem Sep.bigO {ks : List PySem.Str} {f : PySem.Str → As} {l : PySem.Str} {F : List As} {H : Hp} (h : Sep (big ks f :: F) H) (m : l ∈ ks) : Sep (f l :: big (ks.erase l) f :: F) H := by
  have h1 := Sep.flat h
  have p : ∀ {ks : List PySem.Str}, l ∈ ks → Pick (f l) (ks.map f ++ F) ((ks.erase l).map f ++ F) := by
    intro ks
    induction ks with
    | nil => intro m; simp at m
    | cons k ks ih =>
      intro m
      by_cases e : k = l
      · subst e; simp only [List.erase_cons_head, List.map_cons, List.cons_append]; exact .here
      · rw [List.erase_cons_tail (by simpa using e)]
        simp only [List.map_cons, List.cons_append]
        exact .there (ih (by rcases List.mem_cons.mp m with r | r; · exact absurd r.symm e
                             · exact r))
  exact Sep.cons (fun _ h => h.unflat) (Sep.pick (p m) h1)
theorem Sep.bigC {ks : List PySem.Str} {f g : PySem.Str → As} {l : PySem.Str} {F : List As} {H : Hp} (h : Sep (g l :: big (ks.erase l) f :: F) H) (m : l ∈ ks) (nd : ks.Nodup) (e : ∀ x ∈ ks, x ≠ l → f x = g x) : Sep (big ks g :: F) H := by
  have h1 : Sep (g l :: ((ks.erase l).map g ++ F)) H := Sep.cons (fun _ h => by
    have := Sep.flat h
    rw [show (ks.erase l).map f = (ks.erase l).map g from List.map_congr_left fun x hx => e x (List.mem_of_mem_erase hx) (fun z => by subst z; exact (List.Nodup.not_mem_erase nd) hx)] at this
    exact this) h
  have p : ∀ {ks : List PySem.Str}, l ∈ ks → Pick (g l) (ks.map g ++ F) ((ks.erase l).map g ++ F) := by
    intro ks
    induction ks with
    | nil => intro m; simp at m
    | cons k ks ih =>
      intro m
      by_cases e : k = l
      · subst e; simp only [List.erase_cons_head, List.map_cons, List.cons_append]; exact .here
      · rw [List.erase_cons_tail (by simpa using e)]
        simp only [List.map_cons, List.cons_append]
        exact .there (ih (by rcases List.mem_cons.mp m with r | r; · exact absurd r.symm e
                             · exact r))
  exact (Sep.unpick (p m) h1).unflat
theorem Sep.big0 {f : PySem.Str → As} {F : List As} {H : Hp} (h : Sep F H) : Sep (big [] f :: F) H := h.unflat (ps := [])
theorem Sep.bigN {ks : List PySem.Str} {f g : PySem.Str → As} {l : PySem.Str} {F : List As} {H : Hp} (h : Sep (g l :: big ks f :: F) H) (m : l ∉ ks) (e : ∀ x ∈ ks, f x = g x) : Sep (big (ks ++ [l]) g :: F) H := by
  have h1 : Sep (g l :: (ks.map g ++ F)) H := Sep.cons (fun _ h => by
    have := Sep.flat h
    rw [show ks.map f = ks.map g from List.map_congr_left e] at this
    exact this) h
  refine Sep.unflat (ps := (ks ++ [l]).map g) ?_
  rw [List.map_append, List.append_assoc]
  refine Sep.unpick (c := g l) (ds := ks.map g ++ F) ?_ h1
  clear h1 h m e
  induction ks with
  | nil => exact .here
  | cons k ks ih => exact .there ih
theorem Sep.bigMap {ks : List PySem.Str} {f g : PySem.Str → As} {F : List As} {H : Hp} (h : Sep (big ks f :: F) H) (e : ∀ x ∈ ks, f x = g x) : Sep (big ks g :: F) H := by
  unfold big at h ⊢
  rw [show ks.map f = ks.map g from List.map_congr_left e] at h
  exact h
/-! # dicts by a map -/
def dm (ks : List PySem.Str) (f : PySem.Str → V) : List (Key × V) := ks.map fun k => (.inr k, f k)
theorem dm_len {ks : List PySem.Str} {f : PySem.Str → V} : (dm ks f).length = ks.length := List.length_map ..
theorem valV_dm {f : PySem.Str → V} {l : PySem.Str} : ∀ {ks : List PySem.Str}, valV (dm ks f) (.inr l) = if l ∈ ks then some (f l) else none
  | [] => rfl
  | k :: ks => by
    by_cases e : k = l
    · subst e; rw [if_pos List.mem_cons_self]; exact valV_pos rfl
    · have : (Sum.inr k : Key) ≠ .inr l := fun z => e (Sum.inr.inj z)
      show valV ((Sum.inr k, f k) :: dm ks f) (.inr l) = _
      rw [valV_neg this, valV_dm]
      have e' : ¬ l = k := fun z => e z.symm
      by_cases m : l ∈ ks <;> simp [m, e']
theorem valV_in {f : PySem.Str → V} {l : PySem.Str} {ks : List PySem.Str} (h : l ∈ ks) : valV (dm ks f) (.inr l) = some (f l) := by rw [valV_dm, if_pos h]
theorem valV_out {f : PySem.Str → V} {l : PySem.Str} {ks : List PySem.Str} (h : l ∉ ks) : valV (dm ks f) (.inr l) = none := by rw [valV_dm, if_neg h]
theorem putK_old {f : PySem.Str → V} {l : PySem.Str} {v : V} {ks : List PySem.Str} (h : l ∈ ks) : putK (dm ks f) (.inr l) v = dm ks (fun x => if x = l then v else f x) := by
  unfold putK
  have h0 : (Sum.inr l, f l) ∈ dm ks f := List.mem_map.mpr ⟨l, h, rfl⟩
  rw [if_pos (List.any_eq_true.mpr ⟨(.inr l, f l), h0, decide_eq_true rfl⟩)]
  unfold dm
  rw [List.map_map]
  refine List.map_congr_left fun x _ => ?_
  show (if (Sum.inr x : Key) = .inr l then _ else _) = _
  by_cases e : x = l
  · subst e; simp
  · have e2 : ¬ (Sum.inr x : Key) = .inr l := fun z => e (Sum.inr.inj z)
    simp [e, e2]
theorem putK_add {f : PySem.Str → V} {l : PySem.Str} {v : V} {ks : List PySem.Str} (h : l ∉ ks) : putK (dm ks f) (.inr l) v = dm (ks ++ [l]) (fun x => if x = l then v else f x) := by
  unfold putK
  rw [if_neg (fun z => by
    obtain ⟨kv, h1, h2⟩ := List.any_eq_true.mp z
    obtain ⟨x, hx, rfl⟩ := List.mem_map.mp h1
    exact h (Sum.inr.inj (of_decide_eq_true h2) ▸ hx))]
  unfold dm
  rw [List.map_append]
  congr 1
  · refine List.map_congr_left fun x hx => ?_
    have : ¬ x = l := fun e => h (e ▸ hx)
    simp [this]
  · simp
end L2.Zs
namespace L2.Zs
open PySem PySem.Spec PyProof.Rows
/-! # the hall, as plain data -/
inductive Way | rests | waits | dials | rings | talks | rung | told
  deriving DecidableEq
def Way.s : Way → PySem.Str
  | .rests => "rests" | .waits => "waits" | .dials => "dials" | .rings => "rings" | .talks => "talks" | .rung => "rung" | .told => "told"
theorem Way.inj : ∀ {a b : Way}, a.s = b.s → a = b := by
  intro a b; cases a <;> cases b <;> first | (intro _; rfl) | (intro h; exact absurd h (by decide +kernel))
/-- why a call came to nothing -/
inductive Wy
  | over (f : PySem.Str) | none (f : PySem.Str) | group (f : PySem.Str) (ps : List PySem.Str) | line (f : PySem.Str) (w : Way)
def Wy.d : Wy → PyData
  | .over f => .tuple [.str "over", .str f]
  | .none f => .tuple [.str "none", .str f]
  | .group f ps => .tuple [.str "group", .str f, .tuple (ps.map .str)]
  | .line f w => .tuple [.str "line", .str f, .str w.s]
/-- what comes of a deed -/
inductive Tl
  | waits (l : PySem.Str) | tone (l : PySem.Str) (k : Nat) (s : Int) | rests (l : PySem.Str) | quiet (l : PySem.Str) | talks (o l : PySem.Str) | over (l f : PySem.Str) | figure (l f : PySem.Str)
  | takes (l f : PySem.Str) (k : Nat) | none (l f : PySem.Str) | busy (l : PySem.Str) (w : Wy) | rings (l f : PySem.Str)
def Tl.d : Tl → PyData
  | .waits l => .tuple [.str "waits", .str l]
  | .tone l k s => .tuple [.str "tone", .str l, .int k, .int s]
  | .rests l => .tuple [.str "rests", .str l]
  | .quiet l => .tuple [.str "quiet", .str l]
  | .talks o l => .tuple [.str "talks", .str o, .str l]
  | .over l f => .tuple [.str "over", .str l, .str f]
  | .figure l f => .tuple [.str "figure", .str l, .str f]
  | .takes l f k => .tuple [.str "takes", .str l, .str f, .int k]
  | .none l f => .tuple [.str "none", .str l, .str f]
  | .busy l w => .tuple [.str "busy", .str l, w.d]
  | .rings l f => .tuple [.str "rings", .str l, .str f]
inductive Wd | lift | hang | pulse | gap
  deriving DecidableEq
def Wd.s : Wd → PySem.Str
  | .lift => "lift" | .hang => "hang" | .pulse => "pulse" | .gap => "gap"
/-- a deed -/
inductive Dd
  | ln (w : Wd) (l : PySem.Str) | sw (b : Bool) (wh : PySem.Str) (k : Int)
def Dd.d : Dd → PyData
  | .ln w l => .tuple [.str w.s, .str l]
  | .sw b wh k => .tuple [.str (if b then "stick" else "mend"), .str wh, .int k]
inductive Er | line | switch | notso
  deriving DecidableEq
structure Ln where
  way : Way := .rests
  figs : PySem.Str := ""
  many : Nat := 0
  train : List (PySem.Str × Nat) := []
  en : Option PySem.Str := none
  why : Option Wy := none
structure Rc where
  held : List (Option PySem.Str)
  brk : List Bool
  tak : List Int
def Rc.new (n : Nat) : Rc := ⟨List.replicate n none, List.replicate n false, List.replicate n 0⟩
def Rc.rdy (r : Rc) (i : Nat) : Bool := decide (r.held[i]? = some none) && !(r.brk.getD i true)
def Rc.first (r : Rc) : Option Nat := (List.range r.held.length).find? r.rdy
def Rc.give (r : Rc) (i : Nat) (l : PySem.Str) : Rc := { r with held := r.held.set i (some l), tak := r.tak.set i (r.tak.getD i 0 + 1) }
def Rc.free (r : Rc) (i : Nat) : Rc := { r with held := r.held.set i none }
def Rc.brkAt (r : Rc) (i : Nat) (b : Bool) : Rc := { r with brk := r.brk.set i b }
def Rc.said (r : Rc) (i : Nat) : PySem.Str := match r.held.getD i none with
  | some l => l
  | none => if r.brk.getD i false then "stuck" else "free"
def Rc.paper (r : Rc) : List PySem.Str := (List.range r.held.length).map r.said
structure Rc.ok (r : Rc) (m : Nat) : Prop where
  b : r.brk.length = r.held.length
  t : r.tak.length = r.held.length
  n : r.held.length ≤ m
/-- a map, changed at one place -/
def up {α : Type} (f : PySem.Str → α) (l : PySem.Str) (v : α) : PySem.Str → α := fun x => if x = l then v else f x
theorem up_same {α : Type} {f : PySem.Str → α} {l : PySem.Str} {v : α} : up f l v l = v := if_pos rfl
theorem up_ne {α : Type} {f : PySem.Str → α} {l x : PySem.Str} {v : α} (h : x ≠ l) : up f l v x = f x := if_neg h
theorem up_up {α : Type} {f : PySem.Str → α} {l : PySem.Str} {u v : α} : up (up f l u) l v = up f l v := by
  funext x; unfold up; split <;> rfl
theorem up_comm {α : Type} {f : PySem.Str → α} {l m : PySem.Str} {u v : α} (h : l ≠ m) : up (up f l u) m v = up (up f m v) l u := by
  funext x; unfold up
  by_cases e : x = l
  · subst e; simp [h]
  · by_cases e2 : x = m
    · subst e2; simp [e]
    · simp [e, e2]
theorem up_id {α : Type} {f : PySem.Str → α} {l : PySem.Str} : up f l (f l) = f := by
  funext x; unfold up; split
  · rename_i e; rw [e]
  · rfl
structure Hs where
  long : Nat
  lines : List PySem.Str
  wheres : List PySem.Str
  ln : PySem.Str → Ln
  rk : PySem.Str → Rc
  spots : List Int
  steps : List Int
  mark : Nat
  queue : List PySem.Str
  done : List Dd
namespace Hs
def n (h : Hs) : Nat := (h.rk "").held.length
def ord (h : Hs) : List Nat := (List.range h.n).map fun far => (h.mark + far) % h.n
def first (h : Hs) : Option Nat := h.ord.find? (h.rk "").rdy
def place (h : Hs) (l : PySem.Str) : Int := (h.lines.idxOf l : Nat)
def went (h : Hs) (l : PySem.Str) (k : Nat) : Int := (h.place l - h.spots.getD k 0) % (h.lines.length : Int)
def setLn (h : Hs) (l : PySem.Str) (r : Ln) : Hs := { h with ln := up h.ln l r }
def setRk (h : Hs) (w : PySem.Str) (r : Rc) : Hs := { h with rk := up h.rk w r }
def begin_ (h : Hs) (l : PySem.Str) (w : Way) : Hs := h.setLn l { way := w }
/-- the line l gets tone by the seeker k -/
def tone1 (h : Hs) (l : PySem.Str) (k : Nat) : Hs :=
  { h with rk := up h.rk "" ((h.rk "").give k l), spots := h.spots.set k (h.place l), steps := h.steps.set k (h.steps.getD k 0 + h.went l k), mark := (k + 1) % h.n,
           queue := h.queue.tail, ln := up h.ln l { h.ln l with way := .dials, train := [("", k)] } }
def tones : Nat → Hs → List Tl × Hs
  | 0, h => ([], h)
  | m + 1, h => match h.queue with
    | [] => ([], h)
    | l :: _ => match h.first with
      | none => ([], h)
      | some k => ((Tl.tone l k (h.went l k)) :: (tones m (h.tone1 l k)).1, (tones m (h.tone1 l k)).2)
def freeAt (h : Hs) (p : PySem.Str × Nat) : Hs := h.setRk p.1 ((h.rk p.1).free p.2)
def freeAll (h : Hs) (ps : List (PySem.Str × Nat)) : Hs := ps.foldl freeAt h
def freed (h : Hs) (l : PySem.Str) : Hs := (h.freeAll (h.ln l).train).setLn l { h.ln l with train := [] }
def waitB (h : Hs) (l : PySem.Str) : Hs := { h.begin_ l .waits with queue := h.queue ++ [l] }
def ended (h : Hs) (l : PySem.Str) (y : Wy) : Hs := (h.freed l).setLn l { (h.ln l) with train := [], way := .told, why := some y }
def lift (h : Hs) (l : PySem.Str) : Except Er (List Tl × Hs) := match (h.ln l).way with
  | .rests => .ok ([.waits l], h.waitB l)
  | .rung => .ok ([.talks ((h.ln l).en.getD "") l], (h.setLn l { h.ln l with way := .talks }).setLn ((h.ln l).en.getD "") { h.ln ((h.ln l).en.getD "") with way := .talks })
  | _ => .error .notso
def hang (h : Hs) (l : PySem.Str) : Except Er (List Tl × Hs) := match (h.ln l).way with
  | .rests => .error .notso
  | .rung => .error .notso
  | w =>
    let h1 : Hs := { h with queue := if w = .waits then h.queue.erase l else h.queue }
    let h2 := h1.freed l
    match (h.ln l).en with
    | none => .ok ([.rests l], h2.begin_ l .rests)
    | some o =>
      let h3 := h2.freed o
      if (h.ln o).way = .rung then .ok ([.rests l, .quiet o], (h3.begin_ o .rests).begin_ l .rests)
      else .ok ([.rests l, .waits o], (h3.waitB o).begin_ l .rests)
def pulse (h : Hs) (l : PySem.Str) : Except Er (List Tl × Hs) := match (h.ln l).way with
  | .dials =>
    let h1 := h.setLn l { h.ln l with many := (h.ln l).many + 1 }
    if (h.ln l).many + 1 ≤ 10 then .ok ([], h1) else .ok ([.over l (h.ln l).figs], h1.ended l (.over (h.ln l).figs))
  | _ => .error .notso
/-- the figure of many pulses, put behind the figures so far -/
def figsOn (h : Hs) (l : PySem.Str) : PySem.Str := (h.ln l).figs ++ toString (((h.ln l).many : Int) % 10)
def ledTo (h : Hs) (l f : PySem.Str) : Tl × Hs :=
  if f ∉ h.lines then (.none l f, h.ended l (.none f))
  else if (h.ln f).way ≠ .rests then (.busy l (.line f (h.ln f).way), h.ended l (.line f (h.ln f).way))
  else (.rings l f, (h.setLn f { h.ln f with way := .rung, en := some l }).setLn l { h.ln l with way := .rings, en := some f })
def ledBy (h : Hs) (l f : PySem.Str) : Tl × Hs :=
  if f ∉ h.wheres then (.none l f, h.ended l (.none f))
  else match (h.rk f).first with
    | none => (.busy l (.group f (h.rk f).paper), h.ended l (.group f (h.rk f).paper))
    | some k => (.takes l f k, (h.setRk f ((h.rk f).give k l)).setLn l { h.ln l with train := (h.ln l).train ++ [(f, k)] })
def gap (h : Hs) (l : PySem.Str) : Except Er (List Tl × Hs) := match (h.ln l).way with
  | .dials => if (h.ln l).many = 0 then .error .notso else
    let f := h.figsOn l
    let h1 := h.setLn l { h.ln l with figs := f, many := 0 }
    if f.length = h.long then .ok ([(h1.ledTo l f).1], (h1.ledTo l f).2)
    else if f.length + 1 = h.long then .ok ([.figure l f], h1)
    else .ok ([(h1.ledBy l f).1], (h1.ledBy l f).2)
  | _ => .error .notso
def atLine (h : Hs) (w : Wd) (l : PySem.Str) : Except Er (List Tl × Hs) :=
  if l ∉ h.lines then .error .line else match w with
    | .lift => h.lift l
    | .hang => h.hang l
    | .pulse => h.pulse l
    | .gap => h.gap l
def act (h : Hs) (d : Dd) : Except Er (List Tl × Hs) := match d with
  | .ln w l => h.atLine w l
  | .sw b w k => if w ∈ h.wheres ∧ 0 ≤ k ∧ k < ((h.rk w).held.length : Int) then .ok ([], h.setRk w ((h.rk w).brkAt k.toNat b)) else .error .switch
def noted (h : Hs) (d : Dd) : Hs := { h with done := h.done ++ [d] }
def step (h : Hs) (d : Dd) : Except Er (List Tl × Hs) := match h.act d with
  | .error e => .error e
  | .ok (ts, h1) => .ok (ts ++ (tones h1.queue.length (h1.noted d)).1, (tones h1.queue.length (h1.noted d)).2)
end Hs
end L2.Zs
namespace L2.Zs
open PySem PySem.Spec PyProof.Rows
/-! # what holds of a hall at every time -/
abbrev Tr := PySem.Str → List (PySem.Str × Nat)
def freeRk (rk : PySem.Str → Rc) (ps : List (PySem.Str × Nat)) : PySem.Str → Rc := ps.foldl (fun rk p => up rk p.1 ((rk p.1).free p.2)) rk
theorem freeAll_eq : ∀ (ps : List (PySem.Str × Nat)) (h : Hs), h.freeAll ps = { h with rk := freeRk h.rk ps }
  | [], h => rfl
  | p :: ps, h => by
    show Hs.freeAll (h.freeAt p) ps = _
    rw [freeAll_eq ps]
    rfl
theorem freeRk_len : ∀ (ps : List (PySem.Str × Nat)) (rk : PySem.Str → Rc) (w : PySem.Str), ((freeRk rk ps w).held.length = (rk w).held.length) ∧ (freeRk rk ps w).brk = (rk w).brk ∧ (freeRk rk ps w).tak = (rk w).tak
  | [], rk, w => ⟨rfl, rfl, rfl⟩
  | p :: ps, rk, w => by
    have ih := freeRk_len ps (up rk p.1 ((rk p.1).free p.2)) w
    show ((freeRk (up rk p.1 ((rk p.1).free p.2)) ps w).held.length = _) ∧ _ ∧ _
    rw [ih.1, show freeRk rk (p :: ps) w = freeRk (up rk p.1 ((rk p.1).free p.2)) ps w from rfl, ih.2.1, ih.2.2]
    by_cases e : w = p.1
    · subst e; rw [up_same]; simp [Rc.free]
    · rw [up_ne e]; exact ⟨rfl, rfl, rfl⟩
theorem freeRk_at : ∀ (ps : List (PySem.Str × Nat)) (rk : PySem.Str → Rc) (w : PySem.Str) (k : Nat) (l : PySem.Str), (freeRk rk ps w).held[k]? = some (some l) ↔ (rk w).held[k]? = some (some l) ∧ (w, k) ∉ ps
  | [], rk, w, k, l => by simp [freeRk]
  | p :: ps, rk, w, k, l => by
    show (freeRk (up rk p.1 ((rk p.1).free p.2)) ps w).held[k]? = _ ↔ _
    rw [freeRk_at ps]
    by_cases e : w = p.1
    · subst e
      rw [up_same]
      by_cases e2 : p.2 = k
      · subst e2
        simp only [Rc.free, List.getElem?_set_self', List.mem_cons]
        constructor
        · rintro ⟨h1, h2⟩
          cases hh : (rk p.1).held[p.2]? <;> simp [hh] at h1
        · rintro ⟨h1, h2⟩
          exact absurd (.inl trivial) h2
      · simp only [Rc.free, List.getElem?_set_ne e2, List.mem_cons, not_or]
        exact ⟨fun ⟨a, b⟩ => ⟨a, fun z => e2 (by rw [← z]), b⟩, fun ⟨a, _, b⟩ => ⟨a, b⟩⟩
    · rw [up_ne e]
      simp only [List.mem_cons, not_or]
      exact ⟨fun ⟨a, b⟩ => ⟨a, fun z => e (by rw [← z]), b⟩, fun ⟨a, _, b⟩ => ⟨a, b⟩⟩
/-- who holds what -/
structure HB (ls ws : List PySem.Str) (rk : PySem.Str → Rc) (tr : Tr) : Prop where
  hold : ∀ w ∈ ws, ∀ (k : Nat) (l : PySem.Str), (rk w).held[k]? = some (some l) ↔ l ∈ ls ∧ (w, k) ∈ tr l
  trw : ∀ l ∈ ls, ∀ p ∈ tr l, p.1 ∈ ws
  trn : ∀ l ∈ ls, (tr l).Nodup
theorem HB.freed {ls ws : List PySem.Str} {rk : PySem.Str → Rc} {tr : Tr} (b : HB ls ws rk tr) {l : PySem.Str} (hl : l ∈ ls) : HB ls ws (freeRk rk (tr l)) (up tr l []) := by
  refine ⟨fun w hw k m => ?_, fun m hm p hp => ?_, fun m hm => ?_⟩
  · rw [freeRk_at, b.hold w hw]
    by_cases e : m = l
    · subst e
      rw [up_same]
      exact ⟨fun ⟨⟨_, a⟩, c⟩ => absurd a c, fun ⟨_, a⟩ => by simp at a⟩
    · rw [up_ne e]
      refine ⟨fun ⟨a, _⟩ => a, fun a => ⟨a, fun c => e ?_⟩⟩
      have h1 := (b.hold w hw k m).mpr a
      have h2 := (b.hold w hw k l).mpr ⟨hl, c⟩
      rw [h1] at h2
      exact Option.some.inj (Option.some.inj h2)
  · by_cases e : m = l
    · subst e; rw [up_same] at hp; simp at hp
    · rw [up_ne e] at hp; exact b.trw m hm p hp
  · by_cases e : m = l
    · subst e; rw [up_same]; exact List.nodup_nil
    · rw [up_ne e]; exact b.trn m hm
theorem HB.give {ls ws : List PySem.Str} {rk : PySem.Str → Rc} {tr : Tr} (b : HB ls ws rk tr) {l w : PySem.Str} {k : Nat} (hl : l ∈ ls) (hw : w ∈ ws) (hk : (rk w).held[k]? = some none) :
    HB ls ws (up rk w ((rk w).give k l)) (up tr l (tr l ++ [(w, k)])) := by
  have kl : k < (rk w).held.length := by
    rcases Nat.lt_or_ge k (rk w).held.length with h | h
    · exact h
    · rw [List.getElem?_eq_none h] at hk; cases hk
  have no : ∀ m ∈ ls, (w, k) ∉ tr m := fun m hm c => by
    have := (b.hold w hw k m).mpr ⟨hm, c⟩
    rw [hk] at this; cases this
  refine ⟨fun v hv j m => ?_, fun m hm p hp => ?_, fun m hm => ?_⟩
  · by_cases e : v = w
    · subst e
      rw [up_same]
      by_cases e2 : k = j
      · subst e2
        simp only [Rc.give, List.getElem?_set_self kl, Option.some.injEq]
        constructor
        · rintro rfl; rw [up_same]; exact ⟨hl, by simp⟩
        · rintro ⟨h1, h2⟩
          by_cases e3 : m = l
          · exact e3.symm
          · rw [up_ne e3] at h2; exact absurd h2 (no m h1)
      · simp only [Rc.give, List.getElem?_set_ne e2]
        rw [b.hold v hv]
        by_cases e3 : m = l
        · subst e3
          rw [up_same]
          simp only [List.mem_append, List.mem_singleton, Prod.mk.injEq, true_and]
          exact ⟨fun ⟨a, c⟩ => ⟨a, .inl c⟩, fun ⟨a, c⟩ => ⟨a, c.resolve_right fun z => e2 z.symm⟩⟩
        · rw [up_ne e3]
    · rw [up_ne e, b.hold v hv]
      by_cases e3 : m = l
      · subst e3
        rw [up_same]
        simp only [List.mem_append, List.mem_singleton, Prod.mk.injEq]
        exact ⟨fun ⟨a, c⟩ => ⟨a, .inl c⟩, fun ⟨a, c⟩ => ⟨a, c.resolve_right fun z => e z.1⟩⟩
      · rw [up_ne e3]
  · by_cases e3 : m = l
    · subst e3
      rw [up_same] at hp
      rcases List.mem_append.mp hp with hp | hp
      · exact b.trw m hm p hp
      · rw [List.mem_singleton.mp hp]; exact hw
    · rw [up_ne e3] at hp; exact b.trw m hm p hp
  · by_cases e3 : m = l
    · subst e3
      rw [up_same, List.nodup_append]
      exact ⟨b.trn m hm, by simp, fun x hx y hy => by rw [List.mem_singleton.mp hy]; exact fun z => no m hm (z ▸ hx)⟩
    · rw [up_ne e3]; exact b.trn m hm
/-- only who is held counts -/
theorem HB.congr {ls ws : List PySem.Str} {rk rk' : PySem.Str → Rc} {tr tr' : Tr} (b : HB ls ws rk tr) (h1 : ∀ w ∈ ws, (rk' w).held = (rk w).held) (h2 : ∀ l ∈ ls, tr' l = tr l) : HB ls ws rk' tr' := by
  refine ⟨fun w hw k l => ?_, fun l hl p hp => ?_, fun l hl => ?_⟩
  · rw [h1 w hw, b.hold w hw]
    exact ⟨fun ⟨a, c⟩ => ⟨a, by rw [h2 l a]; exact c⟩, fun ⟨a, c⟩ => ⟨a, by rw [h2 l a] at c; exact c⟩⟩
  · rw [h2 l hl] at hp; exact b.trw l hl p hp
  · rw [h2 l hl]; exact b.trn l hl
/-- the first n signs -/
def pre (f : PySem.Str) (n : Nat) : PySem.Str := ⟨(f.cps.toList.take n).toArray⟩
/-- the wheres of what is held behind figures -/
def heads (long : Nat) (f : PySem.Str) : List PySem.Str := (List.range (min f.length (long - 2) + 1)).map (pre f)
theorem str_ext {a b : PySem.Str} (e : a.cps.toList = b.cps.toList) : a = b := by
  obtain ⟨x⟩ := a
  obtain ⟨y⟩ := b
  have : x = y := Array.toList_inj.mp e
  rw [this]
theorem pre_codes (f : PySem.Str) (n : Nat) : (pre f n).cps.toList = f.cps.toList.take n := by unfold pre; simp
theorem len_codes (f : PySem.Str) : f.cps.toList.length = f.length := Array.length_toList
theorem pre_all {f : PySem.Str} {n : Nat} (h : f.length ≤ n) : pre f n = f := str_ext (by rw [pre_codes, List.take_of_length_le (by rw [len_codes]; exact h)])
theorem pre_app {f c : PySem.Str} {n : Nat} (h : n ≤ f.length) : pre (f ++ c) n = pre f n := str_ext (by rw [pre_codes, pre_codes, app_codes, List.take_append_of_le_length (by rw [len_codes]; exact h)])
theorem pre_zero (f : PySem.Str) : pre f 0 = "" := str_ext (by rw [pre_codes, show ("" : PySem.Str).cps.toList = [] by decide +kernel]; rfl)
theorem heads_app {long : Nat} {f c : PySem.Str} (hc : c.length = 1) : heads long (f ++ c) = if (f ++ c).length ≤ long - 2 then heads long f ++ [f ++ c] else heads long f := by
  have el := app_len f c
  unfold heads
  by_cases h : (f ++ c).length ≤ long - 2
  · rw [if_pos h, show min (f ++ c).length (long - 2) + 1 = (min f.length (long - 2) + 1) + 1 by omega, List.range_succ (n := min f.length (long - 2) + 1), List.map_append]
    congr 1
    · refine List.map_congr_left fun n hn => pre_app ?_
      have := List.mem_range.mp hn
      omega
    · show [pre (f ++ c) _] = _
      rw [pre_all (by omega)]
  · rw [if_neg h, show min (f ++ c).length (long - 2) + 1 = min f.length (long - 2) + 1 by omega]
    refine List.map_congr_left fun n hn => pre_app ?_
    have := List.mem_range.mp hn
    omega
theorem heads_nil (long : Nat) : heads long "" = [("" : PySem.Str)] := by
  unfold heads
  rw [show ("" : PySem.Str).length = 0 by decide +kernel, Nat.zero_min]
  show [pre "" 0] = _
  rw [pre_zero]
theorem heads_len (long : Nat) (f : PySem.Str) : (heads long f).length ≤ f.length + 1 := by
  unfold heads
  rw [List.length_map, List.length_range]
  omega
/-- a line by its way -/
inductive LnOk (long : Nat) (ls : List PySem.Str) (ln : PySem.Str → Ln) (l : PySem.Str) : Ln → Prop
  | rests : LnOk long ls ln l {}
  | waits : LnOk long ls ln l { way := .waits }
  | dials {f m t} : f.length < long → (∀ c ∈ f.cps.toList, 48 ≤ c ∧ c ≤ 57) → m ≤ 10 → t.map (·.1) = heads long f → LnOk long ls ln l { way := .dials, figs := f, many := m, train := t }
  | rings {o t} : o ∈ ls → ln o = { way := .rung, en := some l } → t.map (·.1) = heads long o → LnOk long ls ln l { way := .rings, figs := o, train := t, en := some o }
  | talksA {o t} : o ∈ ls → ln o = { way := .talks, en := some l } → t.map (·.1) = heads long o → LnOk long ls ln l { way := .talks, figs := o, train := t, en := some o }
  | talksB {o} : o ∈ ls → (ln o).way = .talks → (ln o).en = some l → (ln o).figs = l → LnOk long ls ln l { way := .talks, en := some o }
  | rung {o} : o ∈ ls → (ln o).way = .rings → (ln o).en = some l → LnOk long ls ln l { way := .rung, en := some o }
  | told {f m y} : f.length ≤ long → (∀ c ∈ f.cps.toList, 48 ≤ c ∧ c ≤ 57) → m ≤ 11 → LnOk long ls ln l { way := .told, figs := f, many := m, why := some y }
end L2.Zs
namespace L2.Zs
open PySem PySem.Spec PyProof.Rows
theorem codes0 : ("" : PySem.Str).cps.toList = [] := by decide +kernel
theorem LnOk.back {long : Nat} {ls : List PySem.Str} {ln : PySem.Str → Ln} {l o : PySem.Str} {r : Ln} (h : LnOk long ls ln l r) (e : r.en = some o) : o ∈ ls ∧ (ln o).en = some l := by
  cases h <;> cases e
  · rename_i h1 h2 _; exact ⟨h1, by rw [h2]⟩
  · rename_i h1 h2 _; exact ⟨h1, by rw [h2]⟩
  · rename_i h1 h2 h3 h4; exact ⟨h1, h3⟩
  · rename_i h1 h2 h3; exact ⟨h1, h3⟩
theorem LnOk.move {long : Nat} {ls : List PySem.Str} {ln ln' : PySem.Str → Ln} {l : PySem.Str} {r : Ln} (h : LnOk long ls ln l r) (e : ∀ o, r.en = some o → ln' o = ln o) : LnOk long ls ln' l r := by
  cases h with
  | rests => exact .rests
  | waits => exact .waits
  | dials a b c d => exact .dials a b c d
  | rings a b c => exact .rings a (by rw [e _ rfl]; exact b) c
  | talksA a b c => exact .talksA a (by rw [e _ rfl]; exact b) c
  | talksB a b c d => exact .talksB a (by rw [e _ rfl]; exact b) (by rw [e _ rfl]; exact c) (by rw [e _ rfl]; exact d)
  | rung a b c => exact .rung a (by rw [e _ rfl]; exact b) (by rw [e _ rfl]; exact c)
  | told a b c => exact .told a b c
theorem per_up {long : Nat} {ls : List PySem.Str} {ln ln' : PySem.Str → Ln} (per : ∀ l ∈ ls, LnOk long ls ln l (ln l)) (C : List PySem.Str) (same : ∀ x, x ∉ C → ln' x = ln x) (closed : ∀ c ∈ C, ∀ o, (ln c).en = some o → o ∈ C)
    (inC : ∀ c ∈ C, c ∈ ls → LnOk long ls ln' c (ln' c)) : ∀ m ∈ ls, LnOk long ls ln' m (ln' m) := by
  intro m hm
  by_cases hc : m ∈ C
  · exact inC m hc hm
  · rw [same m hc]
    refine (per m hm).move fun o ho => same o fun hoC => hc ?_
    have b := (per m hm).back ho
    exact closed o hoC m b.2
namespace Hs
/-- the shape, that no deed changes -/
structure Sh (h : Hs) : Prop where
  lnd : h.lines.Nodup
  lf : ∀ l ∈ h.lines, figs h.long l
  g2 : 2 ≤ h.long
  g4 : h.long ≤ 4
  l1 : 1 ≤ h.lines.length
  l60 : h.lines.length ≤ 60
  w0 : ("" : PySem.Str) ∈ h.wheres
  wnd : h.wheres.Nodup
  wl : ∀ w ∈ h.wheres, w.length + 2 ≤ h.long ∧ ∀ c ∈ w.cps.toList, 48 ≤ c ∧ c ≤ 57
  w41 : h.wheres.length ≤ 41
  rok : ∀ w ∈ h.wheres, (h.rk w).ok 60
  s1 : 0 < (h.rk "").held.length
  sp : h.spots.length = (h.rk "").held.length
  st : h.steps.length = (h.rk "").held.length
  mr : h.mark < (h.rk "").held.length
structure Same (h h' : Hs) : Prop where
  long : h'.long = h.long
  lines : h'.lines = h.lines
  wheres : h'.wheres = h.wheres
  held : ∀ w, (h'.rk w).held.length = (h.rk w).held.length
  brk : ∀ w, (h'.rk w).brk.length = (h.rk w).brk.length
  tak : ∀ w, (h'.rk w).tak.length = (h.rk w).tak.length
  spots : h'.spots.length = h.spots.length
  steps : h'.steps.length = h.steps.length
theorem Sh.same {h h' : Hs} (s : h.Sh) (e : Same h h') (m : h'.mark < (h.rk "").held.length) : h'.Sh :=
  ⟨by rw [e.lines]; exact s.lnd, by rw [e.lines, e.long]; exact s.lf, by rw [e.long]; exact s.g2, by rw [e.long]; exact s.g4, by rw [e.lines]; exact s.l1, by rw [e.lines]; exact s.l60, by rw [e.wheres]; exact s.w0, by rw [e.wheres]; exact s.wnd,
    by rw [e.wheres, e.long]; exact s.wl, by rw [e.wheres]; exact s.w41, by rw [e.wheres]; exact fun w hw => ⟨by rw [e.brk, e.held]; exact (s.rok w hw).b, by rw [e.tak, e.held]; exact (s.rok w hw).t, by rw [e.held]; exact (s.rok w hw).n⟩,
    by rw [e.held]; exact s.s1, by rw [e.spots, e.held]; exact s.sp, by rw [e.steps, e.held]; exact s.st, by rw [e.held]; exact m⟩
theorem Same.refl (h : Hs) : Same h h := ⟨rfl, rfl, rfl, fun _ => rfl, fun _ => rfl, fun _ => rfl, rfl, rfl⟩
/-- only racks change, of the same sizes -/
theorem Same.rk {h h' : Hs} (e1 : h'.long = h.long) (e2 : h'.lines = h.lines) (e3 : h'.wheres = h.wheres) (e4 : h'.spots = h.spots) (e5 : h'.steps = h.steps)
    (e : ∀ w, (h'.rk w).held.length = (h.rk w).held.length ∧ (h'.rk w).brk.length = (h.rk w).brk.length ∧ (h'.rk w).tak.length = (h.rk w).tak.length) : Same h h' :=
  ⟨e1, e2, e3, fun w => (e w).1, fun w => (e w).2.1, fun w => (e w).2.2, by rw [e4], by rw [e5]⟩
structure Ok (h : Hs) : Prop where
  sh : h.Sh
  hb : HB h.lines h.wheres h.rk (fun l => (h.ln l).train)
  qnd : h.queue.Nodup
  q : ∀ l, l ∈ h.queue ↔ l ∈ h.lines ∧ (h.ln l).way = .waits
  per : ∀ l ∈ h.lines, LnOk h.long h.lines h.ln l (h.ln l)
theorem freed_eq (h : Hs) (l : PySem.Str) : h.freed l = { h with rk := freeRk h.rk (h.ln l).train, ln := up h.ln l { h.ln l with train := [] } } := by
  unfold freed
  rw [freeAll_eq]
  rfl
theorem ended_eq (h : Hs) (l : PySem.Str) (y : Wy) : h.ended l y = { h with rk := freeRk h.rk (h.ln l).train, ln := up h.ln l { (h.ln l) with train := [], way := .told, why := some y } } := by
  unfold ended
  rw [freed_eq]
  unfold setLn
  rw [up_up]
theorem rk_len (rk : PySem.Str → Rc) (ps : List (PySem.Str × Nat)) (w : PySem.Str) : ((freeRk rk ps w).held.length = (rk w).held.length) ∧ (freeRk rk ps w).brk.length = (rk w).brk.length ∧ (freeRk rk ps w).tak.length = (rk w).tak.length := by
  have := freeRk_len ps rk w
  exact ⟨this.1, by rw [this.2.1], by rw [this.2.2]⟩
theorem up_rk {rk : PySem.Str → Rc} {v : PySem.Str} {r : Rc} (h : r.held.length = (rk v).held.length ∧ r.brk.length = (rk v).brk.length ∧ r.tak.length = (rk v).tak.length) (w : PySem.Str) :
    (up rk v r w).held.length = (rk w).held.length ∧ (up rk v r w).brk.length = (rk w).brk.length ∧ (up rk v r w).tak.length = (rk w).tak.length := by
  by_cases e : w = v
  · subst e; rw [up_same]; exact h
  · rw [up_ne e]; exact ⟨rfl, rfl, rfl⟩
theorem tr_up {ln : PySem.Str → Ln} {l : PySem.Str} {r : Ln} : (fun x => (up ln l r x).train) = up (fun x => (ln x).train) l r.train := by
  funext x; unfold up; split <;> rfl
/-- a line's train alone is let go: its record is another one then -/
theorem Ok.letgo {h : Hs} (o : h.Ok) {l : PySem.Str} (hl : l ∈ h.lines) {r : Ln} (hr : r.train = []) : HB h.lines h.wheres (freeRk h.rk (h.ln l).train) (fun x => (up h.ln l r x).train) := by
  rw [tr_up, hr]
  exact o.hb.freed hl
theorem first_rdy {h : Hs} {k : Nat} (s : h.Sh) (f : h.first = some k) : k < (h.rk "").held.length ∧ (h.rk "").held[k]? = some none ∧ (h.rk "").brk[k]? = some false := by
  unfold first at f
  have h1 := List.find?_some f
  have h2 := List.mem_of_find?_eq_some f
  unfold ord at h2
  obtain ⟨far, _, rfl⟩ := List.mem_map.mp h2
  unfold Rc.rdy at h1
  rw [Bool.and_eq_true, decide_eq_true_eq] at h1
  have kl : (h.mark + far) % h.n < (h.rk "").held.length := Nat.mod_lt _ s.s1
  refine ⟨kl, h1.1, ?_⟩
  have hb : (h.mark + far) % h.n < (h.rk "").brk.length := by rw [(s.rok _ s.w0).b]; exact kl
  have h3 := h1.2
  rw [List.getD_eq_getElem?_getD, List.getElem?_eq_getElem hb] at h3
  rw [List.getElem?_eq_getElem hb]
  simpa using h3
theorem Ok.tone1 {h : Hs} (o : h.Ok) {l : PySem.Str} {qs : List PySem.Str} {k : Nat} (hq : h.queue = l :: qs) (f : h.first = some k) : (h.tone1 l k).Ok := by
  have hl : l ∈ h.lines ∧ (h.ln l).way = .waits := (o.q l).mp (by rw [hq]; exact List.mem_cons_self)
  have hk := first_rdy o.sh f
  have el : h.ln l = { way := .waits } := by
    have := o.per l hl.1
    generalize h.ln l = r at this hl
    cases this <;> first | rfl | (exact absurd hl.2 (by simp))
  have nd := o.qnd
  rw [hq] at nd
  refine ⟨o.sh.same (Same.mk rfl rfl rfl (fun w => ?_) (fun w => ?_) (fun w => ?_) ?_ ?_) ?_, ?_, ?_, ?_, ?_⟩
  · exact (up_rk (by simp [Rc.give]) w).1
  · exact (up_rk (rk := h.rk) (v := "") (r := (h.rk "").give k l) (by simp [Rc.give]) w).2.1
  · exact (up_rk (rk := h.rk) (v := "") (r := (h.rk "").give k l) (by simp [Rc.give]) w).2.2
  · show (h.spots.set k _).length = _; simp
  · show (h.steps.set k _).length = _; simp
  · exact Nat.mod_lt _ o.sh.s1
  · show HB h.lines h.wheres (up h.rk "" ((h.rk "").give k l)) (fun x => (up h.ln l _ x).train)
    rw [tr_up]
    have := o.hb.give hl.1 o.sh.w0 hk.2.1
    rw [show (h.ln l).train = [] by rw [el]] at this
    exact this
  · show h.queue.tail.Nodup
    rw [hq]; exact (List.nodup_cons.mp nd).2
  · intro m
    show m ∈ h.queue.tail ↔ m ∈ h.lines ∧ (up h.ln l _ m).way = .waits
    rw [hq]
    by_cases e : m = l
    · subst e
      rw [up_same]
      exact ⟨fun z => absurd z (List.nodup_cons.mp nd).1, fun z => by cases z.2⟩
    · rw [up_ne e, ← o.q m, hq]
      simp [e]
  · refine per_up o.per [l] (fun x hx => up_ne (by simpa using hx)) (fun c hc p hp => ?_) (fun c hc _ => ?_)
    · rw [List.mem_singleton.mp hc, el] at hp; cases hp
    · rw [List.mem_singleton.mp hc]
      show LnOk _ _ _ _ (up h.ln l _ l)
      rw [up_same, el]
      refine .dials ?_ (fun c hc => by rw [codes0] at hc; cases hc) (Nat.zero_le _) (by rw [heads_nil]; rfl)
      show 0 < h.long
      have := o.sh.g2
      omega
theorem tones_ok : ∀ (m : Nat) (h : Hs), h.Ok → (tones m h).2.Ok
  | 0, h, o => o
  | m + 1, h, o => by
    show (match h.queue with | [] => ([], h) | l :: _ => match h.first with | none => ([], h) | some k => ((Tl.tone l k (h.went l k)) :: (tones m (h.tone1 l k)).1, (tones m (h.tone1 l k)).2)).2.Ok
    cases hq : h.queue with
    | nil => exact o
    | cons l qs =>
      dsimp only
      cases hf : h.first with
      | none => exact o
      | some k => exact tones_ok m _ (o.tone1 hq hf)
end Hs
end L2.Zs
namespace L2.Zs
open PySem PySem.Spec PyProof.Rows
namespace Hs
theorem Ok.to {h h' : Hs} (o : h.Ok) (s : Same h h') (m : h'.mark = h.mark) (hb : HB h.lines h.wheres h'.rk (fun x => (h'.ln x).train)) (qnd : h'.queue.Nodup)
    (q : ∀ l, l ∈ h'.queue ↔ l ∈ h.lines ∧ (h'.ln l).way = .waits) (per : ∀ l ∈ h.lines, LnOk h.long h.lines h'.ln l (h'.ln l)) : h'.Ok := by
  refine ⟨o.sh.same s (by rw [m]; exact o.sh.mr), ?_, qnd, ?_, ?_⟩
  · rw [s.lines, s.wheres]; exact hb
  · rw [s.lines]; exact q
  · rw [s.lines, s.long]; exact per
theorem hb_up {h : Hs} (o : h.Ok) {l : PySem.Str} {r : Ln} (e : r.train = (h.ln l).train) : HB h.lines h.wheres h.rk (fun x => (up h.ln l r x).train) := by
  refine o.hb.congr (fun _ _ => rfl) fun x _ => ?_
  by_cases c : x = l
  · subst c; rw [up_same]; exact e
  · rw [up_ne c]
theorem q_up {h : Hs} (o : h.Ok) {l : PySem.Str} {r : Ln} (e1 : (h.ln l).way ≠ .waits) (e2 : r.way ≠ .waits) (m : PySem.Str) : m ∈ h.queue ↔ m ∈ h.lines ∧ (up h.ln l r m).way = .waits := by
  rw [o.q m]
  by_cases c : m = l
  · subst c; rw [up_same]; exact ⟨fun z => absurd z.2 e1, fun z => absurd z.2 e2⟩
  · rw [up_ne c]
theorem q_up2 {h : Hs} {qu : List PySem.Str} {ln : PySem.Str → Ln} (o : ∀ m, m ∈ qu ↔ m ∈ h.lines ∧ (ln m).way = .waits) {l : PySem.Str} {r : Ln} (e1 : (ln l).way ≠ .waits) (e2 : r.way ≠ .waits) (m : PySem.Str) : m ∈ qu ↔ m ∈ h.lines ∧ (up ln l r m).way = .waits := by
  rw [o m]
  by_cases c : m = l
  · subst c; rw [up_same]; exact ⟨fun z => absurd z.2 e1, fun z => absurd z.2 e2⟩
  · rw [up_ne c]
theorem q_add {h : Hs} {qu : List PySem.Str} {ln : PySem.Str → Ln} (o : ∀ m, m ∈ qu ↔ m ∈ h.lines ∧ (ln m).way = .waits) {l : PySem.Str} {r : Ln} (hl : l ∈ h.lines) (e2 : r.way = .waits) (m : PySem.Str) : m ∈ qu ++ [l] ↔ m ∈ h.lines ∧ (up ln l r m).way = .waits := by
  rw [List.mem_append, o m, List.mem_singleton]
  by_cases c : m = l
  · subst c; rw [up_same]; exact ⟨fun _ => ⟨hl, e2⟩, fun _ => .inr rfl⟩
  · rw [up_ne c]; exact ⟨fun z => z.resolve_right c, .inl⟩
/-- the pair of a line that is rung -/
theorem Ok.pair {h : Hs} (o : h.Ok) {l p : PySem.Str} (hl : l ∈ h.lines) (e : h.ln l = { way := .rung, en := some p }) : p ∈ h.lines ∧ p ≠ l ∧ ∃ t, t.map (·.1) = heads h.long l ∧ h.ln p = { way := .rings, figs := l, train := t, en := some l } := by
  have b : LnOk h.long h.lines h.ln l { way := .rung, en := some p } := e ▸ o.per l hl
  cases b with
  | rung h1 h2 h3 =>
    refine ⟨h1, fun z => ?_, ?_⟩
    · subst z; rw [e] at h2; cases h2
    · have c := o.per p h1
      generalize h.ln p = r at h2 h3 c
      cases c <;> first | cases h2 | skip
      cases h3
      exact ⟨_, by assumption, rfl⟩
theorem lift_ok {h h' : Hs} (o : h.Ok) {l : PySem.Str} {ts : List Tl} (hl : l ∈ h.lines) (e : h.lift l = .ok (ts, h')) : h'.Ok := by
  have p := o.per l hl
  unfold lift at e
  generalize er : h.ln l = r at p e
  cases p <;> dsimp only at e <;> first | cases e | skip
  · have nq : l ∉ h.queue := fun z => by have := ((o.q l).mp z).2; rw [er] at this; cases this
    refine o.to ⟨rfl, rfl, rfl, fun _ => rfl, fun _ => rfl, fun _ => rfl, rfl, rfl⟩ rfl (hb_up o (by rw [er])) ?_ (q_add (h := h) o.q hl rfl) ?_
    · show (h.queue ++ [l]).Nodup
      rw [List.nodup_append]
      exact ⟨o.qnd, by simp, fun x hx y hy => by rw [List.mem_singleton.mp hy]; exact fun z => nq (z ▸ hx)⟩
    · refine per_up o.per [l] (fun x hx => up_ne (by simpa using hx)) (fun c hc q hq => ?_) (fun c hc _ => ?_)
      · rw [List.mem_singleton.mp hc, er] at hq; cases hq
      · rw [List.mem_singleton.mp hc]
        show LnOk _ _ _ _ (up h.ln l _ l)
        rw [up_same]; exact .waits
  · rename_i q _ _ _
    obtain ⟨hq, nq, t, et, eq⟩ := o.pair hl er
    show Ok ((h.setLn l _).setLn q { h.ln q with way := .talks })
    rw [eq]
    refine o.to ⟨rfl, rfl, rfl, fun _ => rfl, fun _ => rfl, fun _ => rfl, rfl, rfl⟩ rfl ?_ o.qnd ?_ ?_
    · refine (hb_up o (l := l) (r := { way := .talks, en := some q }) (by rw [er])).congr (fun _ _ => rfl) fun x _ => ?_
      by_cases c : x = q
      · subst c; show (up (up h.ln l _) x _ x).train = _; rw [up_same, up_ne nq, eq]
      · show (up (up h.ln l _) q _ x).train = _; rw [up_ne c]
    · exact q_up2 (h := h) (q_up o (by rw [er]; exact nofun) (by exact nofun)) (by rw [up_ne nq, eq]; exact nofun) (by exact nofun)
    · have e1 : up (up h.ln l { way := .talks, en := some q }) q { way := .talks, figs := l, train := t, en := some l } l = { way := .talks, en := some q } := by rw [up_ne (Ne.symm nq), up_same]
      have e2 : up (up h.ln l { way := .talks, en := some q }) q { way := .talks, figs := l, train := t, en := some l } q = { way := .talks, figs := l, train := t, en := some l } := up_same
      refine per_up o.per [l, q] (fun x hx => ?_) (fun c hc p hp => ?_) (fun c hc _ => ?_)
      · simp only [List.mem_cons, List.not_mem_nil, or_false, not_or] at hx
        show up (up h.ln l _) q _ x = _
        rw [up_ne hx.2, up_ne hx.1]
      · simp only [List.mem_cons, List.not_mem_nil, or_false] at hc
        rcases hc with rfl | rfl
        · rw [er] at hp; cases hp; simp
        · rw [eq] at hp; cases hp; simp
      · simp only [List.mem_cons, List.not_mem_nil, or_false] at hc
        rcases hc with rfl | rfl
        · show LnOk _ _ _ _ (up (up h.ln c _) q _ c)
          rw [e1]
          refine .talksB hq ?_ ?_ ?_
          · show (up (up h.ln c _) q _ q).way = _; rw [e2]
          · show (up (up h.ln c _) q _ q).en = _; rw [e2]
          · show (up (up h.ln c _) q _ q).figs = _; rw [e2]
        · show LnOk _ _ _ _ (up (up h.ln l _) c _ c)
          rw [e2]
          exact .talksA hl e1 et
theorem same_rk {h : Hs} {qu : List PySem.Str} {ln : PySem.Str → Ln} {ps : List (PySem.Str × Nat)} : Same h { h with queue := qu, rk := freeRk h.rk ps, ln := ln } := Same.rk rfl rfl rfl rfl rfl (rk_len h.rk ps)
theorem Same.trans {a b c : Hs} (x : Same a b) (y : Same b c) : Same a c :=
  ⟨y.long.trans x.long, y.lines.trans x.lines, y.wheres.trans x.wheres, fun w => (y.held w).trans (x.held w), fun w => (y.brk w).trans (x.brk w), fun w => (y.tak w).trans (x.tak w), y.spots.trans x.spots, y.steps.trans x.steps⟩
/-- a line of no other end comes to rest, or is told -/
theorem Ok.alone {h : Hs} (o : h.Ok) {l : PySem.Str} {r : Ln} (hl : l ∈ h.lines) (en : (h.ln l).en = none) (hr : r.train = []) (hw : r.way ≠ .waits) (ok : ∀ ln, LnOk h.long h.lines ln l r) {qu : List PySem.Str} (hq : qu = if (h.ln l).way = .waits then h.queue.erase l else h.queue) :
    Ok { h with queue := qu, rk := freeRk h.rk (h.ln l).train, ln := up h.ln l r } := by
  refine o.to same_rk rfl (o.letgo hl hr) ?_ ?_ ?_
  · show qu.Nodup
    rw [hq]; split
    · exact o.qnd.erase l
    · exact o.qnd
  · intro m
    show m ∈ qu ↔ m ∈ h.lines ∧ (up h.ln l r m).way = .waits
    rw [hq]
    by_cases c : m = l
    · subst c
      rw [up_same]
      refine ⟨fun z => ?_, fun z => absurd z.2 hw⟩
      split at z
      · exact absurd z (List.Nodup.not_mem_erase o.qnd)
      · rename_i e; exact absurd ((o.q m).mp z).2 e
    · rw [up_ne c, ← o.q m]
      split
      · exact List.mem_erase_of_ne c
      · rfl
  · refine per_up o.per [l] (fun x hx => up_ne (by simpa using hx)) (fun c hc q hq => ?_) (fun c hc _ => ?_)
    · rw [List.mem_singleton.mp hc, en] at hq; cases hq
    · rw [List.mem_singleton.mp hc]
      show LnOk _ _ _ _ (up h.ln l r l)
      rw [up_same]; exact ok _
/-- what hang comes to for a pair -/
theorem Ok.pairDown {h : Hs} (o : h.Ok) {l p : PySem.Str} {w : Way} (hl : l ∈ h.lines) (en : (h.ln l).en = some p) (np : p ≠ l) (wl : (h.ln l).way ≠ .waits) (wp : (h.ln p).way ≠ .waits) (hw : w = .rests ∨ w = .waits) :
    Ok { h with queue := if w = .waits then h.queue ++ [p] else h.queue, rk := freeRk (freeRk h.rk (h.ln l).train) (h.ln p).train, ln := up (up h.ln p { way := w }) l {} } := by
  obtain ⟨hp, ep⟩ := (o.per l hl).back en
  have tw : ({ way := w } : Ln).train = [] := rfl
  refine o.to (Same.rk rfl rfl rfl rfl rfl fun v => ?_) rfl ?_ ?_ ?_ ?_
  · have a := rk_len h.rk (h.ln l).train v
    have b := rk_len (freeRk h.rk (h.ln l).train) (h.ln p).train v
    exact ⟨b.1.trans a.1, b.2.1.trans a.2.1, b.2.2.trans a.2.2⟩
  · have b1 := o.hb.freed hl
    have b2 := b1.freed hp
    rw [up_ne np] at b2
    refine b2.congr (fun _ _ => rfl) fun x _ => ?_
    show (up (up h.ln p _) l {} x).train = _
    by_cases c : x = l
    · subst c; rw [up_same, up_ne (Ne.symm np), up_same]
    · rw [up_ne c]
      by_cases d : x = p
      · subst d; rw [up_same, up_same]
      · rw [up_ne d, up_ne d, up_ne c]
  · show (if w = .waits then h.queue ++ [p] else h.queue).Nodup
    split
    · rw [List.nodup_append]
      exact ⟨o.qnd, by simp, fun x hx y hy => by rw [List.mem_singleton.mp hy]; exact fun z => wp (((o.q x).mp hx).2 ▸ z ▸ rfl)⟩
    · exact o.qnd
  · have wl' : (up h.ln p { way := w } l).way ≠ .waits := by rw [up_ne (Ne.symm np)]; exact wl
    refine q_up2 (h := h) ?_ wl' (by decide)
    intro m
    rcases hw with rfl | rfl
    · rw [if_neg (by decide)]; exact q_up o wp (by decide) m
    · rw [if_pos rfl]; exact q_add (h := h) o.q hp rfl m
  · refine per_up o.per [l, p] (fun x hx => ?_) (fun c hc q hq => ?_) (fun c hc _ => ?_)
    · simp only [List.mem_cons, List.not_mem_nil, or_false, not_or] at hx
      show up (up h.ln p _) l _ x = _
      rw [up_ne hx.1, up_ne hx.2]
    · simp only [List.mem_cons, List.not_mem_nil, or_false] at hc
      rcases hc with rfl | rfl
      · rw [en] at hq; cases hq; simp
      · rw [ep] at hq; cases hq; simp
    · simp only [List.mem_cons, List.not_mem_nil, or_false] at hc
      show LnOk _ _ _ _ (up (up h.ln p _) l _ c)
      rcases hc with rfl | rfl
      · rw [up_same]; exact .rests
      · rw [up_ne np, up_same]
        rcases hw with rfl | rfl
        · exact .rests
        · exact .waits
theorem hang_pair {h : Hs} {l p : PySem.Str} (en : (h.ln l).en = some p) (np : p ≠ l) (w1 : (h.ln l).way ≠ .waits) (w2 : (h.ln l).way ≠ .rests) (w3 : (h.ln l).way ≠ .rung) :
    h.hang l = .ok (if (h.ln p).way = .rung then ([.rests l, .quiet p], { h with rk := freeRk (freeRk h.rk (h.ln l).train) (h.ln p).train, ln := up (up h.ln p { way := .rests }) l {} })
      else ([.rests l, .waits p], { h with queue := h.queue ++ [p], rk := freeRk (freeRk h.rk (h.ln l).train) (h.ln p).train, ln := up (up h.ln p { way := .waits }) l {} })) := by
  unfold hang
  rw [en]
  have key : ∀ w, { h with queue := if w = Way.waits then h.queue.erase l else h.queue } = (if w = Way.waits then { h with queue := h.queue.erase l } else h : Hs) := fun w => by split <;> rfl
  have f2 : ((h.freed l).freed p) = { h with rk := freeRk (freeRk h.rk (h.ln l).train) (h.ln p).train, ln := up (up h.ln l { h.ln l with train := [] }) p { h.ln p with train := [] } } := by
    rw [freed_eq, freed_eq]
    dsimp only
    rw [up_ne np]
  have fin : ∀ w, up (up (up (up h.ln l { h.ln l with train := [] }) p { h.ln p with train := [] }) p ({ way := w } : Ln)) l ({ way := .rests } : Ln) = up (up h.ln p { way := w }) l {} := fun w => by
    rw [up_up, up_comm (f := h.ln) (Ne.symm np), up_up]
  cases hw : (h.ln l).way <;> first | exact absurd hw w1 | exact absurd hw w2 | exact absurd hw w3 | skip
  all_goals
    dsimp only
    rw [key, if_neg (c := (_ : Way) = Way.waits), f2]
    case hnc => exact nofun
    by_cases c : (h.ln p).way = .rung
    · rw [if_pos c, if_pos c]
      dsimp only [begin_, setLn]
      rw [fin]
    · rw [if_neg c, if_neg c]
      dsimp only [waitB, begin_, setLn]
      rw [fin]
theorem hang_alone {h : Hs} {l : PySem.Str} (en : (h.ln l).en = none) (w2 : (h.ln l).way ≠ .rests) (w3 : (h.ln l).way ≠ .rung) :
    h.hang l = .ok ([.rests l], { h with queue := if (h.ln l).way = .waits then h.queue.erase l else h.queue, rk := freeRk h.rk (h.ln l).train, ln := up h.ln l {} }) := by
  unfold hang
  rw [en]
  cases hw : (h.ln l).way <;> first | exact absurd hw w2 | exact absurd hw w3 | skip
  all_goals
    dsimp only
    rw [freed_eq]
    dsimp only [begin_, setLn]
    rw [up_up]
theorem hang_ok {h h' : Hs} (o : h.Ok) {l : PySem.Str} {ts : List Tl} (hl : l ∈ h.lines) (e : h.hang l = .ok (ts, h')) : h'.Ok := by
  have p := o.per l hl
  generalize er : h.ln l = r at p
  have pr : ∀ {p : PySem.Str}, (h.ln l).en = some p → p ≠ l → (h.ln l).way ≠ .waits → (h.ln p).way ≠ .waits → (h.ln l).way ≠ .rests → (h.ln l).way ≠ .rung → h'.Ok := by
    intro p en np wl wp w2 w3
    rw [hang_pair en np wl w2 w3] at e
    split at e
    · cases e; exact o.pairDown (w := .rests) hl en np wl wp (.inl rfl)
    · cases e; exact o.pairDown (w := .waits) hl en np wl wp (.inr rfl)
  have al : (h.ln l).en = none → (h.ln l).way ≠ .rests → (h.ln l).way ≠ .rung → h'.Ok := by
    intro en w2 w3
    rw [hang_alone en w2 w3] at e
    cases e
    exact o.alone hl en rfl (by decide) (fun _ => .rests) rfl
  cases p with
  | rests => unfold hang at e; rw [er] at e; cases e
  | rung _ _ _ => unfold hang at e; rw [er] at e; cases e
  | waits => exact al (by rw [er]) (by rw [er]; exact nofun) (by rw [er]; exact nofun)
  | dials _ _ _ _ => exact al (by rw [er]) (by rw [er]; exact nofun) (by rw [er]; exact nofun)
  | told _ _ _ => exact al (by rw [er]) (by rw [er]; exact nofun) (by rw [er]; exact nofun)
  | rings h1 h2 _ => exact pr (by rw [er]) (fun z => by subst z; rw [er] at h2; cases h2) (by rw [er]; exact nofun) (by rw [h2]; exact nofun) (by rw [er]; exact nofun) (by rw [er]; exact nofun)
  | @talksA q _ h1 h2 _ =>
    refine pr (by rw [er]) (fun z => ?_) (by rw [er]; exact nofun) (by rw [h2]; exact nofun) (by rw [er]; exact nofun) (by rw [er]; exact nofun)
    subst z
    rw [er] at h2
    have := congrArg Ln.figs h2
    have hf := (o.sh.lf _ h1).1
    have g2 := o.sh.g2
    dsimp only at this
    rw [this] at hf
    rw [show ("" : PySem.Str).length = 0 by decide +kernel] at hf
    omega
  | @talksB q h1 h2 h3 h4 =>
    refine pr (by rw [er]) (fun z => ?_) (by rw [er]; exact nofun) (by rw [h2]; exact nofun) (by rw [er]; exact nofun) (by rw [er]; exact nofun)
    subst z
    rw [er] at h4
    have hf := (o.sh.lf _ h1).1
    have g2 := o.sh.g2
    dsimp only at h4
    rw [← h4] at hf
    rw [show ("" : PySem.Str).length = 0 by decide +kernel] at hf
    omega
end Hs
end L2.Zs
namespace L2.Zs
open PySem PySem.Spec PyProof.Rows
def digS (m : Int) : PySem.Str := toString (m % 10)
theorem dig_all : ∀ k : Fin 10, (PySem.Str.ofString (toString ((k.val : Nat) : Int))).cps.toList = [48 + k.val] := by decide +kernel
theorem digS_codes (m : Int) : ∃ c, (digS m).cps.toList = [c] ∧ 48 ≤ c ∧ c ≤ 57 := by
  have h := emod_in m (p := 10) (by decide)
  have hk : (m % 10).toNat < 10 := by omega
  have := dig_all ⟨(m % 10).toNat, hk⟩
  refine ⟨48 + (m % 10).toNat, ?_, by omega, by omega⟩
  rw [← this]
  show (PySem.Str.ofString (toString (m % 10))).cps.toList = (PySem.Str.ofString (toString (((m % 10).toNat : Nat) : Int))).cps.toList
  rw [Int.toNat_of_nonneg h.1]
theorem digS_len (m : Int) : (digS m).length = 1 := by
  obtain ⟨c, h, _⟩ := digS_codes m
  show (digS m).cps.size = 1
  rw [← Array.length_toList, h]; rfl
namespace Hs
theorem figsOn_eq (h : Hs) (l : PySem.Str) : h.figsOn l = (h.ln l).figs ++ digS ((h.ln l).many : Int) := rfl
theorem figsOn_len (h : Hs) (l : PySem.Str) : (h.figsOn l).length = (h.ln l).figs.length + 1 := by
  rw [figsOn_eq, app_len, digS_len]
theorem figsOn_dig {h : Hs} {l : PySem.Str} (d : ∀ c ∈ (h.ln l).figs.cps.toList, 48 ≤ c ∧ c ≤ 57) : ∀ c ∈ (h.figsOn l).cps.toList, 48 ≤ c ∧ c ≤ 57 := by
  obtain ⟨c, e, h1⟩ := digS_codes ((h.ln l).many : Int)
  rw [figsOn_eq, app_codes, e]
  intro x hx
  rcases List.mem_append.mp hx with hx | hx
  · exact d x hx
  · rw [List.mem_singleton.mp hx]; exact h1
theorem Ok.dialsIs {h : Hs} (o : h.Ok) {l : PySem.Str} (hl : l ∈ h.lines) (w : (h.ln l).way = .dials) : ∃ f m t, h.ln l = { way := .dials, figs := f, many := m, train := t } ∧ f.length < h.long ∧ (∀ c ∈ f.cps.toList, 48 ≤ c ∧ c ≤ 57) ∧ m ≤ 10 ∧ t.map (·.1) = heads h.long f := by
  have p := o.per l hl
  generalize h.ln l = r at p w
  cases p <;> first | cases w | skip
  exact ⟨_, _, _, rfl, by assumption, by assumption, by assumption, by assumption⟩
theorem pulse_ok {h h' : Hs} (o : h.Ok) {l : PySem.Str} {ts : List Tl} (hl : l ∈ h.lines) (e : h.pulse l = .ok (ts, h')) : h'.Ok := by
  by_cases w : (h.ln l).way = .dials
  · obtain ⟨f, m, t, er, h1, h2, h3, h4⟩ := o.dialsIs hl w
    unfold pulse at e
    rw [er] at e
    dsimp only at e
    split at e
    · cases e
      refine o.to ⟨rfl, rfl, rfl, fun _ => rfl, fun _ => rfl, fun _ => rfl, rfl, rfl⟩ rfl (hb_up o (by rw [er])) o.qnd (q_up o (by rw [er]; exact nofun) (by exact nofun)) ?_
      refine per_up o.per [l] (fun x hx => up_ne (by simpa using hx)) (fun c hc q hq => ?_) (fun c hc _ => ?_)
      · rw [List.mem_singleton.mp hc, er] at hq; cases hq
      · rw [List.mem_singleton.mp hc]
        show LnOk _ _ _ _ (up h.ln l _ l)
        rw [up_same]; exact .dials h1 h2 (by assumption) h4
    · cases e
      rw [ended_eq]
      show Ok { h with rk := freeRk h.rk (up h.ln l _ l).train, ln := up (up h.ln l _) l _ }
      rw [up_same, up_up]
      have := o.alone (r := { way := .told, figs := f, many := m + 1, why := some (.over f) }) hl (by rw [er]) rfl (by exact nofun) (fun _ => .told (Nat.le_of_lt h1) h2 (by omega)) (qu := h.queue) (by rw [er]; exact (if_neg (by exact nofun)).symm)
      rw [er] at this
      show Ok { h with rk := freeRk h.rk t, ln := up h.ln l ({ way := .told, figs := (up h.ln l _ l).figs, many := (up h.ln l _ l).many, train := [], en := (up h.ln l _ l).en, why := some _ } : Ln) }
      rw [up_same]
      exact this
  · unfold pulse at e
    cases hw : (h.ln l).way <;> rw [hw] at e <;> first | cases e | exact absurd hw w
theorem gap_ok {h h' : Hs} (o : h.Ok) {l : PySem.Str} {ts : List Tl} (hl : l ∈ h.lines) (e : h.gap l = .ok (ts, h')) : h'.Ok := by
  by_cases w : (h.ln l).way = .dials
  · obtain ⟨f, m, t, er, h1, h2, h3, h4⟩ := o.dialsIs hl w
    have d2 := figsOn_dig (h := h) (l := l) (by rw [er]; exact h2)
    have d1 := figsOn_len h l
    rw [er] at d1
    dsimp only at d1
    unfold gap at e
    rw [w] at e
    dsimp only at e
    split at e
    · cases e
    have d3 : heads h.long (h.figsOn l) = if (h.figsOn l).length ≤ h.long - 2 then heads h.long f ++ [h.figsOn l] else heads h.long f := by
      rw [Hs.figsOn_eq, er]; exact heads_app (digS_len _)
    have g2 := o.sh.g2
    generalize hg : h.figsOn l = g at e d1 d2 d3
    have eh : (h.setLn l { h.ln l with figs := g, many := 0 }) = h.setLn l { way := .dials, figs := g, many := 0, train := t } := by rw [er]
    rw [eh] at e
    have e1 : ∀ r, (h.setLn l r).ln l = r := fun r => up_same
    -- told
    have tol : ∀ y, ((h.setLn l { way := .dials, figs := g, many := 0, train := t }).ended l y).Ok := by
      intro y
      rw [ended_eq, e1]
      show Ok { h with rk := freeRk h.rk t, ln := up (up h.ln l _) l _ }
      rw [up_up]
      have := o.alone (r := { way := .told, figs := g, many := 0, why := some y }) hl (by rw [er]) rfl (by exact nofun) (fun _ => .told (by omega) d2 (by omega)) (qu := h.queue) (by rw [er]; exact (if_neg (by exact nofun)).symm)
      rw [er] at this
      exact this
    split at e
    · rename_i c1
      cases e
      unfold ledTo
      by_cases c2 : g ∉ (h.setLn l { way := .dials, figs := g, many := 0, train := t }).lines
      · rw [if_pos c2]; exact tol _
      · rw [if_neg c2]
        split
        · exact tol _
        · rename_i c3
          have hgl : g ∈ h.lines := Classical.byContradiction c2
          have c4 : ((h.setLn l { way := .dials, figs := g, many := 0, train := t }).ln g).way = .rests := Classical.byContradiction c3
          have ng : g ≠ l := fun z => by subst z; rw [e1] at c4; cases c4
          have c5 : (h.setLn l { way := .dials, figs := g, many := 0, train := t }).ln g = h.ln g := up_ne ng
          rw [c5] at c4
          have eg : h.ln g = {} := by
            have p := o.per g hgl
            generalize h.ln g = r at p c4
            cases p <;> first | rfl | cases c4
          rw [c5, eg, e1]
          have nl : l ≠ g := Ne.symm ng
          refine o.to ⟨rfl, rfl, rfl, fun _ => rfl, fun _ => rfl, fun _ => rfl, rfl, rfl⟩ rfl ?_ o.qnd ?_ ?_
          · refine o.hb.congr (fun _ _ => rfl) fun x _ => ?_
            show (up (up (up h.ln l _) g _) l _ x).train = _
            by_cases c : x = l
            · subst c; rw [up_same, er]
            · rw [up_ne c]
              by_cases d : x = g
              · subst d; rw [up_same, eg]
              · rw [up_ne d, up_ne c]
          · refine q_up2 (h := h) (q_up2 (h := h) (q_up o (by rw [er]; exact nofun) (by exact nofun)) ?_ (by exact nofun)) ?_ (by exact nofun)
            · rw [up_ne ng, eg]; exact nofun
            · rw [up_ne nl, up_same]; exact nofun
          · refine per_up o.per [l, g] (fun x hx => ?_) (fun c hc p hp => ?_) (fun c hc _ => ?_)
            · simp only [List.mem_cons, List.not_mem_nil, or_false, not_or] at hx
              show up (up (up h.ln l _) g _) l _ x = _
              rw [up_ne hx.1, up_ne hx.2, up_ne hx.1]
            · simp only [List.mem_cons, List.not_mem_nil, or_false] at hc
              rcases hc with rfl | rfl
              · rw [er] at hp; cases hp
              · rw [eg] at hp; cases hp
            · simp only [List.mem_cons, List.not_mem_nil, or_false] at hc
              show LnOk _ _ (up (up (up h.ln l _) g _) l _) _ (up (up (up h.ln l _) g _) l _ c)
              rcases hc with rfl | rfl
              · rw [up_same]
                refine .rings hgl ?_ ?_
                · rw [up_ne ng, up_same]
                · rw [d3, if_neg (by omega)]; exact h4
              · rw [up_ne ng, up_same]
                refine .rung hl ?_ ?_
                · rw [up_same]
                · rw [up_same]
    · split at e
      · cases e
        refine o.to ⟨rfl, rfl, rfl, fun _ => rfl, fun _ => rfl, fun _ => rfl, rfl, rfl⟩ rfl (hb_up o (by rw [er])) o.qnd (q_up o (by rw [er]; exact nofun) (by exact nofun)) ?_
        refine per_up o.per [l] (fun x hx => up_ne (by simpa using hx)) (fun c hc q hq => ?_) (fun c hc _ => ?_)
        · rw [List.mem_singleton.mp hc, er] at hq; cases hq
        · rw [List.mem_singleton.mp hc]
          show LnOk _ _ _ _ (up h.ln l _ l)
          rw [up_same]; exact .dials (show g.length < h.long by omega) d2 (Nat.zero_le _) (by rw [d3, if_neg (by omega)]; exact h4)
      · cases e
        unfold ledBy
        split
        · exact tol _
        · rename_i c2
          have hgw : g ∈ h.wheres := Classical.byContradiction c2
          rw [show (h.setLn l { way := .dials, figs := g, many := 0, train := t }).rk g = h.rk g from rfl]
          cases hf : (h.rk g).first with
          | none => exact tol _
          | some k =>
            have hk := List.find?_some hf
            unfold Rc.rdy at hk
            rw [Bool.and_eq_true, decide_eq_true_eq] at hk
            show Ok { h with rk := up h.rk g ((h.rk g).give k l), ln := up (up h.ln l _) l _ }
            rw [up_up, e1]
            refine o.to (Same.rk rfl rfl rfl rfl rfl fun v => up_rk (by simp [Rc.give]) v) rfl ?_ o.qnd (q_up o (by rw [er]; exact nofun) (by exact nofun)) ?_
            · show HB h.lines h.wheres (up h.rk g ((h.rk g).give k l)) (fun x => (up h.ln l _ x).train)
              rw [tr_up]
              have := o.hb.give hl hgw hk.1
              rw [show (h.ln l).train = t by rw [er]] at this
              exact this
            · refine per_up o.per [l] (fun x hx => up_ne (by simpa using hx)) (fun c hc q hq => ?_) (fun c hc _ => ?_)
              · rw [List.mem_singleton.mp hc, er] at hq; cases hq
              · rw [List.mem_singleton.mp hc]
                show LnOk _ _ _ _ (up h.ln l _ l)
                rw [up_same]; exact .dials (show g.length < h.long by omega) d2 (Nat.zero_le _) (by rw [d3, if_pos (by omega), List.map_append, h4]; rfl)
  · unfold gap at e
    cases hw : (h.ln l).way <;> rw [hw] at e <;> first | cases e | exact absurd hw w
theorem act_ok {h h' : Hs} (o : h.Ok) {d : Dd} {ts : List Tl} (e : h.act d = .ok (ts, h')) : h'.Ok := by
  cases d with
  | ln w l =>
    change h.atLine w l = _ at e
    unfold atLine at e
    split at e
    · cases e
    · rename_i hl
      have hl : l ∈ h.lines := Classical.byContradiction hl
      cases w with
      | lift => exact lift_ok o hl e
      | hang => exact hang_ok o hl e
      | pulse => exact pulse_ok o hl e
      | gap => exact gap_ok o hl e
  | sw b w k =>
    change (if w ∈ h.wheres ∧ 0 ≤ k ∧ k < ((h.rk w).held.length : Int) then _ else _) = _ at e
    split at e
    · cases e
      refine o.to (Same.rk rfl rfl rfl rfl rfl fun v => up_rk (by simp [Rc.brkAt]) v) rfl ?_ o.qnd o.q o.per
      refine o.hb.congr (fun v _ => ?_) fun x _ => rfl
      show (up h.rk w _ v).held = _
      by_cases c : v = w
      · subst c; rw [up_same]; rfl
      · rw [up_ne c]
    · cases e
theorem Ok.noted {h : Hs} (o : h.Ok) (d : Dd) : (h.noted d).Ok :=
  o.to ⟨rfl, rfl, rfl, fun _ => rfl, fun _ => rfl, fun _ => rfl, rfl, rfl⟩ rfl o.hb o.qnd o.q o.per
theorem step_ok {h h' : Hs} (o : h.Ok) {d : Dd} {ts : List Tl} (e : h.step d = .ok (ts, h')) : h'.Ok := by
  unfold step at e
  split at e
  · cases e
  · rename_i ts1 h1 e1
    cases e
    exact tones_ok _ _ ((act_ok o e1).noted d)
theorem hang_def {h : Hs} {l : PySem.Str} (w2 : (h.ln l).way ≠ .rests) (w3 : (h.ln l).way ≠ .rung) :
    h.hang l = (match (h.ln l).en with
    | none => .ok ([.rests l], (Hs.freed { h with queue := if (h.ln l).way = .waits then h.queue.erase l else h.queue } l).begin_ l .rests)
    | some o =>
      if (h.ln o).way = .rung then .ok ([.rests l, .quiet o], (((Hs.freed { h with queue := if (h.ln l).way = .waits then h.queue.erase l else h.queue } l).freed o).begin_ o .rests).begin_ l .rests)
      else .ok ([.rests l, .waits o], (((Hs.freed { h with queue := if (h.ln l).way = .waits then h.queue.erase l else h.queue } l).freed o).waitB o).begin_ l .rests)) := by
  unfold hang
  cases hw : (h.ln l).way <;> first | exact absurd hw w2 | exact absurd hw w3 | rfl
theorem len_sub : ∀ {xs ys : List PySem.Str}, xs.Nodup → (∀ x ∈ xs, x ∈ ys) → xs.length ≤ ys.length
  | [], ys, _, _ => Nat.zero_le _
  | x :: xs, ys, nd, h => by
    have nd := List.nodup_cons.mp nd
    have hx := h x List.mem_cons_self
    have ih := len_sub (ys := ys.erase x) nd.2 fun z hz => (List.mem_erase_of_ne (fun (e : z = x) => nd.1 (e ▸ hz))).mpr (h z (List.mem_cons_of_mem _ hz))
    rw [List.length_erase_of_mem hx] at ih
    have : 0 < ys.length := List.length_pos_of_mem hx
    rw [List.length_cons]
    omega
theorem Ok.qlen {h : Hs} (o : h.Ok) : h.queue.length ≤ 60 := Nat.le_trans (len_sub o.qnd fun x hx => ((o.q x).mp hx).1) o.sh.l60
/-- whom the other end is -/
theorem Ok.en {h : Hs} (o : h.Ok) {l p : PySem.Str} (hl : l ∈ h.lines) (e : (h.ln l).en = some p) : p ∈ h.lines ∧ p ≠ l ∧ (h.ln l).way ≠ .waits ∧ (h.ln p).way ≠ .waits := by
  have q := o.per l hl
  have b := q.back e
  have nz : ∀ x ∈ h.lines, x ≠ "" := fun x hx z => by
    have hf := (o.sh.lf _ hx).1
    have g2 := o.sh.g2
    rw [z, show ("" : PySem.Str).length = 0 by decide +kernel] at hf
    omega
  generalize er : h.ln l = r at q e
  cases q <;> cases e
  · rename_i _ h2 _
    exact ⟨b.1, (fun z => by rw [z, er] at h2; cases h2), nofun, by rw [h2]; exact nofun⟩
  · rename_i h1 h2 _
    exact ⟨b.1, (fun z => by rw [z, er] at h2; have := congrArg Ln.figs h2; exact nz _ h1 this), nofun, by rw [h2]; exact nofun⟩
  · rename_i h1 h2 h3 h4
    exact ⟨b.1, (fun z => by rw [z, er] at h4; exact nz _ hl h4.symm), nofun, by rw [h2]; exact nofun⟩
  · rename_i h1 h2 h3
    exact ⟨b.1, (fun z => by rw [z, er] at h2; cases h2), nofun, by rw [h2]; exact nofun⟩
end Hs
end L2.Zs
namespace L2.Zs
open PySem PySem.Spec PyProof.Rows
namespace Hs
/-- what a deed leaves as it is -/
structure Like (h h' : Hs) : Prop where
  long : h'.long = h.long
  lines : h'.lines = h.lines
  wheres : h'.wheres = h.wheres
  done : h'.done = h.done
theorem Like.refl (h : Hs) : Like h h := ⟨rfl, rfl, rfl, rfl⟩
theorem Like.trans {a b c : Hs} (x : Like a b) (y : Like b c) : Like a c := ⟨y.long.trans x.long, y.lines.trans x.lines, y.wheres.trans x.wheres, y.done.trans x.done⟩
theorem like_setLn {h : Hs} {l : PySem.Str} {r : Ln} : Like h (h.setLn l r) := ⟨rfl, rfl, rfl, rfl⟩
theorem like_setRk {h : Hs} {l : PySem.Str} {r : Rc} : Like h (h.setRk l r) := ⟨rfl, rfl, rfl, rfl⟩
theorem like_freed {h : Hs} {l : PySem.Str} : Like h (h.freed l) := by rw [freed_eq]; exact ⟨rfl, rfl, rfl, rfl⟩
theorem like_ended {h : Hs} {l : PySem.Str} {y : Wy} : Like h (h.ended l y) := by rw [ended_eq]; exact ⟨rfl, rfl, rfl, rfl⟩
theorem like_begin {h : Hs} {l : PySem.Str} {w : Way} : Like h (h.begin_ l w) := ⟨rfl, rfl, rfl, rfl⟩
theorem like_waitB {h : Hs} {l : PySem.Str} : Like h (h.waitB l) := ⟨rfl, rfl, rfl, rfl⟩
theorem like_queue {h : Hs} {q : List PySem.Str} : Like h { h with queue := q } := ⟨rfl, rfl, rfl, rfl⟩
theorem lift_like {h h' : Hs} {l : PySem.Str} {ts : List Tl} (e : h.lift l = .ok (ts, h')) : Like h h' ∧ ts.length ≤ 2 := by
  unfold lift at e
  split at e <;> cases e
  · exact ⟨like_waitB, by simp⟩
  · exact ⟨like_setLn.trans like_setLn, by simp⟩
theorem hang_like {h h' : Hs} {l : PySem.Str} {ts : List Tl} (e : h.hang l = .ok (ts, h')) : Like h h' ∧ ts.length ≤ 2 := by
  by_cases w2 : (h.ln l).way = .rests
  · unfold hang at e; rw [w2] at e; cases e
  · by_cases w3 : (h.ln l).way = .rung
    · unfold hang at e; rw [w3] at e; cases e
    · rw [hang_def w2 w3] at e
      cases hen : (h.ln l).en with
      | none =>
        rw [hen] at e
        cases e
        exact ⟨(like_queue.trans like_freed).trans like_begin, by simp⟩
      | some o =>
        rw [hen] at e
        dsimp only at e
        split at e <;> cases e
        · exact ⟨(((like_queue.trans like_freed).trans like_freed).trans like_begin).trans like_begin, by simp⟩
        · exact ⟨(((like_queue.trans like_freed).trans like_freed).trans like_waitB).trans like_begin, by simp⟩
theorem pulse_like {h h' : Hs} {l : PySem.Str} {ts : List Tl} (e : h.pulse l = .ok (ts, h')) : Like h h' ∧ ts.length ≤ 2 := by
  unfold pulse at e
  split at e
  · dsimp only at e
    split at e <;> cases e
    · exact ⟨like_setLn, by simp⟩
    · exact ⟨like_setLn.trans like_ended, by simp⟩
  · cases e
theorem ledTo_like {h : Hs} {l f : PySem.Str} : Like h (h.ledTo l f).2 := by
  unfold ledTo
  split
  · exact like_ended
  · split
    · exact like_ended
    · exact like_setLn.trans like_setLn
theorem ledBy_like {h : Hs} {l f : PySem.Str} : Like h (h.ledBy l f).2 := by
  unfold ledBy
  split
  · exact like_ended
  · split
    · exact like_ended
    · exact like_setRk.trans like_setLn
theorem gap_like {h h' : Hs} {l : PySem.Str} {ts : List Tl} (e : h.gap l = .ok (ts, h')) : Like h h' ∧ ts.length ≤ 2 := by
  unfold gap at e
  split at e
  · split at e
    · cases e
    · dsimp only at e
      split at e
      · cases e; exact ⟨like_setLn.trans ledTo_like, by simp⟩
      · split at e
        · cases e; exact ⟨like_setLn, by simp⟩
        · cases e; exact ⟨like_setLn.trans ledBy_like, by simp⟩
  · cases e
theorem act_like {h h' : Hs} {d : Dd} {ts : List Tl} (e : h.act d = .ok (ts, h')) : Like h h' ∧ ts.length ≤ 2 := by
  cases d with
  | ln w l =>
    change h.atLine w l = _ at e
    unfold atLine at e
    split at e
    · cases e
    · cases w with
      | lift => exact lift_like e
      | hang => exact hang_like e
      | pulse => exact pulse_like e
      | gap => exact gap_like e
  | sw b w k =>
    change (if w ∈ h.wheres ∧ 0 ≤ k ∧ k < ((h.rk w).held.length : Int) then _ else _) = _ at e
    split at e
    · cases e; exact ⟨like_setRk, by simp⟩
    · cases e
theorem tones_len : ∀ (m : Nat) (h : Hs), (tones m h).1.length ≤ m
  | 0, h => Nat.le_refl _
  | m + 1, h => by
    show (match h.queue with | [] => ([], h) | l :: _ => match h.first with | none => ([], h) | some k => (Tl.tone l k (h.went l k) :: (tones m (h.tone1 l k)).1, (tones m (h.tone1 l k)).2)).1.length ≤ m + 1
    cases h.queue with
    | nil => exact Nat.zero_le _
    | cons l qs =>
      cases h.first with
      | none => exact Nat.zero_le _
      | some k =>
        have := tones_len m (h.tone1 l k)
        show (tones m (h.tone1 l k)).1.length + 1 ≤ m + 1
        omega
end Hs
end L2.Zs
namespace L2.Zs
open PySem PySem.Spec PyProof.Rows
/-! # fields, found by their shape -/
structure FT (K : PySem.W.Frag) (C : Addr) (ns : List PySem.Str) : Prop where
  cls : Cls K C
  na : ∀ f ∈ ns, NoAttr K C f
class Lk (fs : List (PySem.Str × V)) (f : PySem.Str) (v : outParam V) : Prop where
  lk : fs.lookup f = some v
class Pf (fs : List (PySem.Str × V)) (f : PySem.Str) (v : V) (fs' : outParam (List (PySem.Str × V))) : Prop where
  pf : putF f v fs = fs'
  n : fs.length < 1000
class Nms (fs : List (PySem.Str × V)) (ns : outParam (List PySem.Str)) : Prop where
  e : fs.map (·.1) = ns
theorem lookup_no : ∀ {fs : List (PySem.Str × V)} {m : PySem.Str}, m ∉ fs.map (·.1) → fs.lookup m = none
  | [], _, _ => rfl
  | (g, v) :: fs, m, h => by
    rw [List.map_cons, List.mem_cons, not_or] at h
    exact lk_tl (by simpa using h.1) (lookup_no h.2)
class Vk (kvs : List (Key × V)) (z : PySem.Str) (v : outParam V) : Prop where
  vk : valV kvs (.inr z) = some v
class Pk (kvs : List (Key × V)) (z : PySem.Str) (v : V) (kvs' : outParam (List (Key × V))) : Prop where
  pk : putK kvs (.inr z) v = kvs'
  n : kvs.length < sizeLine
class AtI (xs : List V) (i : Int) (v : outParam V) : Prop where
  at_ : atI xs i = some v
instance {x : V} {xs : List V} : AtI (x :: xs) 0 x := ⟨atI_of (by decide) rfl⟩
instance {x y : V} {xs : List V} : AtI (x :: y :: xs) 1 y := ⟨atI_of (by decide) rfl⟩
instance {x y z : V} {xs : List V} : AtI (x :: y :: z :: xs) 2 z := ⟨atI_of (by decide) rfl⟩
instance {x y z u : V} {xs : List V} : AtI (x :: y :: z :: u :: xs) 3 u := ⟨atI_of (by decide) rfl⟩
section
variable {K : PySem.W.Frag} {H : Hp} {Q : VK} {v x y : V} {a C dx : Addr} {cs ds cs' : List As} {ns : List PySem.Str} {fs fs' : List (PySem.Str × V)} {f m : PySem.Str} {R : Hp → Prop}
theorem s_fldA (S : Sep cs H) (p : Pick (pt a (.ins C dx fs)) cs ds) (T : FT K C ns) (h : f ∈ ns) (l : Lk fs f v) (k : Q v H) : FldGet K f (.ref a) Q H := s_fldR S p T.cls (T.na f h) l.lk k
theorem s_sfldA (S : Sep cs H) (p : Pick (pt a (.ins C dx fs)) cs ds) (T : FT K C ns) (h : f ∈ ns) (l : Pf fs f v fs') (g : Chg (pt a (.ins C dx fs)) (pt a (.ins C dx fs')) cs cs') (k : ∀ H', Sep cs' H' → R H') : FldSet K f (.ref a) v R H :=
  s_sfldR S (l.pf ▸ g) T.cls (T.na f h) l.n k
theorem s_mtA {Cs : List Addr} {R : Addr → Hp → Prop} (S : Sep cs H) (p : Pick (pt a (.ins C dx fs)) cs ds) (hC : C ∈ Cs) (l : Nms fs ns) (h : m ∉ ns) (k : R C H) : MtGo Cs m (.ref a) R H := s_mtR S p hC (lookup_no (l.e ▸ h)) k
theorem s_dgetA {kvs : List (Key × V)} {z : PySem.Str} (S : Sep cs H) (p : Pick (pt a (.dK kvs)) cs ds) (l : Vk kvs z v) (k : Q v H) : DG (.ref a) (.str z) Q H := s_dget S p l.vk k
theorem s_dgetM {ks : List PySem.Str} {f : PySem.Str → V} {z : PySem.Str} (S : Sep cs H) (p : Pick (pt a (.dK (dm ks f))) cs ds) (h : z ∈ ks) (k : Q (f z) H) : DG (.ref a) (.str z) Q H := s_dget S p (valV_in h) k
theorem s_dputA {kvs kvs' : List (Key × V)} {z : PySem.Str} (S : Sep cs H) (p : Pick (pt a (.dK kvs)) cs ds) (l : Pk kvs z v kvs') (g : Chg (pt a (.dK kvs)) (pt a (.dK kvs')) cs cs') (k : ∀ H', Sep cs' H' → R H') : DP (.ref a) (.str z) v R H := s_dput S g l.pk l.n k
theorem s_dputM {ks : List PySem.Str} {f : PySem.Str → V} {z : PySem.Str} (S : Sep cs H) (g : Chg (pt a (.dK (dm ks f))) (pt a (.dK (dm ks fun x => if x = z then v else f x))) cs cs') (h : z ∈ ks) (n : ks.length ≤ 100000) (k : ∀ H', Sep cs' H' → R H') : DP (.ref a) (.str z) v R H :=
  s_dput S g (putK_old h) (by rw [dm_len]; exact Nat.lt_of_le_of_lt n (by decide)) k
theorem s_dputN {ks : List PySem.Str} {f : PySem.Str → V} {z : PySem.Str} (S : Sep cs H) (g : Chg (pt a (.dK (dm ks f))) (pt a (.dK (dm (ks ++ [z]) fun x => if x = z then v else f x))) cs cs') (h : z ∉ ks) (n : ks.length ≤ 100000) (k : ∀ H', Sep cs' H' → R H') : DP (.ref a) (.str z) v R H :=
  s_dput S g (putK_add h) (by rw [dm_len]; exact Nat.lt_of_le_of_lt n (by decide)) k
theorem s_ixTA {xs : List V} {i : Int} (S : Sep cs H) (p1 : Pick (pt a (.tup xs)) cs ds) (l : AtI xs i v) (k : Q v H) : rIx K (.ref a) (.int i) H Q := s_ixT S p1 l.at_ k
theorem s_ixLA {xs : List V} {i : Int} (S : Sep cs H) (p1 : Pick (pt a (.lst xs)) cs ds) (l : AtI xs i v) (k : Q v H) : rIx K (.ref a) (.int i) H Q := s_ixL S p1 l.at_ k
end
instance {z : PySem.Str} {A B : Prop} : Stp (if decide (V.str z = V.non) = true then A else B) B := ⟨fun h => by rw [decide_eq_false (fun z => nomatch z)]; exact s_f h⟩
instance {z : PySem.Str} {A B : Prop} : Stp (if (!decide (V.str z = V.non)) = true then A else B) A := ⟨fun h => by rw [decide_eq_false (fun z => nomatch z)]; exact s_t h⟩
instance {i : Int} {A B : Prop} : Stp (if (!decide (V.int i = V.non)) = true then A else B) A := ⟨fun h => by rw [decide_eq_false (fun z => nomatch z)]; exact s_t h⟩
/-! # dict in -/
def DI (x y : V) (n : Bool) (Q : VK) (H : Hp) : Prop := ∃ a o, x = .ref a ∧ DGet H a y o ∧ Q (.bl (if n = true then !o.isSome else o.isSome)) H
section
variable {K : PySem.W.Frag} {σ : St} {H : Hp} {Q : VK} {QT : Bool → Hp → Prop} {v x y : V} {a : Addr} {cs ds : List As} {ta td ty tx : TE}
instance : Stp (tDIn ty td σ H Q) (ty σ H fun y H1 => td σ H1 fun x H2 => DI x y false Q H2) := ⟨id⟩
instance : Stp (tDNotIn ty td σ H Q) (ty σ H fun y H1 => td σ H1 fun x H2 => DI x y true Q H2) := ⟨id⟩
theorem s_din {kvs : List (Key × V)} {z : PySem.Str} (S : Sep cs H) (p : Pick (pt a (.dK kvs)) cs ds) (k : Q (.bl (valV kvs (.inr z)).isSome) H) : DI (.ref a) (.str z) false Q H := ⟨a, _, rfl, DGet.k (k := .inr z) (S.get p), k⟩
theorem s_dni {kvs : List (Key × V)} {z : PySem.Str} (S : Sep cs H) (p : Pick (pt a (.dK kvs)) cs ds) (k : Q (.bl (!(valV kvs (.inr z)).isSome)) H) : DI (.ref a) (.str z) true Q H := ⟨a, _, rfl, DGet.k (k := .inr z) (S.get p), k⟩
theorem s_dinM {ks : List PySem.Str} {f : PySem.Str → V} {z : PySem.Str} (S : Sep cs H) (p : Pick (pt a (.dK (dm ks f))) cs ds) (k : Q (.bl (decide (z ∈ ks))) H) : DI (.ref a) (.str z) false Q H := by
  refine s_din S p ?_
  rw [valV_dm]
  by_cases h : z ∈ ks
  · rw [if_pos h]; rw [decide_eq_true h] at k; exact k
  · rw [if_neg h]; rw [decide_eq_false h] at k; exact k
theorem s_dniM {ks : List PySem.Str} {f : PySem.Str → V} {z : PySem.Str} (S : Sep cs H) (p : Pick (pt a (.dK (dm ks f))) cs ds) (k : Q (.bl (!decide (z ∈ ks))) H) : DI (.ref a) (.str z) true Q H := by
  refine s_dni S p ?_
  rw [valV_dm]
  by_cases h : z ∈ ks
  · rw [if_pos h]; rw [decide_eq_true h] at k; exact k
  · rw [if_neg h]; rw [decide_eq_false h] at k; exact k
end
/-! # the hall's objects -/
structure Ad where
  HallError : Addr
  NoFigure : Addr
  BadPlan : Addr
  NoText : Addr
  NoSwitch : Addr
  NoLine : Addr
  NotSo : Addr
  NoRow : Addr
  Rack : Addr
  Seekers : Addr
  Group : Addr
  Call : Addr
  Hall : Addr
  Plan : Addr
  LIFTED : Addr
  k1 : Tok
  k2 : Tok
  k3 : Tok
  k4 : Tok
  k5 : Tok
theorem vk_at : ∀ {ks : List Key} {vs : List V} {i : Nat} {k : Key} {v : V}, ks.Nodup → ks[i]? = some k → vs[i]? = some v → valV (ks.zip vs) k = some v
  | [], _, _, _, _, _, h, _ => by simp at h
  | _ :: _, [], _, _, _, _, _, h => by simp at h
  | k :: ks, v :: vs, 0, _, _, _, h1, h2 => by cases h1; cases h2; exact valV_pos rfl
  | k :: ks, v :: vs, i + 1, k', _, nd, h1, h2 => by
    have nd' := List.nodup_cons.mp nd
    have hk : k' ∈ ks := List.mem_of_getElem? h1
    show valV ((k, v) :: ks.zip vs) k' = _
    rw [valV_neg (show ¬ k = k' from fun e => nd'.1 (e ▸ hk))]
    exact vk_at (i := i) nd'.2 h1 h2
theorem zip_put : ∀ {ks : List Key} {vs : List V} {i : Nat} {k : Key} {v : V}, ks.Nodup → ks[i]? = some k → (ks.zip vs).map (fun kv => if kv.1 = k then (kv.1, v) else kv) = ks.zip (vs.set i v)
  | [], _, _, _, _, _, h => by simp at h
  | _ :: _, [], _, _, _, _, _ => by simp
  | k :: ks, w :: vs, 0, _, v, nd, h1 => by
    cases h1
    have nd' := List.nodup_cons.mp nd
    show (if k = k then (k, v) else (k, w)) :: (ks.zip vs).map _ = (k, v) :: ks.zip vs
    rw [if_pos rfl]
    congr 1
    refine (List.map_congr_left fun kv h => ?_).trans (List.map_id _)
    have : kv.1 ∈ ks := (List.of_mem_zip (a := kv.1) (b := kv.2) h).1
    have hne : ¬ kv.1 = k := fun e => nd'.1 (e ▸ this)
    simp [hne]
  | k :: ks, w :: vs, i + 1, k', v, nd, h1 => by
    have nd' := List.nodup_cons.mp nd
    have hk : k' ∈ ks := List.mem_of_getElem? h1
    show (if k = k' then (k, v) else (k, w)) :: (ks.zip vs).map _ = (k, w) :: ks.zip (vs.set i v)
    rw [if_neg (show ¬ k = k' from fun e => nd'.1 (e ▸ hk)), zip_put nd'.2 h1]
theorem pk_at {ks : List Key} {vs : List V} {i : Nat} {k : Key} {v : V} (nd : ks.Nodup) (h1 : ks[i]? = some k) (h2 : vs.length = ks.length) : putK (ks.zip vs) k v = ks.zip (vs.set i v) := by
  unfold putK
  rw [if_pos, zip_put nd h1]
  have hi : i < ks.length := by
    rcases Nat.lt_or_ge i ks.length with h | h
    · exact h
    · rw [List.getElem?_eq_none h] at h1; cases h1
  have hz : (k, vs[i]'(by omega)) ∈ ks.zip vs := by
    have e : (ks.zip vs)[i]? = some (k, vs[i]'(by omega)) := by
      rw [List.getElem?_zip_eq_some]
      exact ⟨h1, List.getElem?_eq_getElem _⟩
    exact List.mem_of_getElem? e
  exact List.any_eq_true.mpr ⟨_, hz, decide_eq_true rfl⟩
def callF (w : PySem.Str) (f : PySem.Str) (m : Int) (t : Addr) (e : V) (y : V) : List (PySem.Str × V) := [("doing", .str w), ("dialled", .str f), ("many", .int m), ("train", .ref t), ("end", e), ("why", y)]
section
variable {w : PySem.Str} {f : PySem.Str} {m : Int} {t : Addr} {e : V} {y : V}
def callFN : List PySem.Str := ["doing", "dialled", "many", "train", "end", "why"]
instance : Nms (callF w f m t e y) callFN := ⟨rfl⟩
instance : Lk (callF w f m t e y) "doing" (.str w) := ⟨lk_hd⟩
instance {w' : PySem.Str} : Pf (callF w f m t e y) "doing" (.str w') (callF w' f m t e y) := ⟨pf_hd, by show 6 < 1000; decide⟩
instance : Lk (callF w f m t e y) "dialled" (.str f) := ⟨lk_tl (by decide +kernel) (lk_hd)⟩
instance {f' : PySem.Str} : Pf (callF w f m t e y) "dialled" (.str f') (callF w f' m t e y) := ⟨pf_tl (by decide +kernel) (pf_hd), by show 6 < 1000; decide⟩
instance : Lk (callF w f m t e y) "many" (.int m) := ⟨lk_tl (by decide +kernel) (lk_tl (by decide +kernel) (lk_hd))⟩
instance {m' : Int} : Pf (callF w f m t e y) "many" (.int m') (callF w f m' t e y) := ⟨pf_tl (by decide +kernel) (pf_tl (by decide +kernel) (pf_hd)), by show 6 < 1000; decide⟩
instance : Lk (callF w f m t e y) "train" (.ref t) := ⟨lk_tl (by decide +kernel) (lk_tl (by decide +kernel) (lk_tl (by decide +kernel) (lk_hd)))⟩
instance {t' : Addr} : Pf (callF w f m t e y) "train" (.ref t') (callF w f m t' e y) := ⟨pf_tl (by decide +kernel) (pf_tl (by decide +kernel) (pf_tl (by decide +kernel) (pf_hd))), by show 6 < 1000; decide⟩
instance : Lk (callF w f m t e y) "end" (e) := ⟨lk_tl (by decide +kernel) (lk_tl (by decide +kernel) (lk_tl (by decide +kernel) (lk_tl (by decide +kernel) (lk_hd))))⟩
instance {e' : V} : Pf (callF w f m t e y) "end" (e') (callF w f m t e' y) := ⟨pf_tl (by decide +kernel) (pf_tl (by decide +kernel) (pf_tl (by decide +kernel) (pf_tl (by decide +kernel) (pf_hd)))), by show 6 < 1000; decide⟩
instance : Lk (callF w f m t e y) "why" (y) := ⟨lk_tl (by decide +kernel) (lk_tl (by decide +kernel) (lk_tl (by decide +kernel) (lk_tl (by decide +kernel) (lk_tl (by decide +kernel) (lk_hd)))))⟩
instance {y' : V} : Pf (callF w f m t e y) "why" (y') (callF w f m t e y') := ⟨pf_tl (by decide +kernel) (pf_tl (by decide +kernel) (pf_tl (by decide +kernel) (pf_tl (by decide +kernel) (pf_tl (by decide +kernel) (pf_hd))))), by show 6 < 1000; decide⟩
end
def hallF (p : Addr) (c : Addr) (r : Addr) (q : Addr) (d : Addr) : List (PySem.Str × V) := [("plan", .ref p), ("calls", .ref c), ("racks", .ref r), ("queue", .ref q), ("all_done", .ref d)]
section
variable {p : Addr} {c : Addr} {r : Addr} {q : Addr} {d : Addr}
def hallFN : List PySem.Str := ["plan", "calls", "racks", "queue", "all_done"]
instance : Nms (hallF p c r q d) hallFN := ⟨rfl⟩
instance : Lk (hallF p c r q d) "plan" (.ref p) := ⟨lk_hd⟩
instance {p' : Addr} : Pf (hallF p c r q d) "plan" (.ref p') (hallF p' c r q d) := ⟨pf_hd, by show 5 < 1000; decide⟩
instance : Lk (hallF p c r q d) "calls" (.ref c) := ⟨lk_tl (by decide +kernel) (lk_hd)⟩
instance {c' : Addr} : Pf (hallF p c r q d) "calls" (.ref c') (hallF p c' r q d) := ⟨pf_tl (by decide +kernel) (pf_hd), by show 5 < 1000; decide⟩
instance : Lk (hallF p c r q d) "racks" (.ref r) := ⟨lk_tl (by decide +kernel) (lk_tl (by decide +kernel) (lk_hd))⟩
instance {r' : Addr} : Pf (hallF p c r q d) "racks" (.ref r') (hallF p c r' q d) := ⟨pf_tl (by decide +kernel) (pf_tl (by decide +kernel) (pf_hd)), by show 5 < 1000; decide⟩
instance : Lk (hallF p c r q d) "queue" (.ref q) := ⟨lk_tl (by decide +kernel) (lk_tl (by decide +kernel) (lk_tl (by decide +kernel) (lk_hd)))⟩
instance {q' : Addr} : Pf (hallF p c r q d) "queue" (.ref q') (hallF p c r q' d) := ⟨pf_tl (by decide +kernel) (pf_tl (by decide +kernel) (pf_tl (by decide +kernel) (pf_hd))), by show 5 < 1000; decide⟩
instance : Lk (hallF p c r q d) "all_done" (.ref d) := ⟨lk_tl (by decide +kernel) (lk_tl (by decide +kernel) (lk_tl (by decide +kernel) (lk_tl (by decide +kernel) (lk_hd))))⟩
instance {d' : Addr} : Pf (hallF p c r q d) "all_done" (.ref d') (hallF p c r q d') := ⟨pf_tl (by decide +kernel) (pf_tl (by decide +kernel) (pf_tl (by decide +kernel) (pf_tl (by decide +kernel) (pf_hd)))), by show 5 < 1000; decide⟩
end
def planF (n : Int) (l : Addr) (s : Int) (g : Addr) : List (PySem.Str × V) := [("long", .int n), ("lines", .ref l), ("seekers", .int s), ("groups", .ref g)]
section
variable {n : Int} {l : Addr} {s : Int} {g : Addr}
def planFN : List PySem.Str := ["long", "lines", "seekers", "groups"]
instance : Nms (planF n l s g) planFN := ⟨rfl⟩
instance : Lk (planF n l s g) "long" (.int n) := ⟨lk_hd⟩
instance {n' : Int} : Pf (planF n l s g) "long" (.int n') (planF n' l s g) := ⟨pf_hd, by show 4 < 1000; decide⟩
instance : Lk (planF n l s g) "lines" (.ref l) := ⟨lk_tl (by decide +kernel) (lk_hd)⟩
instance {l' : Addr} : Pf (planF n l s g) "lines" (.ref l') (planF n l' s g) := ⟨pf_tl (by decide +kernel) (pf_hd), by show 4 < 1000; decide⟩
instance : Lk (planF n l s g) "seekers" (.int s) := ⟨lk_tl (by decide +kernel) (lk_tl (by decide +kernel) (lk_hd))⟩
instance {s' : Int} : Pf (planF n l s g) "seekers" (.int s') (planF n l s' g) := ⟨pf_tl (by decide +kernel) (pf_tl (by decide +kernel) (pf_hd)), by show 4 < 1000; decide⟩
instance : Lk (planF n l s g) "groups" (.ref g) := ⟨lk_tl (by decide +kernel) (lk_tl (by decide +kernel) (lk_tl (by decide +kernel) (lk_hd)))⟩
instance {g' : Addr} : Pf (planF n l s g) "groups" (.ref g') (planF n l s g') := ⟨pf_tl (by decide +kernel) (pf_tl (by decide +kernel) (pf_tl (by decide +kernel) (pf_hd))), by show 4 < 1000; decide⟩
end
def worF (n : Int) (l : Addr) (q : Addr) (m : Int) (d : Addr) (w1 : Addr) (w2 : Addr) (w3 : Addr) (w4 : Addr) (w5 : Addr) (w6 : Addr) (w7 : Addr) (w8 : Addr) (w9 : Addr) (s1 : Addr) (s2 : Addr) : List (Key × V) := [(.inr "long", .int n), (.inr "lines", .ref l), (.inr "queue", .ref q), (.inr "mark", .int m), (.inr "done", .ref d), (.inr "way", .ref w1), (.inr "figures", .ref w2), (.inr "many", .ref w3), (.inr "train", .ref w4), (.inr "end", .ref w5), (.inr "why", .ref w6), (.inr "held", .ref w7), (.inr "stuck", .ref w8), (.inr "shares", .ref w9), (.inr "spots", .ref s1), (.inr "steps", .ref s2)]
section
variable {n : Int} {l : Addr} {q : Addr} {m : Int} {d : Addr} {w1 : Addr} {w2 : Addr} {w3 : Addr} {w4 : Addr} {w5 : Addr} {w6 : Addr} {w7 : Addr} {w8 : Addr} {w9 : Addr} {s1 : Addr} {s2 : Addr}
def worFK : List Key := [.inr "long", .inr "lines", .inr "queue", .inr "mark", .inr "done", .inr "way", .inr "figures", .inr "many", .inr "train", .inr "end", .inr "why", .inr "held", .inr "stuck", .inr "shares", .inr "spots", .inr "steps"]
theorem worFK_nd : worFK.Nodup := by decide +kernel
instance : Vk (worF n l q m d w1 w2 w3 w4 w5 w6 w7 w8 w9 s1 s2) "long" (.int n) := ⟨vk_at (ks := worFK) (vs := [.int n, .ref l, .ref q, .int m, .ref d, .ref w1, .ref w2, .ref w3, .ref w4, .ref w5, .ref w6, .ref w7, .ref w8, .ref w9, .ref s1, .ref s2]) (i := 0) worFK_nd rfl rfl⟩
instance {n' : Int} : Pk (worF n l q m d w1 w2 w3 w4 w5 w6 w7 w8 w9 s1 s2) "long" (.int n') (worF n' l q m d w1 w2 w3 w4 w5 w6 w7 w8 w9 s1 s2) := ⟨pk_at (ks := worFK) (vs := [.int n, .ref l, .ref q, .int m, .ref d, .ref w1, .ref w2, .ref w3, .ref w4, .ref w5, .ref w6, .ref w7, .ref w8, .ref w9, .ref s1, .ref s2]) (i := 0) worFK_nd rfl rfl, by show 16 < sizeLine; decide⟩
instance : Vk (worF n l q m d w1 w2 w3 w4 w5 w6 w7 w8 w9 s1 s2) "lines" (.ref l) := ⟨vk_at (ks := worFK) (vs := [.int n, .ref l, .ref q, .int m, .ref d, .ref w1, .ref w2, .ref w3, .ref w4, .ref w5, .ref w6, .ref w7, .ref w8, .ref w9, .ref s1, .ref s2]) (i := 1) worFK_nd rfl rfl⟩
instance {l' : Addr} : Pk (worF n l q m d w1 w2 w3 w4 w5 w6 w7 w8 w9 s1 s2) "lines" (.ref l') (worF n l' q m d w1 w2 w3 w4 w5 w6 w7 w8 w9 s1 s2) := ⟨pk_at (ks := worFK) (vs := [.int n, .ref l, .ref q, .int m, .ref d, .ref w1, .ref w2, .ref w3, .ref w4, .ref w5, .ref w6, .ref w7, .ref w8, .ref w9, .ref s1, .ref s2]) (i := 1) worFK_nd rfl rfl, by show 16 < sizeLine; decide⟩
instance : Vk (worF n l q m d w1 w2 w3 w4 w5 w6 w7 w8 w9 s1 s2) "queue" (.ref q) := ⟨vk_at (ks := worFK) (vs := [.int n, .ref l, .ref q, .int m, .ref d, .ref w1, .ref w2, .ref w3, .ref w4, .ref w5, .ref w6, .ref w7, .ref w8, .ref w9, .ref s1, .ref s2]) (i := 2) worFK_nd rfl rfl⟩
instance {q' : Addr} : Pk (worF n l q m d w1 w2 w3 w4 w5 w6 w7 w8 w9 s1 s2) "queue" (.ref q') (worF n l q' m d w1 w2 w3 w4 w5 w6 w7 w8 w9 s1 s2) := ⟨pk_at (ks := worFK) (vs := [.int n, .ref l, .ref q, .int m, .ref d, .ref w1, .ref w2, .ref w3, .ref w4, .ref w5, .ref w6, .ref w7, .ref w8, .ref w9, .ref s1, .ref s2]) (i := 2) worFK_nd rfl rfl, by show 16 < sizeLine; decide⟩
instance : Vk (worF n l q m d w1 w2 w3 w4 w5 w6 w7 w8 w9 s1 s2) "mark" (.int m) := ⟨vk_at (ks := worFK) (vs := [.int n, .ref l, .ref q, .int m, .ref d, .ref w1, .ref w2, .ref w3, .ref w4, .ref w5, .ref w6, .ref w7, .ref w8, .ref w9, .ref s1, .ref s2]) (i := 3) worFK_nd rfl rfl⟩
instance {m' : Int} : Pk (worF n l q m d w1 w2 w3 w4 w5 w6 w7 w8 w9 s1 s2) "mark" (.int m') (worF n l q m' d w1 w2 w3 w4 w5 w6 w7 w8 w9 s1 s2) := ⟨pk_at (ks := worFK) (vs := [.int n, .ref l, .ref q, .int m, .ref d, .ref w1, .ref w2, .ref w3, .ref w4, .ref w5, .ref w6, .ref w7, .ref w8, .ref w9, .ref s1, .ref s2]) (i := 3) worFK_nd rfl rfl, by show 16 < sizeLine; decide⟩
instance : Vk (worF n l q m d w1 w2 w3 w4 w5 w6 w7 w8 w9 s1 s2) "done" (.ref d) := ⟨vk_at (ks := worFK) (vs := [.int n, .ref l, .ref q, .int m, .ref d, .ref w1, .ref w2, .ref w3, .ref w4, .ref w5, .ref w6, .ref w7, .ref w8, .ref w9, .ref s1, .ref s2]) (i := 4) worFK_nd rfl rfl⟩
instance {d' : Addr} : Pk (worF n l q m d w1 w2 w3 w4 w5 w6 w7 w8 w9 s1 s2) "done" (.ref d') (worF n l q m d' w1 w2 w3 w4 w5 w6 w7 w8 w9 s1 s2) := ⟨pk_at (ks := worFK) (vs := [.int n, .ref l, .ref q, .int m, .ref d, .ref w1, .ref w2, .ref w3, .ref w4, .ref w5, .ref w6, .ref w7, .ref w8, .ref w9, .ref s1, .ref s2]) (i := 4) worFK_nd rfl rfl, by show 16 < sizeLine; decide⟩
instance : Vk (worF n l q m d w1 w2 w3 w4 w5 w6 w7 w8 w9 s1 s2) "way" (.ref w1) := ⟨vk_at (ks := worFK) (vs := [.int n, .ref l, .ref q, .int m, .ref d, .ref w1, .ref w2, .ref w3, .ref w4, .ref w5, .ref w6, .ref w7, .ref w8, .ref w9, .ref s1, .ref s2]) (i := 5) worFK_nd rfl rfl⟩
instance {w1' : Addr} : Pk (worF n l q m d w1 w2 w3 w4 w5 w6 w7 w8 w9 s1 s2) "way" (.ref w1') (worF n l q m d w1' w2 w3 w4 w5 w6 w7 w8 w9 s1 s2) := ⟨pk_at (ks := worFK) (vs := [.int n, .ref l, .ref q, .int m, .ref d, .ref w1, .ref w2, .ref w3, .ref w4, .ref w5, .ref w6, .ref w7, .ref w8, .ref w9, .ref s1, .ref s2]) (i := 5) worFK_nd rfl rfl, by show 16 < sizeLine; decide⟩
instance : Vk (worF n l q m d w1 w2 w3 w4 w5 w6 w7 w8 w9 s1 s2) "figures" (.ref w2) := ⟨vk_at (ks := worFK) (vs := [.int n, .ref l, .ref q, .int m, .ref d, .ref w1, .ref w2, .ref w3, .ref w4, .ref w5, .ref w6, .ref w7, .ref w8, .ref w9, .ref s1, .ref s2]) (i := 6) worFK_nd rfl rfl⟩
instance {w2' : Addr} : Pk (worF n l q m d w1 w2 w3 w4 w5 w6 w7 w8 w9 s1 s2) "figures" (.ref w2') (worF n l q m d w1 w2' w3 w4 w5 w6 w7 w8 w9 s1 s2) := ⟨pk_at (ks := worFK) (vs := [.int n, .ref l, .ref q, .int m, .ref d, .ref w1, .ref w2, .ref w3, .ref w4, .ref w5, .ref w6, .ref w7, .ref w8, .ref w9, .ref s1, .ref s2]) (i := 6) worFK_nd rfl rfl, by show 16 < sizeLine; decide⟩
instance : Vk (worF n l q m d w1 w2 w3 w4 w5 w6 w7 w8 w9 s1 s2) "many" (.ref w3) := ⟨vk_at (ks := worFK) (vs := [.int n, .ref l, .ref q, .int m, .ref d, .ref w1, .ref w2, .ref w3, .ref w4, .ref w5, .ref w6, .ref w7, .ref w8, .ref w9, .ref s1, .ref s2]) (i := 7) worFK_nd rfl rfl⟩
instance {w3' : Addr} : Pk (worF n l q m d w1 w2 w3 w4 w5 w6 w7 w8 w9 s1 s2) "many" (.ref w3') (worF n l q m d w1 w2 w3' w4 w5 w6 w7 w8 w9 s1 s2) := ⟨pk_at (ks := worFK) (vs := [.int n, .ref l, .ref q, .int m, .ref d, .ref w1, .ref w2, .ref w3, .ref w4, .ref w5, .ref w6, .ref w7, .ref w8, .ref w9, .ref s1, .ref s2]) (i := 7) worFK_nd rfl rfl, by show 16 < sizeLine; decide⟩
instance : Vk (worF n l q m d w1 w2 w3 w4 w5 w6 w7 w8 w9 s1 s2) "train" (.ref w4) := ⟨vk_at (ks := worFK) (vs := [.int n, .ref l, .ref q, .int m, .ref d, .ref w1, .ref w2, .ref w3, .ref w4, .ref w5, .ref w6, .ref w7, .ref w8, .ref w9, .ref s1, .ref s2]) (i := 8) worFK_nd rfl rfl⟩
instance {w4' : Addr} : Pk (worF n l q m d w1 w2 w3 w4 w5 w6 w7 w8 w9 s1 s2) "train" (.ref w4') (worF n l q m d w1 w2 w3 w4' w5 w6 w7 w8 w9 s1 s2) := ⟨pk_at (ks := worFK) (vs := [.int n, .ref l, .ref q, .int m, .ref d, .ref w1, .ref w2, .ref w3, .ref w4, .ref w5, .ref w6, .ref w7, .ref w8, .ref w9, .ref s1, .ref s2]) (i := 8) worFK_nd rfl rfl, by show 16 < sizeLine; decide⟩
instance : Vk (worF n l q m d w1 w2 w3 w4 w5 w6 w7 w8 w9 s1 s2) "end" (.ref w5) := ⟨vk_at (ks := worFK) (vs := [.int n, .ref l, .ref q, .int m, .ref d, .ref w1, .ref w2, .ref w3, .ref w4, .ref w5, .ref w6, .ref w7, .ref w8, .ref w9, .ref s1, .ref s2]) (i := 9) worFK_nd rfl rfl⟩
instance {w5' : Addr} : Pk (worF n l q m d w1 w2 w3 w4 w5 w6 w7 w8 w9 s1 s2) "end" (.ref w5') (worF n l q m d w1 w2 w3 w4 w5' w6 w7 w8 w9 s1 s2) := ⟨pk_at (ks := worFK) (vs := [.int n, .ref l, .ref q, .int m, .ref d, .ref w1, .ref w2, .ref w3, .ref w4, .ref w5, .ref w6, .ref w7, .ref w8, .ref w9, .ref s1, .ref s2]) (i := 9) worFK_nd rfl rfl, by show 16 < sizeLine; decide⟩
instance : Vk (worF n l q m d w1 w2 w3 w4 w5 w6 w7 w8 w9 s1 s2) "why" (.ref w6) := ⟨vk_at (ks := worFK) (vs := [.int n, .ref l, .ref q, .int m, .ref d, .ref w1, .ref w2, .ref w3, .ref w4, .ref w5, .ref w6, .ref w7, .ref w8, .ref w9, .ref s1, .ref s2]) (i := 10) worFK_nd rfl rfl⟩
instance {w6' : Addr} : Pk (worF n l q m d w1 w2 w3 w4 w5 w6 w7 w8 w9 s1 s2) "why" (.ref w6') (worF n l q m d w1 w2 w3 w4 w5 w6' w7 w8 w9 s1 s2) := ⟨pk_at (ks := worFK) (vs := [.int n, .ref l, .ref q, .int m, .ref d, .ref w1, .ref w2, .ref w3, .ref w4, .ref w5, .ref w6, .ref w7, .ref w8, .ref w9, .ref s1, .ref s2]) (i := 10) worFK_nd rfl rfl, by show 16 < sizeLine; decide⟩
instance : Vk (worF n l q m d w1 w2 w3 w4 w5 w6 w7 w8 w9 s1 s2) "held" (.ref w7) := ⟨vk_at (ks := worFK) (vs := [.int n, .ref l, .ref q, .int m, .ref d, .ref w1, .ref w2, .ref w3, .ref w4, .ref w5, .ref w6, .ref w7, .ref w8, .ref w9, .ref s1, .ref s2]) (i := 11) worFK_nd rfl rfl⟩
instance {w7' : Addr} : Pk (worF n l q m d w1 w2 w3 w4 w5 w6 w7 w8 w9 s1 s2) "held" (.ref w7') (worF n l q m d w1 w2 w3 w4 w5 w6 w7' w8 w9 s1 s2) := ⟨pk_at (ks := worFK) (vs := [.int n, .ref l, .ref q, .int m, .ref d, .ref w1, .ref w2, .ref w3, .ref w4, .ref w5, .ref w6, .ref w7, .ref w8, .ref w9, .ref s1, .ref s2]) (i := 11) worFK_nd rfl rfl, by show 16 < sizeLine; decide⟩
instance : Vk (worF n l q m d w1 w2 w3 w4 w5 w6 w7 w8 w9 s1 s2) "stuck" (.ref w8) := ⟨vk_at (ks := worFK) (vs := [.int n, .ref l, .ref q, .int m, .ref d, .ref w1, .ref w2, .ref w3, .ref w4, .ref w5, .ref w6, .ref w7, .ref w8, .ref w9, .ref s1, .ref s2]) (i := 12) worFK_nd rfl rfl⟩
instance {w8' : Addr} : Pk (worF n l q m d w1 w2 w3 w4 w5 w6 w7 w8 w9 s1 s2) "stuck" (.ref w8') (worF n l q m d w1 w2 w3 w4 w5 w6 w7 w8' w9 s1 s2) := ⟨pk_at (ks := worFK) (vs := [.int n, .ref l, .ref q, .int m, .ref d, .ref w1, .ref w2, .ref w3, .ref w4, .ref w5, .ref w6, .ref w7, .ref w8, .ref w9, .ref s1, .ref s2]) (i := 12) worFK_nd rfl rfl, by show 16 < sizeLine; decide⟩
instance : Vk (worF n l q m d w1 w2 w3 w4 w5 w6 w7 w8 w9 s1 s2) "shares" (.ref w9) := ⟨vk_at (ks := worFK) (vs := [.int n, .ref l, .ref q, .int m, .ref d, .ref w1, .ref w2, .ref w3, .ref w4, .ref w5, .ref w6, .ref w7, .ref w8, .ref w9, .ref s1, .ref s2]) (i := 13) worFK_nd rfl rfl⟩
instance {w9' : Addr} : Pk (worF n l q m d w1 w2 w3 w4 w5 w6 w7 w8 w9 s1 s2) "shares" (.ref w9') (worF n l q m d w1 w2 w3 w4 w5 w6 w7 w8 w9' s1 s2) := ⟨pk_at (ks := worFK) (vs := [.int n, .ref l, .ref q, .int m, .ref d, .ref w1, .ref w2, .ref w3, .ref w4, .ref w5, .ref w6, .ref w7, .ref w8, .ref w9, .ref s1, .ref s2]) (i := 13) worFK_nd rfl rfl, by show 16 < sizeLine; decide⟩
instance : Vk (worF n l q m d w1 w2 w3 w4 w5 w6 w7 w8 w9 s1 s2) "spots" (.ref s1) := ⟨vk_at (ks := worFK) (vs := [.int n, .ref l, .ref q, .int m, .ref d, .ref w1, .ref w2, .ref w3, .ref w4, .ref w5, .ref w6, .ref w7, .ref w8, .ref w9, .ref s1, .ref s2]) (i := 14) worFK_nd rfl rfl⟩
instance {s1' : Addr} : Pk (worF n l q m d w1 w2 w3 w4 w5 w6 w7 w8 w9 s1 s2) "spots" (.ref s1') (worF n l q m d w1 w2 w3 w4 w5 w6 w7 w8 w9 s1' s2) := ⟨pk_at (ks := worFK) (vs := [.int n, .ref l, .ref q, .int m, .ref d, .ref w1, .ref w2, .ref w3, .ref w4, .ref w5, .ref w6, .ref w7, .ref w8, .ref w9, .ref s1, .ref s2]) (i := 14) worFK_nd rfl rfl, by show 16 < sizeLine; decide⟩
instance : Vk (worF n l q m d w1 w2 w3 w4 w5 w6 w7 w8 w9 s1 s2) "steps" (.ref s2) := ⟨vk_at (ks := worFK) (vs := [.int n, .ref l, .ref q, .int m, .ref d, .ref w1, .ref w2, .ref w3, .ref w4, .ref w5, .ref w6, .ref w7, .ref w8, .ref w9, .ref s1, .ref s2]) (i := 15) worFK_nd rfl rfl⟩
instance {s2' : Addr} : Pk (worF n l q m d w1 w2 w3 w4 w5 w6 w7 w8 w9 s1 s2) "steps" (.ref s2') (worF n l q m d w1 w2 w3 w4 w5 w6 w7 w8 w9 s1 s2') := ⟨pk_at (ks := worFK) (vs := [.int n, .ref l, .ref q, .int m, .ref d, .ref w1, .ref w2, .ref w3, .ref w4, .ref w5, .ref w6, .ref w7, .ref w8, .ref w9, .ref s1, .ref s2]) (i := 15) worFK_nd rfl rfl, by show 16 < sizeLine; decide⟩
end
end L2.Zs
namespace L2.Zs
open PySem PySem.Spec PyProof.Rows
/-! ## orders -/
theorem perm_eq {α : Type} (le : α → α → Prop) (anti : ∀ a b, le a b → le b a → a = b) : ∀ {xs ys : List α}, xs.Perm ys → xs.Pairwise le → ys.Pairwise le → xs = ys
  | [], ys, p, _, _ => (List.nil_perm.mp p).symm
  | x :: xs, [], p, _, _ => absurd p.length_eq (by simp)
  | x :: xs, y :: ys, p, h1, h2 => by
    have a1 := List.pairwise_cons.mp h1
    have a2 := List.pairwise_cons.mp h2
    have e : x = y := by
      have m1 : x ∈ y :: ys := p.subset List.mem_cons_self
      have m2 : y ∈ x :: xs := p.symm.subset List.mem_cons_self
      rcases List.mem_cons.mp m1 with e | m1
      · exact e
      · rcases List.mem_cons.mp m2 with e | m2
        · exact e.symm
        · exact anti _ _ (a1.1 y m2) (a2.1 x m1)
    subst e
    rw [perm_eq le anti ((List.perm_cons x).mp p) a1.2 a2.2]
abbrev Pr := PySem.Str × Int
def keyG (g : Pr) : List (Int ⊕ List Nat) := [.inr g.1.cps.toList, .inl g.2]
def leG (a b : Pr) : Prop := lexLt itemOrd (keyG b) (keyG a) = false
theorem leG_anti (a b : Pr) (h1 : leG a b) (h2 : leG b a) : a = b := by
  have e : keyG a = keyG b := lex_total (O := itemOrd) (keyG a) (keyG b) h2 h1
  unfold keyG at e
  injection e with e1 e2
  injection e2 with e2
  obtain ⟨x, i⟩ := a
  obtain ⟨y, j⟩ := b
  have h3 : x.cps = y.cps := Array.toList_inj.mp (Sum.inr.inj e1)
  have h4 : i = j := Sum.inl.inj e2
  obtain ⟨x⟩ := x
  obtain ⟨y⟩ := y
  dsimp only at h3
  rw [h3, h4]
def sortedG (gs : List Pr) : Prop := gs.Pairwise leG
theorem sortedG_eq {xs ys : List Pr} (p : xs.Perm ys) (h1 : sortedG xs) (h2 : sortedG ys) : xs = ys := perm_eq leG leG_anti p h1 h2
/-! ## sorted(l) of a list of pairs (text, whole number) -/
def gD (g : Pr) : PyData := .tuple [.str g.1, .int g.2]
def datV (H : Hp) : V → Pr
  | .ref t => match H t with
    | some (.tup [.str z, .int i]) => (z, i)
    | _ => ("", 0)
  | _ => ("", 0)
theorem IsAll.pairs {H : Hp} : ∀ {xs : List V} {gs : List Pr}, IsAll H xs (gs.map gD) → (∀ x ∈ xs, ∃ t z i, x = .ref t ∧ H t = some (.tup [.str z, .int i])) ∧ gs = xs.map (datV H)
  | [], [], _ => ⟨(fun _ h => nomatch h), rfl⟩
  | [], _ :: _, h => by cases h
  | _ :: _, [], h => by cases h
  | x :: xs, g :: gs, h => by
    cases h with
    | cons a r =>
      obtain ⟨h1, h2⟩ := r.pairs
      cases a with
      | @tup t us _ e q =>
        cases q with
        | cons q1 q2 =>
          cases q2 with
          | cons q2 q3 =>
            cases q1
            cases q2
            cases q3
            refine ⟨fun y hy => ?_, ?_⟩
            · rcases List.mem_cons.mp hy with rfl | hy
              · exact ⟨t, _, _, rfl, e⟩
              · exact h1 y hy
            · rw [List.map_cons, ← h2]
              congr 1
              show g = match H t with | some (.tup [.str z, .int i]) => (z, i) | _ => ("", 0)
              rw [e]
theorem isAll_dat {H : Hp} : ∀ {xs : List V}, (∀ x ∈ xs, ∃ t z i, x = V.ref t ∧ H t = some (.tup [.str z, .int i])) → IsAll H xs ((xs.map (datV H)).map gD)
  | [], _ => .nil
  | x :: xs, h => by
    obtain ⟨t, z, i, rfl, e⟩ := h x List.mem_cons_self
    refine .cons ?_ (isAll_dat fun y hy => h y (List.mem_cons_of_mem _ hy))
    have : datV H (.ref t) = (z, i) := by
      show (match H t with | some (.tup [.str z, .int i]) => (z, i) | _ => ("", 0)) = _
      rw [e]
    rw [this]
    exact .tup e (.cons (.str z) (.cons (.int i) .nil))
def shG : Nat → Bool := fun i => i == 0
def rSortedG : List V → Hp → VK → Prop := fun vs H Q => ∃ (a : Addr) (xs : List V) (gs : List Pr), vs = [V.ref a] ∧ H a = some (.lst xs) ∧ IsAll H xs (gs.map gD) ∧
  ∀ (ys : List V) (gs' : List Pr) (p : Addr), gs'.Perm gs → sortedG gs' → IsAll H ys (gs'.map gD) → H p = none → Q (.ref p) (upd H p (.lst ys))
theorem cr_sortedG {X : Cx} : CallR X (.builtin "sorted") rSortedG := by
  intro pins s σ H vs us Q I r h
  obtain ⟨a, xs, gs, rfl, hs, ha, q⟩ := h
  obtain ⟨its, rv, hl, hz⟩ := I.list (SqL.of hs)
  rw [Vals.ref1 r]
  obtain ⟨hx, eg⟩ := ha.pairs
  obtain ⟨e1, e2⟩ := refs_back rv fun x m => by
    obtain ⟨t, _, _, e, _⟩ := hx x m
    exact ⟨t, e⟩
  -- what stands at a value
  have at_ : ∀ v ∈ its, ∃ t z i o tz ti n, v = .ref t ∧ H t = some (.tup [.str z, .int i]) ∧ s.heap.get? t = some o ∧ o.cls = .type "tuple" ∧ o.data = .seq #[.str z tz, .int i ti] n := by
    intro v hv
    obtain ⟨t, rfl⟩ := e2 v hv
    have hm : V.ref t ∈ xs := by rw [e1]; exact List.mem_map.mpr ⟨_, hv, rfl⟩
    obtain ⟨t', z, i, e, ht⟩ := hx _ hm
    cases e
    obtain ⟨_, its2, r2, o, ho, hc, n, hd⟩ := I.hok _ _ ht
    obtain ⟨u1, u2, rfl, ri, rj⟩ := vals2 r2
    obtain ⟨t1, rfl⟩ := ri
    obtain ⟨t2, rfl⟩ := rj
    exact ⟨t, z, i, o, t1, t2, n, rfl, ht, ho, hc, hd⟩
  have key_ : ∀ v ∈ its, G.tupKeyC s.heap shG v = some (keyG (datV H (backV v))) := by
    intro v hv
    obtain ⟨t, z, i, o, tz, ti, n, rfl, ht, ho, hc, hd⟩ := at_ v hv
    have d : datV H (backV (.ref t)) = (z, i) := by
      show (match H t with | some (.tup [.str z, .int i]) => (z, i) | _ => ("", 0)) = _
      rw [ht]
    rw [d]
    unfold G.tupKeyC
    rw [if_pos]
    · show (match s.heap.get? t with | some o => (match o.data with | .seq xs _ => tupItems shG 0 xs.toList | _ => none) | none => none) = _
      rw [ho]
      dsimp only
      rw [hd]
      rfl
    · show (match s.heap.get? t with | some o => (match o.cls with | .type n => n == "tuple" | _ => false) | none => false) = true
      rw [ho]
      dsimp only
      rw [hc]
      rfl
  have tups : ∀ {vs : List Value}, (∀ v ∈ vs, v ∈ its) → ∃ fs, TupsOf s.heap shG vs fs := by
    intro vs
    induction vs with
    | nil => intro _; exact ⟨[], .nil⟩
    | cons v vs ih =>
      intro hv
      obtain ⟨fs, h1⟩ := ih fun u hu => hv u (List.mem_cons_of_mem _ hu)
      obtain ⟨t, z, i, o, tz, ti, n, rfl, ht, ho, hc, hd⟩ := at_ v (hv v List.mem_cons_self)
      exact ⟨.str z tz :: fs, .cons ⟨t, o, _, n, rfl, ho, hc, hd, rfl, (fun h => by cases h), fun _ => ⟨z, tz, rfl⟩⟩ h1⟩
  obtain ⟨fs, tt⟩ := tups (vs := its) fun _ h => h
  refine G.sorted_tups hl.isList tt (fun v hv => ⟨_, key_ v hv⟩) (by rw [← rv.length]; exact hz) fun st' hp hsort hst => ?_
  generalize hxs : arrOf st' = ar at hp hsort hst
  have hl2 : ar.toList.Perm (its.zip its) := by rw [← pairsOf_toList]; exact Array.perm_iff_toList_perm.mp hp
  have hmem : ∀ p, p ∈ ar.toList → p.1 = p.2 ∧ p.1 ∈ its := fun p hp' => mem_zip_self (hl2.mem_iff.mp hp')
  have eo : (ar.map (·.2)).toList = ar.toList.map (·.1) := by
    rw [Array.toList_map]; exact List.map_congr_left fun p hp' => (hmem p hp').1.symm
  have po : (ar.map (·.2)).toList.Perm its := by
    rw [eo]
    have h1 := hl2.map (·.1)
    rwa [List.map_fst_zip (Nat.le_refl _)] at h1
  obtain ⟨ep, he'⟩ := PyProof.Rows.sortedAll_at s.heap its (ar.map (·.2))
  have hin : ∀ u ∈ (ar.map (·.2)).toList, ∃ a, u = Value.ref a := fun u hu => e2 u (po.mem_iff.mp hu)
  have hlen : ((ar.map (·.2)).toList.map backV).length ≤ sizeLine := by rw [List.length_map, po.length_eq, ← rv.length]; exact hz
  have hx2 : ∀ x ∈ (ar.map (·.2)).toList.map backV, ∃ t z i, x = V.ref t ∧ H t = some (.tup [.str z, .int i]) := fun x hx' => by
    obtain ⟨u, hu, rfl⟩ := List.mem_map.mp hx'
    exact hx _ (by rw [e1]; exact List.mem_map.mpr ⟨u, po.mem_iff.mp hu, rfl⟩)
  refine ⟨.ref _, upd H (s.heap.objs.size + 1) (.lst ((ar.map (·.2)).toList.map backV)), I.laid (t' := s.toks) (fun _ _ => PyProof.Rows.sortedAll_old) (Nat.le_succ _) ⟨hlen, (ar.map (·.2)).toList, ep, vals_back hin, he'⟩, rfl,
    q _ (((ar.map (·.2)).toList.map backV).map (datV H)) _ ?_ ?_ (isAll_dat hx2) (I.hok.fresh (Nat.le_succ _))⟩
  · rw [eg, e1]; exact (po.map backV).map (datV H)
  · unfold sortedG
    rw [List.pairwise_iff_getElem]
    intro i j hi hj hij
    simp only [List.length_map, Array.length_toList, Array.size_map] at hi hj
    have hj' : j < (pairsOf its).size := by
      have := hp.size_eq
      omega
    have k := hsort i j (Nat.le_of_lt hij) hj'
    have kk : ∀ (m : Nat) (hm : m < ar.size), KK (G.tupKindC s.heap shG) ar m = keyG (datV H (backV ar[m].2)) := by
      intro m hm
      unfold KK
      rw [Array.getElem?_eq_getElem hm]
      have mm := hmem ar[m] (by simp)
      show ((G.tupKeyC s.heap shG ar[m].1).getD []) = _
      rw [key_ _ mm.2, mm.1]
      rfl
    rw [kk i hi, kk j hj] at k
    simp only [List.getElem_map, Array.getElem_toList, Array.getElem_map]
    exact k
/-! ## texts, in order -/
def leS (a b : PySem.Str) : Prop := PyProof.Rows.strKind.kle a.cps.toList b.cps.toList
theorem leS_anti (a b : PySem.Str) (h1 : leS a b) (h2 : leS b a) : a = b := by
  have e : a.cps.toList = b.cps.toList := KeyOrd.kle_antisymm h1 h2
  obtain ⟨x⟩ := a
  obtain ⟨y⟩ := b
  have : x = y := Array.toList_inj.mp e
  rw [this]
theorem sortS_pw : ∀ {zs : List PySem.Str}, sortedS zs = true → zs.Pairwise leS
  | [], _ => .nil
  | z :: zs, h => by
    have go : ∀ {zs : List PySem.Str} {p : PySem.Str}, risingS p zs = true → (∀ x ∈ zs, leS p x) ∧ zs.Pairwise leS := by
      intro zs
      induction zs with
      | nil => intro p _; exact ⟨(fun x h => nomatch h), .nil⟩
      | cons x r ih =>
        intro p h
        unfold risingS at h
        rw [Bool.and_eq_true] at h
        have l : leS p x := by
          have := h.1
          show decide (x.cps.toList < p.cps.toList) = false
          rw [← ltCps_eq]
          simpa using this
        obtain ⟨h1, h2⟩ := ih h.2
        refine ⟨fun y hy => ?_, List.pairwise_cons.mpr ⟨h1, h2⟩⟩
        rcases List.mem_cons.mp hy with rfl | hy
        · exact l
        · exact KeyOrd.kle_trans l (h1 y hy)
    exact List.pairwise_cons.mpr (go h)
theorem sortS_eq {xs ys : List PySem.Str} (p : xs.Perm ys) (h1 : sortedS xs = true) (h2 : sortedS ys = true) : xs = ys := perm_eq leS leS_anti p (sortS_pw h1) (sortS_pw h2)
/-! ## list.remove of a text -/
def eqz (z : PySem.Str) (v : Value) : Bool := match v with
  | .str x _ => x.cps.toList == z.cps.toList
  | _ => false
theorem eqz_gives {z : PySem.Str} {t : Tok} : ∀ {us : List Value} {zs : List PySem.Str}, Vals (zs.map V.str) us → ∀ y ∈ us, MeetsSeq.EqGives y (.str z t) (eqz z y)
  | _, [], .nil => fun y hy => by cases hy
  | _, x :: zs, .cons r h => fun y hy => by
    rcases List.mem_cons.mp hy with e | e
    · obtain ⟨k, rfl⟩ := r
      rw [e]
      exact SeqRoads2.EqGives.str x z k t
    · exact eqz_gives h y e
theorem codes_inj {a b : PySem.Str} (e : a.cps.toList = b.cps.toList) : a = b := by
  obtain ⟨x⟩ := a
  obtain ⟨y⟩ := b
  have : x = y := Array.toList_inj.mp e
  rw [this]
theorem erase_mapS : ∀ (l : List PySem.Str) (j : Nat), (l.map V.str).eraseIdx j = (l.eraseIdx j).map V.str
  | [], j => by simp
  | a :: r, 0 => by simp
  | a :: r, j + 1 => by
    have ih := erase_mapS r j
    simp [ih]
def rRemS : V → List V → Hp → VK → Prop := fun x xs H Q => ∃ (l : Addr) (zs : List PySem.Str) (z : PySem.Str), x = .ref l ∧ xs = [.str z] ∧ H l = some (.lst (zs.map V.str)) ∧ z ∈ zs ∧ Q .non (upd H l (.lst ((zs.erase z).map V.str)))
theorem mt_removeS {X : Cx} : MtM X "list.remove" rRemS := by
  intro pins s σ H x xs v us Q I rx rxs h
  obtain ⟨l, zs, k, rfl, rfl, hH, hz, q⟩ := h
  have hi : zs.idxOf k < zs.length := List.idxOf_lt_length_of_mem hz
  have eer : zs.eraseIdx (zs.idxOf k) = zs.erase k := (List.erase_eq_eraseIdx_of_idxOf rfl).symm
  have hj : zs[zs.idxOf k]? = some k := by rw [List.getElem?_eq_getElem hi, List.getElem_idxOf hi]
  have hno : ∀ m : Nat, m < zs.idxOf k → zs[m]? ≠ some k := fun m hm q => by
    obtain ⟨h1, h2⟩ := List.getElem?_eq_some_iff.mp q
    have := List.not_of_lt_findIdx (p := (· == k)) (xs := zs) (i := m) hm
    simp [h2] at this
  rw [← eer] at q
  generalize zs.idxOf k = j at hi hj hno q
  cases rx
  obtain ⟨u, rfl, ru⟩ := rxs.one
  obtain ⟨t, rfl⟩ := ru
  obtain ⟨z, its, n, r, hl, e⟩ := I.lstM hH
  rw [List.length_map] at hl z
  have hjl : j < its.toArray.size := by rw [List.size_toArray]; omega
  have at' : ∀ (m : Nat) (hm : m < zs.length), ∃ t', its.toArray[m]'(by rw [List.size_toArray]; omega) = Value.str zs[m] t' := fun m hm => by
    obtain ⟨w, hw, t', hw'⟩ := r.get (i := m) (x := .str zs[m]) (by simp [hm])
    refine ⟨t', ?_⟩
    have e := (List.getElem?_eq_some_iff.mp hw).2
    rw [← hw', ← e]
    simp
  refine call_meets PySem.F.slot_list_remove ⟨_, e, rfl⟩ PySem.F.entry_list_remove (PySem.F.args_list_remove_2 _ _)
    (MeetsSeq.list_remove l its.toArray n (.str k t) (eqz k) (fun y hy => eqz_gives r y (by simpa using hy)) j hjl ?_ ?_ (by rw [List.size_toArray]; omega)) ⟨e, ?_⟩
  · obtain ⟨t', e1⟩ := at' j hi
    rw [e1]
    have : zs[j] = k := by rw [List.getElem?_eq_getElem hi] at hj; exact Option.some.inj hj
    show (zs[j].cps.toList == k.cps.toList) = true
    rw [this]; exact beq_self_eq_true _
  · intro m hm hmj
    have hmn : m < zs.length := by omega
    obtain ⟨t', e1⟩ := at' m hmn
    rw [e1]
    show (zs[m].cps.toList == k.cps.toList) = false
    refine beq_eq_false_iff_ne.mpr fun e2 => hno m hmj ?_
    rw [List.getElem?_eq_getElem hmn, codes_inj e2]
  · have rr := r.eraseIdx j
    rw [erase_mapS] at rr
    refine ⟨.non, _, I.lset (its' := its.eraseIdx j) (t' := s.toks) hH e ?_ rr ?_, rfl, q⟩
    · show its.toArray.eraseIdxIfInBounds j = (its.eraseIdx j).toArray
      rw [List.eraseIdxIfInBounds_toArray]
    · have z2 := len_erase zs j
      rw [List.length_map]
      omega
/-! ## walks over tuples -/
section
variable {K : PySem.W.Frag} {H : Hp} {Q : VK} {σ : St} {g : TG} {tB : TS} {D : Ends} {te : TE} {R : It → Hp → Prop} {a : Addr} {xs : List V} {cs ds : List As} {tt : TT} {vs : List Nat}
def ForT (K : PySem.W.Frag) (R : It → Hp → Prop) (x : V) (H : Hp) : Prop := ∃ a, x = .ref a ∧ (∃ xs, SqT K H a xs) ∧ R (Itt K a) H
instance : Stp (tFor (iTup K te) g tB D σ H) (te σ H fun x H1 => ForT K (fun J H1 => Lp J g tB D σ H1) x H1) := ⟨id⟩
instance : Stp (iTup K te σ H R) (te σ H fun x H1 => ForT K R x H1) := ⟨id⟩
theorem s_forT (S : Sep cs H) (p : Pick (pt a (.tup xs)) cs ds) (k : R (Itt K a) H) : ForT K R (.ref a) H := ⟨a, rfl, ⟨xs, SqT.of (S.get p)⟩, k⟩
theorem lp_tup (Pv : Nat → St → Hp → Prop) (h0 : Pv 0 σ H) (hl : ∀ i σ H, i ≤ xs.length → Pv i σ H → SqT K H a xs)
    (hs : ∀ i x σ H, xs[i]? = some x → Pv i σ H → g x σ H fun σ2 H2 => tB { D with nx := Pv (i + 1), ct := Pv (i + 1), bk := D.nx } σ2 H2) (hd : ∀ σ H, Pv xs.length σ H → D.nx σ H) :
    Lp (Itt K a) g tB D σ H := for_tup Pv h0 hl hs hd
theorem s_lcT (S : Sep cs H) (Pv : Addr → Nat → Hp → Prop) (h0 : ∀ D H', Sep (pt D (.lst []) :: cs) H' → Pv D 0 H') (hl : ∀ D i H', i ≤ xs.length → Pv D i H' → SqT K H' a xs)
    (hs : ∀ D i x H', xs[i]? = some x → Pv D i H' → g x (wipe σ vs) H' fun σ2 H2 => wipe σ2 vs = wipe σ vs ∧ tt σ2 H2 fun b H3 => if b = true then te σ2 H3 fun y H4 => LcPut D y (Pv D (i + 1)) H4 else Pv D (i + 1) H3)
    (hd : ∀ D H', Pv D xs.length H' → Q (.ref D) H') : LcGo (Itt K a) g tt te vs σ Q H :=
  fun D hD => lc_tup (Pv D) (h0 D _ (S.new hD)) (hl D) (fun i x H' e p => hs D i x H' e p) (fun H' p => hd D H' p)
end
end L2.Zs
namespace L2.Zs
open PySem PySem.Spec PyProof.Rows
/-! ## tuples whose object is known: they have methods -/
def kTupF (K : PySem.W.Frag) (x : V) (H : Hp) (Q : VK) : Prop := ∃ p xs, x = .ref p ∧ SqL K H p xs ∧ ∀ (q : Addr) (o : Obj), o.dict = none → H q = none → Q (.ref q) (upd H q (.frz o (.tup xs)))
section
variable {X : Cx} {a : Expr} {ta : TE}
theorem rl_tupleF (pins : List (Addr × Obj)) (s : Shared) (σ : St) (H : Hp) (x : V) (v : Value) (Q : VK) (I : Inv X pins σ H s) (r : RelV x v) (h : kTupF X.K x H Q) :
    wpAny (model X.prog X.w) X.A (call (.type "tuple") [v]) (EP X pins σ Q) X.xe s := by
  obtain ⟨p, xs, rfl, hs, q⟩ := h
  obtain rfl : v = .ref p := r
  obtain ⟨its, rv, pl, hz⟩ := I.list hs
  refine call_tuple_list pl.isList (fun h' hk => ?_) (by rw [List.size_toArray, ← rv.length]; exact hz)
  have I1 : Inv X pins σ H { s with heap := h' } := I.kept (t' := s.toks) hk
  have I2 : Inv X pins σ (upd H h'.objs.size (.frz { cls := .type "tuple", data := .seq its.toArray } (.tup xs))) { s with heap := h'.push { cls := .type "tuple", data := .seq its.toArray } } :=
    I1.laid (t' := s.toks) (fun b o e => Heap.get?_push_of_some _ e) (Nat.le_refl _) (show ObjOk X.prog X.w _ _ _ (.frz _ (.tup xs)) from ⟨Heap.get?_push_size _ rfl, hz, its, rv, IsTup.new _ _⟩)
  exact ⟨.ref h'.objs.size, upd H h'.objs.size (.frz { cls := .type "tuple", data := .seq its.toArray } (.tup xs)), I2, rfl, q _ _ rfl (I1.hok.fresh (Nat.le_refl _))⟩
theorem k_tupleOfF {K : PySem.W.Frag} {p pos : Pos} (hK : X.K = K) (hg : Gl X "tuple") (hm : X.mg "tuple" = none) (ha : PE X a ta) (na : starEach [a] X.env = (false, eval a X.env) :: starEach [] X.env := by rfl) :
    PE X (.Call (.Name "tuple" p) [a] [] pos) (tThen ta (kTupF K)) := by
  subst hK
  refine ⟨fun pins s σ H Q I h => ?_⟩
  exact Call_ (ld_blt I hg hm boot_tuple (PyProof.Rows.callWith_type1 (one_arg ha I h (fun v s2 x H2 I2 r q => rl_tupleF pins s2 σ H2 x v Q I2 r q) na) na))
/-- t.index(z), t such a tuple of texts -/
def tTIx (ta : TE) (te : TA) : TE := fun σ H Q => ta σ H fun x H1 => (∃ p o us, x = .ref p ∧ H1 p = some (.frz o (.tup us)) ∧ o.dict = none) ∧ te σ H1 fun vs H2 =>
  ∃ (p : Addr) (o : Obj) (ys : List PySem.Str) (z : PySem.Str), x = .ref p ∧ vs = [.str z] ∧ H2 p = some (.frz o (.tup (ys.map V.str))) ∧ z ∈ ys ∧ Q (.int (ys.idxOf z : Nat)) H2
theorem pe_tupIx {o e : Expr} {to : TE} {te : TA} {apos cpos : Pos} (ho : PE X o to) (he : PA X [e] te) (hbase : attributeBase o "index" X.env (eval o X.env) = eval o X.env := by rfl)
    (hfew : ((backTo cpos (starEach [e] X.env)).all (fun x => !x.1) && (backToKw cpos (keywordEach [] X.env)).all (fun x => x.1.isSome)
      && decide ([e].length + ([] : List Keyword).length + (if ([] : List Keyword).isEmpty then 0 else 1) < 30)) = true := by rfl)
    (hline : (apos.endLine == cpos.line) = true := by rfl) (hs : starEach [e] X.env = (false, eval e X.env) :: starEach [] X.env := by rfl) (hplain : (backTo cpos (starEach [] X.env)).any (·.1) = false := by rfl) :
    PE X (.Call (.Attribute o "index" apos) [e] [] cpos) (tTIx to te) := by
  refine ⟨fun pins s σ H Q I h => ?_⟩
  refine wpAny_Call_method_late hbase hfew hline rfl (thn (ho.run pins s σ H _ I h) fun v s1 ⟨x, H1, I1, r1, ty, q1⟩ => ?_)
  obtain ⟨p, ob, us, ex, hp, hd⟩ := ty
  subst ex
  obtain rfl : v = Value.ref p := r1
  obtain ⟨hg, _, its0, _, o2, ho2, hc2, _⟩ := (show ObjOk _ _ _ _ _ (.frz ob (.tup us)) from I1.hok p _ hp)
  rw [hg] at ho2
  cases ho2
  refine ⟨"tuple", "tuple.index", PySem.F.plainAttrs_tuple, PySem.F.slot_tuple_index, PySem.F.type_tuple_index, ⟨ob, hg, hc2⟩, fun a e => (by cases e; exact ⟨ob, hg, hd⟩), ?_⟩
  have hA := he.run cpos pins s1 σ H1 _ I1 q1
  rw [hs] at hA ⊢
  refine Calls.callWith_builtin (by show (false || (backTo cpos (starEach [] X.env)).any (·.1)) = false; rw [hplain] <;> rfl) (Calls.evalArgs_plain ?_)
  refine thn hA fun ws s2 ⟨vs, H2, I2, r2, q2⟩ => ?_
  obtain ⟨p', o', ys, z, e1, e2, hp2, hz, q3⟩ := q2
  cases e1
  subst e2
  have hi : ys.idxOf z < ys.length := List.idxOf_lt_length_of_mem hz
  refine mt_tup_index pins s2 σ H2 (.ref p) [.str z] (.ref p) ws Q I2 rfl r2 ⟨p, ys, z, ys.idxOf z, rfl, rfl, .inl (.inr ⟨o', hp2⟩), by rw [List.getElem?_eq_getElem hi, List.getElem_idxOf hi], fun m hm q => ?_, q3⟩
  obtain ⟨h1, h2⟩ := List.getElem?_eq_some_iff.mp q
  have := List.not_of_lt_findIdx (p := (· == z)) (xs := ys) (i := m) hm
  simp [h2] at this
end
section
variable {K : PySem.W.Frag} {H : Hp} {Q : VK} {σ : St} {a : Addr} {o : Obj} {xs : List V} {cs ds : List As} {ta : TE} {te : TA} {i : Int} {v : V} {ys : List PySem.Str} {z : PySem.Str} {R : It → Hp → Prop}
theorem s_tupLF (S : Sep cs H) (p : Pick (pt a (.lst xs)) cs ds) (k : ∀ q o H', o.dict = none → Sep (pt q (.frz o (.tup xs)) :: cs) H' → Q (.ref q) H') : kTupF K (.ref a) H Q := ⟨a, xs, rfl, SqL.of (S.get p), fun q o ho hq => k q o _ ho (S.new hq)⟩
instance : Stp (tThen ta (kTupF K) σ H Q) (ta σ H fun x H1 => kTupF K x H1 Q) := ⟨id⟩
def TIxGo (te : TA) (σ : St) (Q : VK) (x : V) (H1 : Hp) : Prop := (∃ p o us, x = .ref p ∧ H1 p = some (.frz o (.tup us)) ∧ o.dict = none) ∧ te σ H1 fun vs H2 => ∃ (p : Addr) (o : Obj) (ys : List PySem.Str) (z : PySem.Str), x = .ref p ∧ vs = [.str z] ∧ H2 p = some (.frz o (.tup (ys.map V.str))) ∧ z ∈ ys ∧ Q (.int (ys.idxOf z : Nat)) H2
instance : Stp (tTIx ta te σ H Q) (ta σ H fun x H1 => TIxGo te σ Q x H1) := ⟨id⟩
theorem SqT.frz (S : Sep cs H) (p : Pick (pt a (.frz o (.tup xs))) cs ds) : SqT K H a xs := .inl (.inr ⟨o, S.get p⟩)
theorem s_ixF (S : Sep cs H) (p : Pick (pt a (.frz o (.tup xs))) cs ds) (h : atI xs i = some v) (k : Q v H) : rIx K (.ref a) (.int i) H Q := .inr (.inl ⟨a, xs, i, v, rfl, rfl, SqT.frz S p, h, k⟩)
theorem s_forF (S : Sep cs H) (p : Pick (pt a (.frz o (.tup xs))) cs ds) (k : R (Itt K a) H) : ForT K R (.ref a) H := ⟨a, rfl, ⟨xs, SqT.frz S p⟩, k⟩
theorem s_lenF (S : Sep cs H) (p : Pick (pt a (.frz o (.tup xs))) cs ds) (k : Q (.int xs.length) H) : rLen K [.ref a] H Q := ⟨_, _, rfl, .inr ⟨xs, SqT.frz S p, rfl⟩, k⟩
theorem s_listF (S : Sep cs H) (p : Pick (pt a (.frz o (.tup xs))) cs ds) (k : ∀ q H', Sep (pt q (.lst xs) :: cs) H' → Q (.ref q) H') : rListOf K [.ref a] H Q := ⟨a, xs, rfl, .inr (SqT.frz S p), fun l hl => k l _ (S.new hl)⟩
/-- list.remove of a text -/
theorem s_removeS {cs' : List As} {zs : List PySem.Str} (S : Sep cs H) (g : Chg (pt a (.lst (zs.map V.str))) (pt a (.lst ((zs.erase z).map V.str))) cs cs') (h : z ∈ zs) (k : ∀ H', Sep cs' H' → Q .non H') : rRemS (.ref a) [.str z] H Q :=
  ⟨a, zs, z, rfl, rfl, (let ⟨_, p, _⟩ := g.pick; S.get p), h, k _ (S.set g rfl)⟩
theorem s_sortedG {gs : List Pr} {ds' : List As} (S : Sep cs H) (p : Pick (pt a (.lst xs)) cs ds) (p2 : Pick (ims xs (gs.map gD)) cs ds') (k : ∀ (ys : List V) (gs' : List Pr) (l : Addr) (H' : Hp), gs'.Perm gs → sortedG gs' → Sep (pt l (.lst ys) :: ims ys (gs'.map gD) :: cs) H' → Q (.ref l) H') : rSortedG [.ref a] H Q := by
  refine ⟨a, xs, gs, rfl, S.get p, S.imsGet p2, fun ys gs' l h1 h2 h3 h4 => k ys gs' l _ h1 h2 ?_⟩
  have S2 : Sep (ims ys (gs'.map gD) :: cs) H := ⟨tupsOf H, H, tupsOf_le, Le.refl _, fun x u e u' e' => by
    have := tupsOf_le _ _ e
    rw [this] at e'; cases e'
    exact ⟨tupsOf_imm e, tupsOf_imm e⟩, pers_ims _ h3, S⟩
  exact S2.new h4
theorem s_sortedS {zs : List PySem.Str} (S : Sep cs H) (p : Pick (pt a (.lst (zs.map V.str))) cs ds) (n : zs.length < 64) (k : ∀ (ys : List PySem.Str) (l : Addr) (H' : Hp), ys.Perm zs → sortedS ys = true → Sep (pt l (.lst (ys.map V.str)) :: cs) H' → Q (.ref l) H') : rSortedS K [.ref a] H Q :=
  ⟨a, zs, rfl, SqL.of (S.get p), n, fun ys l h1 h2 h3 => k ys l _ h1 h2 (S.new h3)⟩
end
theorem k_sortedS {X : Cx} {K : PySem.W.Frag} (hK : X.K = K) : CallR X (.builtin "sorted") (rSortedS K) := hK ▸ cr_sortedS
end L2.Zs
namespace L2.Zs
open PySem PySem.Spec PyProof.Rows
theorem Sep.fr1 {cs d1 : List As} {H : Hp} (S : Sep cs H) (c1 : As) (p1 : Pick c1 cs d1 := by wtm_at "pk") : Sep (c1 :: d1) H := S.pick p1
theorem Sep.fr2 {cs d1 d2 : List As} {H : Hp} (S : Sep cs H) (c1 c2 : As) (p1 : Pick c1 cs d1 := by wtm_at "pk") (p2 : Pick c2 d1 d2 := by wtm_at "pk") : Sep (c1 :: c2 :: d2) H := Sep.cons (fun H h => h.pick p2) (S.pick p1)
theorem Sep.fr3 {cs d1 d2 d3 : List As} {H : Hp} (S : Sep cs H) (c1 c2 c3 : As) (p1 : Pick c1 cs d1 := by wtm_at "pk") (p2 : Pick c2 d1 d2 := by wtm_at "pk") (p3 : Pick c3 d2 d3 := by wtm_at "pk") : Sep (c1 :: c2 :: c3 :: d3) H := Sep.cons (fun _ h => Sep.cons (fun H h => h.pick p3) h) (Sep.cons (fun H h => h.pick p2) (S.pick p1))
theorem Sep.fr4 {cs d1 d2 d3 d4 : List As} {H : Hp} (S : Sep cs H) (c1 c2 c3 c4 : As) (p1 : Pick c1 cs d1 := by wtm_at "pk") (p2 : Pick c2 d1 d2 := by wtm_at "pk") (p3 : Pick c3 d2 d3 := by wtm_at "pk") (p4 : Pick c4 d3 d4 := by wtm_at "pk") : Sep (c1 :: c2 :: c3 :: c4 :: d4) H := Sep.cons (fun _ h => Sep.cons (fun _ h => Sep.cons (fun H h => h.pick p4) h) h) (Sep.cons (fun _ h => Sep.cons (fun H h => h.pick p3) h) (Sep.cons (fun H h => h.pick p2) (S.pick p1)))
theorem Sep.fr5 {cs d1 d2 d3 d4 d5 : List As} {H : Hp} (S : Sep cs H) (c1 c2 c3 c4 c5 : As) (p1 : Pick c1 cs d1 := by wtm_at "pk") (p2 : Pick c2 d1 d2 := by wtm_at "pk") (p3 : Pick c3 d2 d3 := by wtm_at "pk") (p4 : Pick c4 d3 d4 := by wtm_at "pk") (p5 : Pick c5 d4 d5 := by wtm_at "pk") : Sep (c1 :: c2 :: c3 :: c4 :: c5 :: d5) H := Sep.cons (fun _ h => Sep.cons (fun _ h => Sep.cons (fun _ h => Sep.cons (fun H h => h.pick p5) h) h) h) (Sep.cons (fun _ h => Sep.cons (fun _ h => Sep.cons (fun H h => h.pick p4) h) h) (Sep.cons (fun _ h => Sep.cons (fun H h => h.pick p3) h) (Sep.cons (fun H h => h.pick p2) (S.pick p1))))
theorem Sep.fr6 {cs d1 d2 d3 d4 d5 d6 : List As} {H : Hp} (S : Sep cs H) (c1 c2 c3 c4 c5 c6 : As) (p1 : Pick c1 cs d1 := by wtm_at "pk") (p2 : Pick c2 d1 d2 := by wtm_at "pk") (p3 : Pick c3 d2 d3 := by wtm_at "pk") (p4 : Pick c4 d3 d4 := by wtm_at "pk") (p5 : Pick c5 d4 d5 := by wtm_at "pk") (p6 : Pick c6 d5 d6 := by wtm_at "pk") : Sep (c1 :: c2 :: c3 :: c4 :: c5 :: c6 :: d6) H := Sep.cons (fun _ h => Sep.cons (fun _ h => Sep.cons (fun _ h => Sep.cons (fun _ h => Sep.cons (fun H h => h.pick p6) h) h) h) h) (Sep.cons (fun _ h => Sep.cons (fun _ h => Sep.cons (fun _ h => Sep.cons (fun H h => h.pick p5) h) h) h) (Sep.cons (fun _ h => Sep.cons (fun _ h => Sep.cons (fun H h => h.pick p4) h) h) (Sep.cons (fun _ h => Sep.cons (fun H h => h.pick p3) h) (Sep.cons (fun H h => h.pick p2) (S.pick p1)))))
theorem Sep.fr7 {cs d1 d2 d3 d4 d5 d6 d7 : List As} {H : Hp} (S : Sep cs H) (c1 c2 c3 c4 c5 c6 c7 : As) (p1 : Pick c1 cs d1 := by wtm_at "pk") (p2 : Pick c2 d1 d2 := by wtm_at "pk") (p3 : Pick c3 d2 d3 := by wtm_at "pk") (p4 : Pick c4 d3 d4 := by wtm_at "pk") (p5 : Pick c5 d4 d5 := by wtm_at "pk") (p6 : Pick c6 d5 d6 := by wtm_at "pk") (p7 : Pick c7 d6 d7 := by wtm_at "pk") : Sep (c1 :: c2 :: c3 :: c4 :: c5 :: c6 :: c7 :: d7) H := Sep.cons (fun _ h => Sep.cons (fun _ h => Sep.cons (fun _ h => Sep.cons (fun _ h => Sep.cons (fun _ h => Sep.cons (fun H h => h.pick p7) h) h) h) h) h) (Sep.cons (fun _ h => Sep.cons (fun _ h => Sep.cons (fun _ h => Sep.cons (fun _ h => Sep.cons (fun H h => h.pick p6) h) h) h) h) (Sep.cons (fun _ h => Sep.cons (fun _ h => Sep.cons (fun _ h => Sep.cons (fun H h => h.pick p5) h) h) h) (Sep.cons (fun _ h => Sep.cons (fun _ h => Sep.cons (fun H h => h.pick p4) h) h) (Sep.cons (fun _ h => Sep.cons (fun H h => h.pick p3) h) (Sep.cons (fun H h => h.pick p2) (S.pick p1))))))
theorem Sep.fr8 {cs d1 d2 d3 d4 d5 d6 d7 d8 : List As} {H : Hp} (S : Sep cs H) (c1 c2 c3 c4 c5 c6 c7 c8 : As) (p1 : Pick c1 cs d1 := by wtm_at "pk") (p2 : Pick c2 d1 d2 := by wtm_at "pk") (p3 : Pick c3 d2 d3 := by wtm_at "pk") (p4 : Pick c4 d3 d4 := by wtm_at "pk") (p5 : Pick c5 d4 d5 := by wtm_at "pk") (p6 : Pick c6 d5 d6 := by wtm_at "pk") (p7 : Pick c7 d6 d7 := by wtm_at "pk") (p8 : Pick c8 d7 d8 := by wtm_at "pk") : Sep (c1 :: c2 :: c3 :: c4 :: c5 :: c6 :: c7 :: c8 :: d8) H := Sep.cons (fun _ h => Sep.cons (fun _ h => Sep.cons (fun _ h => Sep.cons (fun _ h => Sep.cons (fun _ h => Sep.cons (fun _ h => Sep.cons (fun H h => h.pick p8) h) h) h) h) h) h) (Sep.cons (fun _ h => Sep.cons (fun _ h => Sep.cons (fun _ h => Sep.cons (fun _ h => Sep.cons (fun _ h => Sep.cons (fun H h => h.pick p7) h) h) h) h) h) (Sep.cons (fun _ h => Sep.cons (fun _ h => Sep.cons (fun _ h => Sep.cons (fun _ h => Sep.cons (fun H h => h.pick p6) h) h) h) h) (Sep.cons (fun _ h => Sep.cons (fun _ h => Sep.cons (fun _ h => Sep.cons (fun H h => h.pick p5) h) h) h) (Sep.cons (fun _ h => Sep.cons (fun _ h => Sep.cons (fun H h => h.pick p4) h) h) (Sep.cons (fun _ h => Sep.cons (fun H h => h.pick p3) h) (Sep.cons (fun H h => h.pick p2) (S.pick p1)))))))
theorem Sep.addP {c : As} {cs : List As} {H : Hp} (h : Sep cs H) (p : Pers c) (q : c H) : Sep (c :: cs) H :=
  ⟨tupsOf H, H, tupsOf_le, Le.refl _, fun x u e u' e' => by
    have := tupsOf_le _ _ e
    rw [this] at e'; cases e'
    exact ⟨tupsOf_imm e, tupsOf_imm e⟩, p _ q, h⟩
theorem Sep.bigP {ks : List PySem.Str} {f : PySem.Str → As} {l : PySem.Str} {F : List As} {H : Hp} (h : Sep (f l :: big (ks.erase l) f :: F) H) (m : l ∈ ks) : Sep (big ks f :: F) H := by
  have h1 : Sep (f l :: ((ks.erase l).map f ++ F)) H := Sep.cons (fun _ h => Sep.flat h) h
  have p : ∀ {ks : List PySem.Str}, l ∈ ks → Pick (f l) (ks.map f ++ F) ((ks.erase l).map f ++ F) := by
    intro ks
    induction ks with
    | nil => intro m; simp at m
    | cons k ks ih =>
      intro m
      by_cases e : k = l
      · subst e; simp only [List.erase_cons_head, List.map_cons, List.cons_append]; exact .here
      · rw [List.erase_cons_tail (by simpa using e)]
        simp only [List.map_cons, List.cons_append]
        exact .there (ih (by rcases List.mem_cons.mp m with r | r; · exact absurd r.symm e
                             · exact r))
  exact (Sep.unpick (p m) h1).unflat
/-! # a field that grows by a written number -/
def FAug (K : PySem.W.Frag) (f : PySem.Str) (j : Int) (x : V) (R : Hp → Prop) (H : Hp) : Prop := ∃ a C dx fs i, x = .ref a ∧ H a = some (.ins C dx fs) ∧ Cls K C ∧ NoAttr K C f ∧ fs.lookup f = some (.int i) ∧ fs.length < 1000 ∧ R (upd H a (.ins C dx (putF f (.int (i + j)) fs)))
section
variable {K : PySem.W.Frag} {H : Hp} {σ : St} {a C dx : Addr} {cs ds cs' : List As} {ns : List PySem.Str} {fs fs' : List (PySem.Str × V)} {f : PySem.Str} {R : Hp → Prop} {ta : TE} {i j : Int} {D : Ends} {t2 : TS} {tv : TE} {rd : V → V → Hp → VK → Prop}
instance : Stp (tSeq (sFldAug K ta tv rd f) t2 D σ H) (sFldAug K ta tv rd f { D with nx := t2 D } σ H) := ⟨id⟩
instance : Stp (sFldAug K ta (tC (.int j)) rAdd f D σ H) (ta σ H fun x H1 => FAug K f j x (fun H2 => D.nx σ H2) H1) := ⟨fun k => by
  show ta σ H _
  exact (show ta σ H (fun x H1 => ∃ a C dx fs v, x = .ref a ∧ H1 a = some (.ins C dx fs) ∧ Cls K C ∧ NoAttr K C f ∧ fs.lookup f = some v ∧
    tC (.int j) σ H1 fun y H2 => rAdd v y H2 fun z H3 => ∃ dx' fs', H3 a = some (.ins C dx' fs') ∧ fs'.length < 1000 ∧ D.nx σ (upd H3 a (.ins C dx' (putF f z fs')))) from by
      have e : (fun x H1 => FAug K f j x (fun H2 => D.nx σ H2) H1) = (fun x H1 => ∃ a C dx fs v, x = .ref a ∧ H1 a = some (.ins C dx fs) ∧ Cls K C ∧ NoAttr K C f ∧ fs.lookup f = some v ∧
        tC (.int j) σ H1 fun y H2 => rAdd v y H2 fun z H3 => ∃ dx' fs', H3 a = some (.ins C dx' fs') ∧ fs'.length < 1000 ∧ D.nx σ (upd H3 a (.ins C dx' (putF f z fs')))) := by
        funext x H1
        refine propext ⟨fun ⟨a, C, dx, fs, i, h1, h2, h3, h4, h5, h6, h7⟩ => ⟨a, C, dx, fs, .int i, h1, h2, h3, h4, h5, i, j, rfl, rfl, dx, fs, h2, h6, h7⟩, ?_⟩
        rintro ⟨a, C, dx, fs, v, h1, h2, h3, h4, h5, i, j', rfl, e, dx', fs', h6, h7, h8⟩
        cases e
        rw [h2] at h6
        cases h6
        exact ⟨a, C, dx, fs, i, h1, h2, h3, h4, h5, h7, h8⟩
      rw [← e]; exact k)⟩
theorem s_faugA (S : Sep cs H) (p : Pick (pt a (.ins C dx fs)) cs ds) (T : FT K C ns) (h : f ∈ ns) (l : Lk fs f (.int i)) (l2 : Pf fs f (.int (i + j)) fs') (g : Chg (pt a (.ins C dx fs)) (pt a (.ins C dx fs')) cs cs') (k : ∀ H', Sep cs' H' → R H') : FAug K f j (.ref a) R H :=
  ⟨a, C, dx, fs, i, rfl, S.get p, T.cls, T.na f h, l.lk, l2.n, by rw [l2.pf]; exact k _ (S.set g rfl)⟩
end
/-! # a dict whose values stand for chunks -/
def mapV (a : Addr) (ks : List PySem.Str) (g : PySem.Str → V → As) : As := ex fun wv : PySem.Str → V => star [pt a (.dK (dm ks wv)), big ks (fun l => g l (wv l))]
def mapH (a : Addr) (ks : List PySem.Str) (g : PySem.Str → V → As) (l : PySem.Str) (v : V) : As := ex fun wv : PySem.Str → V => star [pu (wv l = v), pt a (.dK (dm ks wv)), big (ks.erase l) (fun x => g x (wv x))]
theorem Sep.mopen {a : Addr} {ks : List PySem.Str} {g : PySem.Str → V → As} {l : PySem.Str} {F : List As} {H : Hp} (h : Sep (mapV a ks g :: F) H) (m : l ∈ ks) : ∃ v kvs, valV kvs (.inr l) = some v ∧ H a = some (.dK kvs) ∧ Sep (g l v :: mapH a ks g l v :: F) H := by
  obtain ⟨wv, h⟩ := Sep.ex h
  have h := Sep.flat h
  refine ⟨wv l, dm ks wv, valV_in m, h.hd, ?_⟩
  have h2 : Sep (big ks (fun l => g l (wv l)) :: pt a (.dK (dm ks wv)) :: F) H := Sep.swap h
  have h3 := Sep.bigO h2 m
  refine Sep.cons (fun H h => Sep.exI wv ?_) h3
  exact Sep.unflat (ps := [Zs.pu (wv l = wv l), pt a (.dK (dm ks wv)), big (ks.erase l) (fun x => g x (wv x))]) (Sep.puI rfl (Sep.swap h))
theorem Sep.mclose {a : Addr} {ks : List PySem.Str} {g g' : PySem.Str → V → As} {l : PySem.Str} {v : V} {F : List As} {H : Hp} (h : Sep (g' l v :: mapH a ks g l v :: F) H) (m : l ∈ ks) (nd : ks.Nodup) (e : ∀ x ∈ ks, x ≠ l → g x = g' x) : Sep (mapV a ks g' :: F) H := by
  have h1 := Sep.ex (Sep.swap h)
  obtain ⟨wv, h1⟩ := h1
  have h2 := Sep.flat h1
  obtain ⟨e1, h2⟩ := Sep.pu h2
  subst e1
  refine Sep.exI wv (Sep.unflat (ps := [_, _]) (Sep.cons (fun H h => ?_) h2))
  exact Sep.bigC (f := fun x => g x (wv x)) (g := fun x => g' x (wv x)) (Sep.swap h) m nd (fun x hx hn => by rw [e x hx hn])
/-- v is laid at l -/
theorem Sep.mput {a : Addr} {ks : List PySem.Str} {g g' : PySem.Str → V → As} {l : PySem.Str} {v : V} {F : List As} {H : Hp} (h : Sep (g' l v :: mapV a ks g :: F) H) (m : l ∈ ks) (nd : ks.Nodup) (e : ∀ x ∈ ks, x ≠ l → g x = g' x) :
    ∃ kvs, H a = some (.dK kvs) ∧ kvs.length = ks.length ∧ Sep (mapV a ks g' :: F) (upd H a (.dK (putK kvs (.inr l) v))) := by
  obtain ⟨wv, h1⟩ := Sep.ex (Sep.swap h)
  have h2 := Sep.flat h1
  refine ⟨dm ks wv, h2.hd, dm_len, ?_⟩
  rw [putK_old m]
  have h3 := Sep.setHd (o' := .dK (dm ks fun x => if x = l then v else wv x)) h2 rfl
  refine Sep.exI (fun x => if x = l then v else wv x) (Sep.unflat (ps := [_, _]) (Sep.cons (fun H h => ?_) h3))
  have h4 := Sep.cons (fun _ h => h.tail) (Sep.bigO (show Sep (big ks (fun l => g l (wv l)) :: g' l v :: F) H from h) m)
  have h5 : Sep (big (ks.erase l) (fun x => g x (wv x)) :: g' l v :: F) H := Sep.tail (Sep.bigO (show Sep (big ks (fun l => g l (wv l)) :: g' l v :: F) H from h) m)
  refine Sep.bigC (f := fun x => g x (wv x)) (g := fun x => g' x (if x = l then v else wv x)) (l := l) ?_ m nd (fun x hx hn => by rw [if_neg hn, e x hx hn])
  rw [if_pos rfl]
  exact Sep.swap h5
theorem Sep.madd {a : Addr} {ks : List PySem.Str} {g g' : PySem.Str → V → As} {l : PySem.Str} {v : V} {F : List As} {H : Hp} (h : Sep (g' l v :: mapV a ks g :: F) H) (m : l ∉ ks) (e : ∀ x ∈ ks, g x = g' x) :
    ∃ kvs, H a = some (.dK kvs) ∧ kvs.length = ks.length ∧ Sep (mapV a (ks ++ [l]) g' :: F) (upd H a (.dK (putK kvs (.inr l) v))) := by
  obtain ⟨wv, h1⟩ := Sep.ex (Sep.swap h)
  have h2 := Sep.flat h1
  refine ⟨dm ks wv, h2.hd, dm_len, ?_⟩
  rw [putK_add m]
  have h3 := Sep.setHd (o' := .dK (dm (ks ++ [l]) fun x => if x = l then v else wv x)) h2 rfl
  refine Sep.exI (fun x => if x = l then v else wv x) (Sep.unflat (ps := [_, _]) (Sep.cons (fun H h => ?_) h3))
  refine Sep.bigN (ks := ks) (f := fun x => g x (wv x)) (g := fun x => g' x (if x = l then v else wv x)) (l := l) ?_ m (fun x hx => ?_)
  · rw [if_pos rfl]
    exact Sep.swap h
  · have : x ≠ l := fun z => m (z ▸ hx)
    rw [if_neg this, e x hx]
theorem Sep.m0 {a : Addr} {g : PySem.Str → V → As} {F : List As} {H : Hp} (h : Sep (pt a (.dK []) :: F) H) : Sep (mapV a [] g :: F) H :=
  Sep.exI (fun _ => V.non) (Sep.unflat (ps := [_, _]) (Sep.cons (fun _ h => h.big0) h))
theorem Sep.mMap {a : Addr} {ks : List PySem.Str} {g g' : PySem.Str → V → As} {F : List As} {H : Hp} (h : Sep (mapV a ks g :: F) H) (e : ∀ x ∈ ks, g x = g' x) : Sep (mapV a ks g' :: F) H := by
  obtain ⟨wv, h1⟩ := Sep.ex h
  have h2 := Sep.flat h1
  exact Sep.exI wv (Sep.unflat (ps := [_, _]) (Sep.cons (fun _ h => Sep.bigMap h fun x hx => by rw [e x hx]) h2))
theorem Sep.mGet {a : Addr} {ks : List PySem.Str} {g : PySem.Str → V → As} {cs ds : List As} {H : Hp} (h : Sep cs H) (p : Pick (mapV a ks g) cs ds) : ∃ wv, H a = some (.dK (dm ks wv)) := by
  obtain ⟨wv, h1⟩ := Sep.ex (h.pick p)
  exact ⟨wv, (Sep.flat h1).hd⟩
section
variable {K : PySem.W.Frag} {H : Hp} {Q : VK} {R : Hp → Prop} {a : Addr} {ks : List PySem.Str} {g g' : PySem.Str → V → As} {l : PySem.Str} {v : V} {cs ds : List As}
theorem s_mget (S : Sep cs H) (p : Pick (mapV a ks g) cs ds) (m : l ∈ ks) (k : ∀ v, Sep (g l v :: mapH a ks g l v :: ds) H → Q v H) : DG (.ref a) (.str l) Q H := by
  obtain ⟨v, kvs, h1, h2, h3⟩ := Sep.mopen (S.pick p) m
  exact ⟨a, v, rfl, h1 ▸ DGet.k (k := .inr l) h2, k v h3⟩
theorem s_mput (p : Pick (mapV a ks g) cs ds) (g' : PySem.Str → V → As) (S : Sep (g' l v :: cs) H) (m : l ∈ ks) (nd : ks.Nodup) (n : ks.length ≤ 100000) (e : ∀ x ∈ ks, x ≠ l → g x = g' x) (k : ∀ H', Sep (mapV a ks g' :: ds) H' → R H') : DP (.ref a) (.str l) v R H := by
  obtain ⟨kvs, h1, h2, h3⟩ := Sep.mput (Sep.cons (fun _ h => h.pick p) S) m nd e
  exact ⟨a, _, rfl, DPut.k (k := .inr l) h1 (by rw [h2]; exact Nat.lt_of_le_of_lt n (by decide)), k _ h3⟩
theorem s_madd (p : Pick (mapV a ks g) cs ds) (g' : PySem.Str → V → As) (S : Sep (g' l v :: cs) H) (m : l ∉ ks) (n : ks.length ≤ 100000) (e : ∀ x ∈ ks, g x = g' x) (k : ∀ H', Sep (mapV a (ks ++ [l]) g' :: ds) H' → R H') : DP (.ref a) (.str l) v R H := by
  obtain ⟨kvs, h1, h2, h3⟩ := Sep.madd (Sep.cons (fun _ h => h.pick p) S) m e
  exact ⟨a, _, rfl, DPut.k (k := .inr l) h1 (by rw [h2]; exact Nat.lt_of_le_of_lt n (by decide)), k _ h3⟩
theorem s_mIn (S : Sep cs H) (p : Pick (mapV a ks g) cs ds) (k : Q (.bl (decide (l ∈ ks))) H) : DI (.ref a) (.str l) false Q H := by
  obtain ⟨wv, h⟩ := S.mGet p
  refine ⟨a, _, rfl, DGet.k (k := .inr l) h, ?_⟩
  rw [valV_dm]
  by_cases h : l ∈ ks
  · rw [if_pos h]; rw [decide_eq_true h] at k; exact k
  · rw [if_neg h]; rw [decide_eq_false h] at k; exact k
theorem s_mNi (S : Sep cs H) (p : Pick (mapV a ks g) cs ds) (k : Q (.bl (!decide (l ∈ ks))) H) : DI (.ref a) (.str l) true Q H := by
  obtain ⟨wv, h⟩ := S.mGet p
  refine ⟨a, _, rfl, DGet.k (k := .inr l) h, ?_⟩
  rw [valV_dm]
  by_cases h : l ∈ ks
  · rw [if_pos h]; rw [decide_eq_true h] at k; exact k
  · rw [if_neg h]; rw [decide_eq_false h] at k; exact k
end
/-- values that are lists -/
def lstA (f : PySem.Str → List V) (l : PySem.Str) (v : V) : As := fun H => ∃ p, v = .ref p ∧ H p = some (.lst (f l))
def lsIA (f : PySem.Str → List PyData) (l : PySem.Str) (v : V) : As := fun H => ∃ p, v = .ref p ∧ lsI p (f l) H
def imA (f : PySem.Str → PyData) (l : PySem.Str) (v : V) : As := im v (f l)
theorem Sep.lstO {f : PySem.Str → List V} {l : PySem.Str} {v : V} {F : List As} {H : Hp} (h : Sep (lstA f l v :: F) H) : ∃ p, v = .ref p ∧ Sep (pt p (.lst (f l)) :: F) H := by
  obtain ⟨H1, H2, a, b, d, ⟨p, e, q⟩, y⟩ := h
  exact ⟨p, e, H1, H2, a, b, d, q, y⟩
theorem Sep.lstC {f : PySem.Str → List V} {l : PySem.Str} {p : Addr} {xs : List V} {F : List As} {H : Hp} (h : Sep (pt p (.lst xs) :: F) H) (e : xs = f l) : Sep (lstA f l (.ref p) :: F) H := h.imp fun _ q => ⟨p, rfl, e ▸ q⟩
theorem Sep.lsIO {f : PySem.Str → List PyData} {l : PySem.Str} {v : V} {F : List As} {H : Hp} (h : Sep (lsIA f l v :: F) H) : ∃ p, v = .ref p ∧ Sep (lsI p (f l) :: F) H := by
  obtain ⟨H1, H2, a, b, d, ⟨p, e, q⟩, y⟩ := h
  exact ⟨p, e, H1, H2, a, b, d, q, y⟩
theorem Sep.lsIC {f : PySem.Str → List PyData} {l : PySem.Str} {p : Addr} {ds : List PyData} {F : List As} {H : Hp} (h : Sep (lsI p ds :: F) H) (e : ds = f l) : Sep (lsIA f l (.ref p) :: F) H := h.imp fun _ q => ⟨p, rfl, e ▸ q⟩
/-! # the hall's heap -/
def oV : Option PySem.Str → V
  | none => .non
  | some l => .str l
def oI (ls : List PySem.Str) : Option PySem.Str → V
  | none => .non
  | some l => .int (ls.idxOf l : Nat)
def oW : Option Wy → PyData
  | none => .none
  | some y => y.d
def oS : Option PySem.Str → PyData
  | none => .none
  | some l => .str l
def trD (p : PySem.Str × Nat) : PyData := .tuple [.str p.1, .int p.2]
def Rc.rkS (r : Rc) : Rk := ⟨r.held.map oV, r.brk, r.tak⟩
def Rc.rkI (r : Rc) (ls : List PySem.Str) : Rk := ⟨r.held.map (oI ls), r.brk, r.tak⟩
def skF (rk : PySem.Str → Rc) (ls : List PySem.Str) (sp st : List Int) (m : Nat) : Sk := ⟨(rk "").rkI ls, ls.length, sp, st, m⟩
@[reducible] def Hs.sk (h : Hs) : Sk := skF h.rk h.lines h.spots h.steps h.mark
/-- a rack, of either kind -/
def rvF (rk : PySem.Str → Rc) (ls : List PySem.Str) (sp st : List Int) (m : Nat) (w : PySem.Str) : Sum Sk Rk := if w = "" then .inl (skF rk ls sp st m) else .inr (rk w).rkS
@[reducible] def Hs.rv (h : Hs) (w : PySem.Str) : Sum Sk Rk := rvF h.rk h.lines h.spots h.steps h.mark w
def rvK : Sum Sk Rk → Rk
  | .inl s => s.r
  | .inr r => r
def rvW : Sum Sk Rk → Rk → Sum Sk Rk
  | .inl s, r => .inl { s with r := r }
  | .inr _, r => .inr r
def callC (ad : Ad) (a : Addr) (r : Ln) : As := ex fun x : Addr × Addr × V => star [pt a (.ins ad.Call x.1 (callF r.way.s r.figs r.many x.2.1 (oV r.en) x.2.2)), lsI x.2.1 (r.train.map trD), im x.2.2 (oW r.why)]
def rackC (ad : Ad) (a : Addr) : Sum Sk Rk → As
  | .inl s => ex fun B : SL => star (pu (B.p = a ∧ B.C = ad.Seekers) :: skC B s [])
  | .inr r => ex fun L : RL => star (pu (L.p = a ∧ L.C = ad.Group ∧ L.more = []) :: rkC L r [])
structure Pd where
  long : Nat
  lines : List PySem.Str
  sk : Nat
  gs : List Pr
/-- where a plan stands -/
structure PL where
  d : Pd
  p : Addr
  dx : Addr
  l : Addr
  o : Obj
  g : Addr
  o2 : Obj
  gx : List V
@[reducible] def planC (ad : Ad) (B : PL) (F : List As) : List As :=
  pt B.p (.ins ad.Plan B.dx (planF B.d.long B.l B.d.sk B.g)) :: pt B.l (.frz B.o (.tup (B.d.lines.map V.str))) :: pt B.g (.frz B.o2 (.tup B.gx)) :: ims B.gx (B.d.gs.map gD) :: F
structure HL where
  pl : PL
  p : Addr
  dx : Addr
  a1 : Addr
  a2 : Addr
  a3 : Addr
  a4 : Addr
  ca : PySem.Str → Addr
  ra : PySem.Str → Addr
@[reducible] def hallC (ad : Ad) (B : HL) (h : Hs) (F : List As) : List As :=
  pt B.p (.ins ad.Hall B.dx (hallF B.pl.p B.a1 B.a2 B.a3 B.a4)) :: pt B.a1 (.dK (dm h.lines fun l => .ref (B.ca l))) :: big h.lines (fun l => callC ad (B.ca l) (h.ln l)) ::
  pt B.a2 (.dK (dm h.wheres fun w => .ref (B.ra w))) :: big h.wheres (fun w => rackC ad (B.ra w) (h.rv w)) :: pt B.a3 (.lst (h.queue.map V.str)) :: lsI B.a4 (h.done.map Dd.d) :: F
/-- the plan is the hall's -/
structure Gd (B : HL) (h : Hs) : Prop where
  long : B.pl.d.long = h.long
  lines : B.pl.d.lines = h.lines
  dict : B.pl.o.dict = none
/-! ### opening and closing -/
theorem Sep.callO {ad : Ad} {a : Addr} {r : Ln} {F : List As} {H : Hp} (h : Sep (callC ad a r :: F) H) : ∃ dx t y, Sep (pt a (.ins ad.Call dx (callF r.way.s r.figs r.many t (oV r.en) y)) :: lsI t (r.train.map trD) :: im y (oW r.why) :: F) H := by
  obtain ⟨⟨dx, t, y⟩, h⟩ := Sep.ex h
  exact ⟨dx, t, y, Sep.flat h⟩
theorem Sep.callC {ad : Ad} {a dx t : Addr} {y : V} {r : Ln} {w f : PySem.Str} {m : Int} {e : V} {ds : List PyData} {d : PyData} {F : List As} {H : Hp} (h : Sep (pt a (.ins ad.Call dx (callF w f m t e y)) :: lsI t ds :: im y d :: F) H)
    (h1 : w = r.way.s) (h2 : f = r.figs) (h3 : m = r.many) (h4 : e = oV r.en) (h5 : ds = r.train.map trD) (h6 : d = oW r.why) : Sep (Zs.callC ad a r :: F) H := by
  subst h1 h2 h3 h4 h5 h6
  exact Sep.exI (dx, t, y) (Sep.unflat (ps := [_, _, _]) h)
theorem Sep.lineB {ad : Ad} {ca : PySem.Str → Addr} {ls : List PySem.Str} {ln : PySem.Str → Ln} {l : PySem.Str} {dx t : Addr} {w : PySem.Str} {F : List As} {H : Hp} (W : Way)
    (h : Sep (pt (ca l) (.ins ad.Call dx (callF w "" 0 t .non .non)) :: pt t (.lst []) :: big (ls.erase l) (fun l => Zs.callC ad (ca l) (ln l)) :: F) H) (m : l ∈ ls) (nd : ls.Nodup) (h1 : w = W.s) :
    Sep (big ls (fun x => Zs.callC ad (ca x) (Zs.up ln l { way := W } x)) :: F) H := by
  have h2 := Sep.callC (r := { way := W }) (d := .none) (ds := []) (Sep.cons (fun H h => Sep.lsC (Sep.cons (fun _ h => Sep.ims0 (Sep.imN h)) h)) h) h1 rfl rfl rfl rfl rfl
  refine Sep.bigC (f := fun l => Zs.callC ad (ca l) (ln l)) (g := fun x => Zs.callC ad (ca x) (Zs.up ln l { way := W } x)) (l := l) ?_ m nd (fun x _ hn => by rw [up_ne hn])
  rw [up_same]
  exact h2
/-- the record of the line l is taken out -/
theorem Sep.lineO {ad : Ad} {ca : PySem.Str → Addr} {ls : List PySem.Str} {ln : PySem.Str → Ln} {l : PySem.Str} {cs ds : List As} {H : Hp} (h : Sep cs H) (p : Pick (big ls fun l => Zs.callC ad (ca l) (ln l)) cs ds) (m : l ∈ ls) :
    ∃ dx t y, Sep (pt (ca l) (.ins ad.Call dx (callF (ln l).way.s (ln l).figs (ln l).many t (oV (ln l).en) y)) :: lsI t ((ln l).train.map trD) :: im y (oW (ln l).why) :: big (ls.erase l) (fun l => Zs.callC ad (ca l) (ln l)) :: ds) H := by
  exact Sep.callO (Sep.bigO (h.pick p) m)
/-- and put back, changed -/
theorem Sep.lineC {ad : Ad} {ca : PySem.Str → Addr} {ls : List PySem.Str} {ln : PySem.Str → Ln} {l : PySem.Str} {dx t : Addr} {y : V} {w f : PySem.Str} {k : Int} {e : V} {dd : List PyData} {d : PyData} {F : List As} {H : Hp} (r : Ln)
    (h : Sep (pt (ca l) (.ins ad.Call dx (callF w f k t e y)) :: lsI t dd :: im y d :: big (ls.erase l) (fun l => Zs.callC ad (ca l) (ln l)) :: F) H) (m : l ∈ ls) (nd : ls.Nodup)
    (h1 : w = r.way.s) (h2 : f = r.figs) (h3 : k = r.many) (h4 : e = oV r.en) (h5 : dd = r.train.map trD) (h6 : d = oW r.why) :
    Sep (big ls (fun x => Zs.callC ad (ca x) (Zs.up ln l r x)) :: F) H := by
  have h7 := Sep.callC (r := r) h h1 h2 h3 h4 h5 h6
  refine Sep.bigC (f := fun l => Zs.callC ad (ca l) (ln l)) (g := fun x => Zs.callC ad (ca x) (Zs.up ln l r x)) (l := l) ?_ m nd (fun x _ hn => by rw [up_ne hn])
  rw [up_same]
  exact h7
/-- put back as it was -/
theorem Sep.lineC' {ad : Ad} {ca : PySem.Str → Addr} {ls : List PySem.Str} {ln : PySem.Str → Ln} {l : PySem.Str} {dx t : Addr} {y : V} {F : List As} {H : Hp}
    (h : Sep (pt (ca l) (.ins ad.Call dx (callF (ln l).way.s (ln l).figs (ln l).many t (oV (ln l).en) y)) :: lsI t ((ln l).train.map trD) :: im y (oW (ln l).why) :: big (ls.erase l) (fun l => Zs.callC ad (ca l) (ln l)) :: F) H) (m : l ∈ ls) :
    Sep (big ls (fun x => Zs.callC ad (ca x) (ln x)) :: F) H := Sep.bigP (Sep.callC (r := ln l) h rfl rfl rfl rfl rfl rfl) m
/-- list(l) of such data -/
theorem s_listI {K : PySem.W.Frag} {a : Addr} {dd : List PyData} {cs ds : List As} {H : Hp} {Q : VK} (S : Sep cs H) (p : Pick (lsI a dd) cs ds) (k : ∀ q H', Sep (lsI q dd :: cs) H' → Q (.ref q) H') : rListOf K [.ref a] H Q := by
  obtain ⟨xs, h1, h2⟩ := S.lsGet p
  refine ⟨a, xs, rfl, .inl (SqL.of h1), fun l hl => k l _ ?_⟩
  have S1 := (S.addP pers_ims h2).new (o := .lst xs) hl
  exact Sep.lsC S1
theorem sk_nmF : ∀ m ∈ rackMeths, List.lookup m ([] : List (PySem.Str × V)) = none := fun _ _ => rfl
/-- a rack as a rack -/
theorem Sep.rackO {ad : Ad} {a : Addr} {v : Sum Sk Rk} {F : List As} {H : Hp} (h : Sep (rackC ad a v :: F) H) :
    ∃ (L : RL) (F' : List As), L.p = a ∧ L.good [ad.Seekers, ad.Group] ∧ Sep (rkC L (rvK v) F') H ∧ ∀ r' H', Sep (rkC L r' F') H' → Sep (rackC ad a (rvW v r') :: F) H' := by
  cases v with
  | inl s =>
    obtain ⟨B, h⟩ := Sep.ex h
    have h := Sep.flat h
    obtain ⟨⟨e1, e2⟩, h⟩ := Sep.pu h
    refine ⟨skL B s, _, e1, skL_good (by rw [e2]; exact List.mem_cons_self), h, fun r' H' h' => ?_⟩
    refine Sep.exI B (Sep.unflat (Sep.puI ⟨e1, e2⟩ ?_))
    exact h'
  | inr r =>
    obtain ⟨L, h⟩ := Sep.ex h
    have h := Sep.flat h
    obtain ⟨⟨e1, e2, e3⟩, h⟩ := Sep.pu h
    refine ⟨L, F, e1, ⟨by rw [e2]; exact List.mem_cons_of_mem _ List.mem_cons_self, by rw [e3]; exact sk_nmF⟩, h, fun r' H' h' => ?_⟩
    refine Sep.exI L (Sep.unflat (Sep.puI ⟨e1, e2, e3⟩ ?_))
    exact h'
theorem Sep.seekO {ad : Ad} {a : Addr} {s : Sk} {F : List As} {H : Hp} (h : Sep (rackC ad a (.inl s) :: F) H) : ∃ B : SL, B.p = a ∧ B.C = ad.Seekers ∧ Sep (skC B s F) H := by
  obtain ⟨B, h⟩ := Sep.ex h
  have h := Sep.flat h
  obtain ⟨⟨e1, e2⟩, h⟩ := Sep.pu h
  exact ⟨B, e1, e2, h⟩
theorem Sep.seekC {ad : Ad} {B : SL} {s : Sk} {F : List As} {H : Hp} (h : Sep (skC B s F) H) (e : B.C = ad.Seekers) : Sep (rackC ad B.p (.inl s) :: F) H := Sep.exI B (Sep.unflat (Sep.puI ⟨rfl, e⟩ h))
theorem Sep.grpO {ad : Ad} {a : Addr} {r : Rk} {F : List As} {H : Hp} (h : Sep (rackC ad a (.inr r) :: F) H) : ∃ L : RL, L.p = a ∧ L.C = ad.Group ∧ L.more = [] ∧ Sep (rkC L r F) H := by
  obtain ⟨B, h⟩ := Sep.ex h
  have h := Sep.flat h
  obtain ⟨⟨e1, e2, e3⟩, h⟩ := Sep.pu h
  exact ⟨B, e1, e2, e3, h⟩
theorem Sep.grpC {ad : Ad} {L : RL} {r : Rk} {F : List As} {H : Hp} (h : Sep (rkC L r F) H) (e : L.C = ad.Group) (e2 : L.more = []) : Sep (rackC ad L.p (.inr r) :: F) H := Sep.exI L (Sep.unflat (Sep.puI ⟨rfl, e, e2⟩ h))
/-! ### racks, told either way -/
theorem oV_non {o : Option PySem.Str} : oV o = .non ↔ o = none := by cases o <;> simp [oV]
theorem oI_non {ls : List PySem.Str} {o : Option PySem.Str} : oI ls o = .non ↔ o = none := by cases o <;> simp [oI]
theorem map_get {e : Option PySem.Str → V} (he : ∀ o, e o = .non ↔ o = none) (xs : List (Option PySem.Str)) (i : Nat) : ((xs.map e)[i]? = some .non) ↔ xs[i]? = some none := by
  rw [List.getElem?_map]
  cases h : xs[i]? with
  | none => simp
  | some o => simp [he]
theorem rdy_enc {e : Option PySem.Str → V} (he : ∀ o, e o = .non ↔ o = none) (r : Rc) : Rk.rdy ⟨r.held.map e, r.brk, r.tak⟩ = r.rdy := by
  funext i
  unfold Rk.rdy Rc.rdy
  dsimp only
  rw [decide_eq_decide.mpr (map_get he r.held i)]
theorem rkS_rdy (r : Rc) : r.rkS.rdy = r.rdy := rdy_enc (fun _ => oV_non) r
theorem rkI_rdy (r : Rc) (ls : List PySem.Str) : (r.rkI ls).rdy = r.rdy := rdy_enc (fun _ => oI_non) r
theorem rkS_len (r : Rc) : r.rkS.held.length = r.held.length := List.length_map ..
theorem rkI_len (r : Rc) (ls : List PySem.Str) : (r.rkI ls).held.length = r.held.length := List.length_map ..
theorem rkS_first (r : Rc) : r.rkS.first = r.first := by unfold Rk.first Rc.first; rw [rkS_len, rkS_rdy]
theorem rkS_give (r : Rc) (k : Nat) (l : PySem.Str) : r.rkS.give k (.str l) = (r.give k l).rkS := by
  unfold Rk.give Rc.give Rc.rkS
  dsimp only
  rw [List.map_set]; rfl
theorem rkI_give (r : Rc) (ls : List PySem.Str) (k : Nat) (l : PySem.Str) : (r.rkI ls).give k (.int (ls.idxOf l : Nat)) = (r.give k l).rkI ls := by
  unfold Rk.give Rc.give Rc.rkI
  dsimp only
  rw [List.map_set]; rfl
theorem rkS_free (r : Rc) (k : Nat) : r.rkS.free k = (r.free k).rkS := by unfold Rk.free Rc.free Rc.rkS; dsimp only; rw [List.map_set]; rfl
theorem rkI_free (r : Rc) (ls : List PySem.Str) (k : Nat) : (r.rkI ls).free k = (r.free k).rkI ls := by unfold Rk.free Rc.free Rc.rkI; dsimp only; rw [List.map_set]; rfl
theorem rkS_brk (r : Rc) (k : Nat) (b : Bool) : r.rkS.brkAt k b = (r.brkAt k b).rkS := rfl
theorem rkI_brk (r : Rc) (ls : List PySem.Str) (k : Nat) (b : Bool) : (r.rkI ls).brkAt k b = (r.brkAt k b).rkI ls := rfl
theorem rkS_ok {r : Rc} (h : r.ok 60) : r.rkS.ok := ⟨by rw [rkS_len]; exact h.b, by rw [rkS_len]; exact h.t, by rw [rkS_len]; exact h.n⟩
theorem rkI_ok {r : Rc} (ls : List PySem.Str) (h : r.ok 60) : (r.rkI ls).ok := ⟨by rw [rkI_len]; exact h.b, by rw [rkI_len]; exact h.t, by rw [rkI_len]; exact h.n⟩
theorem rkS_said (r : Rc) (k : Nat) : r.rkS.said k = .str (r.said k) := by
  unfold Rk.said Rc.said Rc.rkS
  dsimp only
  have e : (r.held.map oV).getD k .non = oV (r.held.getD k none) := by
    rw [List.getD_eq_getElem?_getD, List.getD_eq_getElem?_getD, List.getElem?_map]
    cases r.held[k]? <;> rfl
  rw [e]
  cases r.held.getD k none with
  | none => show (if r.brk.getD k false = true then V.str "stuck" else V.str "free") = _; split <;> rfl
  | some l => rfl
theorem rkS_paper (r : Rc) : r.rkS.paper = r.paper.map V.str := by
  unfold Rk.paper Rc.paper
  rw [rkS_len, List.map_map]
  exact List.map_congr_left fun k _ => rkS_said r k
namespace Hs
theorem rv_rk {h : Hs} {w : PySem.Str} : (rvK (h.rv w)).held.length = (h.rk w).held.length ∧ (rvK (h.rv w)).tak = (h.rk w).tak ∧ (rvK (h.rv w)).brk = (h.rk w).brk := by
  unfold rv rvF
  split
  · rename_i e; subst e; exact ⟨rkI_len _ _, rfl, rfl⟩
  · exact ⟨rkS_len _, rfl, rfl⟩
theorem rv_get {h : Hs} {w : PySem.Str} {k : Nat} : (rvK (h.rv w)).held[k]? = some .non ↔ (h.rk w).held[k]? = some none := by
  unfold rv rvF
  split
  · rename_i e; subst e; exact map_get (fun _ => oI_non) _ _
  · exact map_get (fun _ => oV_non) _ _
theorem rv_ok {h : Hs} {w : PySem.Str} (o : (h.rk w).ok 60) : (rvK (h.rv w)).ok := by
  unfold rv rvF
  split
  · rename_i e; subst e; exact rkI_ok _ o
  · exact rkS_ok o
theorem rv_free {h : Hs} {w : PySem.Str} {k : Nat} : rvW (h.rv w) ((rvK (h.rv w)).free k) = (h.freeAt (w, k)).rv w := by
  unfold rv rvF
  split
  · rename_i e; subst e
    show Sum.inl _ = Sum.inl _
    unfold skF
    rw [show (h.freeAt ("", k)).rk "" = (h.rk "").free k from (up_same (f := h.rk) (l := ""))]
    rw [← rkI_free]; rfl
  · show Sum.inr _ = Sum.inr _
    rw [show (h.freeAt (w, k)).rk w = (h.rk w).free k from up_same]
    rw [← rkS_free]; rfl
theorem rv_brk {h : Hs} {w : PySem.Str} {k : Nat} {b : Bool} : rvW (h.rv w) ((rvK (h.rv w)).brkAt k b) = (h.setRk w ((h.rk w).brkAt k b)).rv w := by
  unfold rv rvF
  split
  · rename_i e; subst e
    show Sum.inl _ = Sum.inl _
    unfold skF
    rw [show (h.setRk "" ((h.rk "").brkAt k b)).rk "" = (h.rk "").brkAt k b from (up_same (f := h.rk) (l := ""))]
    rfl
  · show Sum.inr _ = Sum.inr _
    rw [show (h.setRk w ((h.rk w).brkAt k b)).rk w = (h.rk w).brkAt k b from up_same]
    rfl
theorem rv_else {h : Hs} {w x : PySem.Str} {r : Rc} (n : x ≠ w) : h.rv x = (h.setRk w r).rv x := by
  unfold rv rvF
  split
  · rename_i e; subst e
    show Sum.inl _ = Sum.inl _
    unfold skF
    rw [show (h.setRk w r).rk "" = h.rk "" from up_ne n]
    rfl
  · rw [show (h.setRk w r).rk x = h.rk x from up_ne n]
theorem rv_setLn {h : Hs} {l w : PySem.Str} {r : Ln} : (h.setLn l r).rv w = h.rv w := rfl
theorem rv_sk {h : Hs} : h.rv "" = .inl h.sk := if_pos rfl
theorem rv_grp {h : Hs} {w : PySem.Str} (n : w ≠ "") : h.rv w = .inr (h.rk w).rkS := if_neg n
end Hs
/-- a group is put back, changed -/
theorem Sep.grpBack {ad : Ad} {ra : PySem.Str → Addr} {ws : List PySem.Str} {rk : PySem.Str → Rc} {ls : List PySem.Str} {sp st : List Int} {m : Nat} {w : PySem.Str} {L : RL} {r : Rk} {F : List As} {H : Hp} (r' : Rc)
    (h : Sep (rkC L r (big (ws.erase w) (fun x => rackC ad (ra x) (rvF rk ls sp st m x)) :: F)) H) (er : r = r'.rkS) (eL : L.p = ra w) (eC : L.C = ad.Group) (eM : L.more = []) (hw : w ∈ ws) (nd : ws.Nodup) (n : w ≠ "") :
    Sep (big ws (fun x => rackC ad (ra x) (rvF (Zs.up rk w r') ls sp st m x)) :: F) H := by
  subst er
  have h1 := Sep.grpC h eC eM
  rw [eL] at h1
  refine Sep.bigC (f := fun x => rackC ad (ra x) (rvF rk ls sp st m x)) (g := fun x => rackC ad (ra x) (rvF (Zs.up rk w r') ls sp st m x)) (l := w) ?_ hw nd (fun x _ hn => ?_)
  · have : rvF (Zs.up rk w r') ls sp st m w = .inr r'.rkS := by unfold rvF; rw [if_neg n, up_same]
    rw [this]; exact h1
  · show rackC ad (ra x) _ = rackC ad (ra x) _
    congr 1
    unfold rvF
    split
    · rename_i e; subst e; unfold skF; rw [up_ne hn]
    · rw [up_ne hn]
theorem Sep.grpSame {ad : Ad} {ra : PySem.Str → Addr} {ws : List PySem.Str} {rk : PySem.Str → Rc} {ls : List PySem.Str} {sp st : List Int} {m : Nat} {w : PySem.Str} {L : RL} {F : List As} {H : Hp}
    (h : Sep (rkC L (rk w).rkS (big (ws.erase w) (fun x => rackC ad (ra x) (rvF rk ls sp st m x)) :: F)) H) (eL : L.p = ra w) (eC : L.C = ad.Group) (eM : L.more = []) (hw : w ∈ ws) (n : w ≠ "") :
    Sep (big ws (fun x => rackC ad (ra x) (rvF rk ls sp st m x)) :: F) H := by
  have h1 := Sep.grpC h eC eM
  rw [eL] at h1
  refine Sep.bigP (f := fun x => rackC ad (ra x) (rvF rk ls sp st m x)) (l := w) ?_ hw
  have : rvF rk ls sp st m w = .inr (rk w).rkS := by unfold rvF; rw [if_neg n]
  rw [this]; exact h1
/-- the seekers are put back, changed -/
theorem Sep.seekBack {ad : Ad} {ra : PySem.Str → Addr} {ws : List PySem.Str} {rk : PySem.Str → Rc} {ls : List PySem.Str} {sp st : List Int} {m : Nat} {B : SL} {s : Sk} {F : List As} {H : Hp} (r' : Rc) (sp' st' : List Int) (m' : Nat)
    (h : Sep (skC B s (big (ws.erase "") (fun x => rackC ad (ra x) (rvF rk ls sp st m x)) :: F)) H) (es : s = ⟨r'.rkI ls, ls.length, sp', st', m'⟩) (eL : B.p = ra "") (eC : B.C = ad.Seekers) (hw : ("" : PySem.Str) ∈ ws) (nd : ws.Nodup) :
    Sep (big ws (fun x => rackC ad (ra x) (rvF (Zs.up rk "" r') ls sp' st' m' x)) :: F) H := by
  subst es
  have h1 := Sep.seekC h eC
  rw [eL] at h1
  refine Sep.bigC (f := fun x => rackC ad (ra x) (rvF rk ls sp st m x)) (g := fun x => rackC ad (ra x) (rvF (Zs.up rk "" r') ls sp' st' m' x)) (l := "") ?_ hw nd (fun x _ hn => ?_)
  · have : rvF (Zs.up rk "" r') ls sp' st' m' "" = .inl ⟨r'.rkI ls, ls.length, sp', st', m'⟩ := by unfold rvF skF; rw [if_pos rfl, up_same]
    rw [this]; exact h1
  · show rackC ad (ra x) _ = rackC ad (ra x) _
    congr 1
    unfold rvF
    rw [if_neg hn, if_neg hn, up_ne hn]
theorem Sep.seekSame {ad : Ad} {ra : PySem.Str → Addr} {ws : List PySem.Str} {rk : PySem.Str → Rc} {ls : List PySem.Str} {sp st : List Int} {m : Nat} {B : SL} {F : List As} {H : Hp}
    (h : Sep (skC B (skF rk ls sp st m) (big (ws.erase "") (fun x => rackC ad (ra x) (rvF rk ls sp st m x)) :: F)) H) (eL : B.p = ra "") (eC : B.C = ad.Seekers) (hw : ("" : PySem.Str) ∈ ws) :
    Sep (big ws (fun x => rackC ad (ra x) (rvF rk ls sp st m x)) :: F) H := by
  have h1 := Sep.seekC h eC
  rw [eL] at h1
  refine Sep.bigP (f := fun x => rackC ad (ra x) (rvF rk ls sp st m x)) (l := "") ?_ hw
  have : rvF rk ls sp st m "" = .inl (skF rk ls sp st m) := by unfold rvF; rw [if_pos rfl]
  rw [this]; exact h1
end L2.Zs
namespace L2.Zs
open PySem PySem.Spec PyProof.Rows
/-! # what the hall's defs are worth -/
def erA (ad : Ad) : Er → Addr
  | .line => ad.NoLine
  | .switch => ad.NoSwitch
  | .notso => ad.NotSo
/-- a hall with its plan -/
@[reducible] def HC (ad : Ad) (B : HL) (h : Hs) (F : List As) : List As := hallC ad B h (planC ad B.pl F)
/-- what a call holds can be let go -/
structure TrOk (h : Hs) (l : PySem.Str) : Prop where
  nd : (h.ln l).train.Nodup
  held : ∀ p ∈ (h.ln l).train, p.1 ∈ h.wheres ∧ ∃ o, (h.rk p.1).held[p.2]? = some (some o)
theorem TrOk.of {h : Hs} (b : HB h.lines h.wheres h.rk (fun l => (h.ln l).train)) {l : PySem.Str} (hl : l ∈ h.lines) : TrOk h l :=
  ⟨b.trn l hl, fun p hp => ⟨b.trw l hl p hp, l, (b.hold p.1 (b.trw l hl p hp) p.2 l).mpr ⟨hl, hp⟩⟩⟩
theorem Hs.freeAll_succ {h : Hs} {tr : List (PySem.Str × Nat)} {i : Nat} {p : PySem.Str × Nat} (e : tr[i]? = some p) : h.freeAll (tr.take (i + 1)) = (h.freeAll (tr.take i)).freeAt p := by
  unfold Hs.freeAll
  rw [List.take_succ, e, List.foldl_append]
  rfl
theorem TrOk.at_ {h : Hs} {l : PySem.Str} (o : TrOk h l) {i : Nat} {p : PySem.Str × Nat} (e : (h.ln l).train[i]? = some p) : p.1 ∈ h.wheres ∧ p.2 < (rvK ((h.freeAll ((h.ln l).train.take i)).rv p.1)).held.length ∧ (rvK ((h.freeAll ((h.ln l).train.take i)).rv p.1)).held[p.2]? ≠ some .non := by
  obtain ⟨h1, q, h2⟩ := o.held p (List.mem_of_getElem? e)
  have hi : i < (h.ln l).train.length := by
    rcases Nat.lt_or_ge i (h.ln l).train.length with c | c
    · exact c
    · rw [List.getElem?_eq_none c] at e; cases e
  have n : p ∉ (h.ln l).train.take i := by
    intro z
    obtain ⟨j, hj⟩ := List.mem_iff_getElem?.mp z
    have hj2 : j < i := by
      rcases Nat.lt_or_ge j i with c | c
      · exact c
      · rw [List.getElem?_eq_none (by rw [List.length_take]; omega)] at hj; cases hj
    rw [List.getElem?_take_of_lt hj2] at hj
    have := (List.getElem?_inj hi o.nd).mp (e.trans hj.symm)
    omega
  have h3 : ((h.freeAll ((h.ln l).train.take i)).rk p.1).held[p.2]? = some (some q) := by
    rw [freeAll_eq]
    exact (freeRk_at _ _ _ _ _).mpr ⟨h2, n⟩
  refine ⟨h1, ?_, fun z => ?_⟩
  · rw [Hs.rv_rk.1]
    rcases Nat.lt_or_ge p.2 ((h.freeAll ((h.ln l).train.take i)).rk p.1).held.length with c | c
    · exact c
    · rw [List.getElem?_eq_none c] at h3; cases h3
  · have := Hs.rv_get.mp z
    rw [h3] at this; cases this
theorem Is.tup2 {H : Hp} {x : V} {z : PySem.Str} {k : Int} (h : Is H x (.tuple [.str z, .int k])) : ∃ t, x = .ref t ∧ H t = some (.tup [.str z, .int k]) := by
  cases h with
  | tup e r =>
    cases r with
    | cons a r =>
      cases a
      cases r with
      | cons b r =>
        cases b
        cases r
        exact ⟨_, rfl, e⟩
section
variable (ad : Ad)
def spCallInit (C : Addr) : Sp := fun vs H Q E => ∃ (p dx : Addr) (F : List As), vs = [.ref p] ∧ C = ad.Call ∧ Sep (pt p (.ins C dx []) :: F) H ∧ ∀ H', Sep (callC ad p {} :: F) H' → Q .non H'
/-- begin of a call that is, or is made just now -/
def spBegin (C : Addr) : Sp := fun vs H Q E => ∃ (p dx : Addr) (w : PySem.Str) (fs : List (PySem.Str × V)) (F : List As), vs = [.ref p] ∧ C = ad.Call ∧ Sep (pt p (.ins C dx fs) :: F) H ∧
  (fs = [(("doing" : PySem.Str), V.str w)] ∨ ∃ f m t e y, fs = callF w f m t e y) ∧ ∀ t H', Sep (pt p (.ins C dx (callF w "" 0 t .non .non)) :: pt t (.lst []) :: F) H' → Q .non H'
def spCall (C : Addr) : Sp := fun vs H Q E => ∃ (B : HL) (h : Hs) (l : PySem.Str) (F : List As), vs = [.ref B.p, .str l] ∧ C = ad.Hall ∧ Sep (hallC ad B h F) H ∧ (l ∈ h.lines → Q (.ref (B.ca l)) H) ∧ (l ∉ h.lines → E (.ref ad.NoLine) none H)
def spRackAt (C : Addr) : Sp := fun vs H Q E => ∃ (B : HL) (h : Hs) (w : PySem.Str) (F : List As), vs = [.ref B.p, .str w] ∧ C = ad.Hall ∧ Sep (hallC ad B h F) H ∧ (w ∈ h.wheres → Q (.ref (B.ra w)) H) ∧ (w ∉ h.wheres → E (.ref ad.NoSwitch) none H)
def spWait (C : Addr) : Sp := fun vs H Q E => ∃ (B : HL) (h : Hs) (l : PySem.Str) (F : List As), vs = [.ref B.p, .str l] ∧ C = ad.Hall ∧ Sep (hallC ad B h F) H ∧ l ∈ h.lines ∧ h.lines.Nodup ∧ h.queue.length ≤ 1000 ∧
  ∀ t H', Sep (im (.ref t) (Tl.waits l).d :: hallC ad B (h.waitB l) F) H' → Q (.ref t) H'
def spAsk (fn : Hs → PySem.Str → V) (C : Addr) : Sp := fun vs H Q E => ∃ (B : HL) (h : Hs) (l : PySem.Str) (F : List As), vs = [.ref B.p, .str l] ∧ C = ad.Hall ∧ Sep (hallC ad B h F) H ∧ (l ∈ h.lines → ∀ H', Sep (hallC ad B h F) H' → Q (fn h l) H') ∧ (l ∉ h.lines → ∀ H', Sep (hallC ad B h F) H' → E (.ref ad.NoLine) none H')
def spHolds (C : Addr) : Sp := fun vs H Q E => ∃ (B : HL) (h : Hs) (l : PySem.Str) (F : List As), vs = [.ref B.p, .str l] ∧ C = ad.Hall ∧ Sep (hallC ad B h F) H ∧ (l ∈ h.lines → ∀ q H', Sep (lsI q ((h.ln l).train.map trD) :: hallC ad B h F) H' → Q (.ref q) H') ∧ (l ∉ h.lines → ∀ H', Sep (hallC ad B h F) H' → E (.ref ad.NoLine) none H')
def spTold (C : Addr) : Sp := fun vs H Q E => ∃ (B : HL) (h : Hs) (l : PySem.Str) (F : List As), vs = [.ref B.p, .str l] ∧ C = ad.Hall ∧ Sep (hallC ad B h F) H ∧ (l ∈ h.lines → ∀ y H', Sep (im y (oW (h.ln l).why) :: hallC ad B h F) H' → Q y H') ∧ (l ∉ h.lines → ∀ H', Sep (hallC ad B h F) H' → E (.ref ad.NoLine) none H')
def spFreeTrain (C : Addr) : Sp := fun vs H Q E => ∃ (B : HL) (h : Hs) (l : PySem.Str) (F : List As), vs = [.ref B.p, .ref (B.ca l)] ∧ C = ad.Hall ∧ Sep (hallC ad B h F) H ∧ l ∈ h.lines ∧ h.Sh ∧ TrOk h l ∧ ∀ H', Sep (hallC ad B (h.freed l) F) H' → Q .non H'
def spEnded (C : Addr) : Sp := fun vs H Q E => ∃ (B : HL) (h : Hs) (l : PySem.Str) (y : V) (yy : Wy) (F : List As), vs = [.ref B.p, .ref (B.ca l), y] ∧ C = ad.Hall ∧ Sep (im y yy.d :: hallC ad B h F) H ∧ l ∈ h.lines ∧ h.Sh ∧ TrOk h l ∧ ∀ H', Sep (hallC ad B (h.ended l yy) F) H' → Q .non H'
/-- figures that lead nowhere -/
def spNothing (C : Addr) : Sp := fun vs H Q E => ∃ (B : HL) (h : Hs) (l : PySem.Str) (F : List As), vs = [.ref B.p, .str l, .ref (B.ca l)] ∧ C = ad.Hall ∧ Sep (hallC ad B h F) H ∧ l ∈ h.lines ∧ h.Sh ∧ TrOk h l ∧
  ∀ t H', Sep (im (.ref t) (Tl.none l (h.ln l).figs).d :: hallC ad B (h.ended l (.none (h.ln l).figs)) F) H' → Q (.ref t) H'
def spBusy (C : Addr) : Sp := fun vs H Q E => ∃ (B : HL) (h : Hs) (l : PySem.Str) (y : V) (yy : Wy) (F : List As), vs = [.ref B.p, .str l, .ref (B.ca l), y] ∧ C = ad.Hall ∧ Sep (im y yy.d :: hallC ad B h F) H ∧ l ∈ h.lines ∧ h.Sh ∧ TrOk h l ∧
  ∀ t H', Sep (im (.ref t) (Tl.busy l yy).d :: hallC ad B (h.ended l yy) F) H' → Q (.ref t) H'
def spLed (fn : Hs → PySem.Str → PySem.Str → Tl × Hs) (C : Addr) : Sp := fun vs H Q E => ∃ (B : HL) (h : Hs) (l : PySem.Str) (F : List As), vs = [.ref B.p, .str l, .ref (B.ca l)] ∧ C = ad.Hall ∧ Sep (hallC ad B h F) H ∧ l ∈ h.lines ∧ h.Sh ∧ HB h.lines h.wheres h.rk (fun l => (h.ln l).train) ∧ (h.ln l).figs ≠ "" ∧ (h.ln l).way ≠ .rests ∧ (h.ln l).train.length ≤ 1000 ∧
  ∀ t H', Sep (im (.ref t) (fn h l (h.ln l).figs).1.d :: hallC ad B (fn h l (h.ln l).figs).2 F) H' → Q (.ref t) H'
def spDial (C : Addr) : Sp := fun vs H Q E => ∃ (B : HL) (h : Hs) (l : PySem.Str) (F : List As), vs = [.ref B.p, .str l] ∧ C = ad.Hall ∧ Sep (hallC ad B h F) H ∧ (l ∈ h.lines → (h.ln l).way = .dials → ∀ H', Sep (hallC ad B h F) H' → Q (.ref (B.ca l)) H') ∧
  (l ∉ h.lines → ∀ H', Sep (hallC ad B h F) H' → E (.ref ad.NoLine) none H') ∧ (l ∈ h.lines → (h.ln l).way ≠ .dials → ∀ H', Sep (hallC ad B h F) H' → E (.ref ad.NotSo) none H')
def spAct (wd : Wd) (C : Addr) : Sp := fun vs H Q E => ∃ (B : HL) (h : Hs) (l : PySem.Str) (F : List As), vs = [.ref B.p, .str l] ∧ C = ad.Hall ∧ h.Ok ∧ Gd B h ∧ Sep (HC ad B h F) H ∧
  (∀ ts h', h.atLine wd l = .ok (ts, h') → ∀ p H', Sep (lsI p (ts.map Tl.d) :: HC ad B h' F) H' → Q (.ref p) H') ∧ (∀ e, h.atLine wd l = .error e → ∀ H', Sep (HC ad B h F) H' → E (.ref (erA ad e)) none H')
def spTones (C : Addr) : Sp := fun vs H Q E => ∃ (B : HL) (h : Hs) (F : List As), vs = [.ref B.p] ∧ C = ad.Hall ∧ h.Ok ∧ Gd B h ∧ Sep (HC ad B h F) H ∧
  ∀ p H', Sep (lsI p ((Hs.tones h.queue.length h).1.map Tl.d) :: HC ad B (Hs.tones h.queue.length h).2 F) H' → Q (.ref p) H'
def spDo (C : Addr) : Sp := fun vs H Q E => ∃ (B : HL) (h : Hs) (dv : V) (d : Dd) (F : List As), vs = [.ref B.p, dv] ∧ C = ad.Hall ∧ h.Ok ∧ h.done.length ≤ 100000 ∧ Gd B h ∧ Sep (im dv d.d :: HC ad B h F) H ∧
  (∀ ts h', h.step d = .ok (ts, h') → ∀ p H', Sep (lsI p (ts.map Tl.d) :: im dv d.d :: HC ad B h' F) H' → Q (.ref p) H') ∧ (∀ e, h.step d = .error e → ∀ H', Sep (im dv d.d :: HC ad B h F) H' → E (.ref (erA ad e)) none H')
def spHPaper (C : Addr) : Sp := fun vs H Q E => ∃ (B : HL) (h : Hs) (w : PySem.Str) (F : List As), vs = [.ref B.p, .str w] ∧ C = ad.Hall ∧ h.Ok ∧ Gd B h ∧ Sep (HC ad B h F) H ∧
  (w ∈ h.wheres → ∀ q H', Sep (im (.ref q) (.tuple ((h.rk w).paper.map .str)) :: HC ad B h F) H' → Q (.ref q) H') ∧ (w ∉ h.wheres → ∀ H', Sep (HC ad B h F) H' → E (.ref ad.NoSwitch) none H')
def spHShares (C : Addr) : Sp := fun vs H Q E => ∃ (B : HL) (h : Hs) (w : PySem.Str) (F : List As), vs = [.ref B.p, .str w] ∧ C = ad.Hall ∧ h.wheres.Nodup ∧ Sep (hallC ad B h F) H ∧
  (w ∈ h.wheres → ∀ q H', Sep (pt q (.lst ((h.rk w).tak.map V.int)) :: hallC ad B h F) H' → Q (.ref q) H') ∧ (w ∉ h.wheres → ∀ H', Sep (hallC ad B h F) H' → E (.ref ad.NoSwitch) none H')
def spWaiting (C : Addr) : Sp := fun vs H Q E => ∃ (B : HL) (h : Hs) (F : List As), vs = [.ref B.p] ∧ C = ad.Hall ∧ Sep (hallC ad B h F) H ∧ ∀ q H', Sep (pt q (.lst (h.queue.map V.str)) :: hallC ad B h F) H' → Q (.ref q) H'
def spHSteps (C : Addr) : Sp := fun vs H Q E => ∃ (B : HL) (h : Hs) (F : List As), vs = [.ref B.p] ∧ C = ad.Hall ∧ h.Sh ∧ Sep (hallC ad B h F) H ∧ ∀ q H', Sep (pt q (.lst (h.steps.map V.int)) :: hallC ad B h F) H' → Q (.ref q) H'
def spDeeds (C : Addr) : Sp := fun vs H Q E => ∃ (B : HL) (h : Hs) (F : List As), vs = [.ref B.p] ∧ C = ad.Hall ∧ Sep (hallC ad B h F) H ∧ ∀ q H', Sep (lsI q (h.done.map Dd.d) :: hallC ad B h F) H' → Q (.ref q) H'
end
section
variable {ad : Ad} {C : Addr} {vs : List V} {H : Hp} {Q : VK} {E : XK}
theorem len_callinit (h : spCallInit ad C vs H Q E) : vs.length = 1 := by obtain ⟨p, dx, F, rfl, _⟩ := h; rfl
theorem len_begin (h : spBegin ad C vs H Q E) : vs.length = 1 := by obtain ⟨p, dx, w, fs, F, rfl, _⟩ := h; rfl
theorem len_call (h : spCall ad C vs H Q E) : vs.length = 2 := by obtain ⟨B, h, l, F, rfl, _⟩ := h; rfl
theorem len_rackat (h : spRackAt ad C vs H Q E) : vs.length = 2 := by obtain ⟨B, h, l, F, rfl, _⟩ := h; rfl
theorem len_wait (h : spWait ad C vs H Q E) : vs.length = 2 := by obtain ⟨B, h, l, F, rfl, _⟩ := h; rfl
theorem len_ask {fn} (h : spAsk ad fn C vs H Q E) : vs.length = 2 := by obtain ⟨B, h, l, F, rfl, _⟩ := h; rfl
theorem len_holds (h : spHolds ad C vs H Q E) : vs.length = 2 := by obtain ⟨B, h, l, F, rfl, _⟩ := h; rfl
theorem len_told (h : spTold ad C vs H Q E) : vs.length = 2 := by obtain ⟨B, h, l, F, rfl, _⟩ := h; rfl
theorem len_freetrain (h : spFreeTrain ad C vs H Q E) : vs.length = 2 := by obtain ⟨B, h, l, F, rfl, _⟩ := h; rfl
theorem len_ended (h : spEnded ad C vs H Q E) : vs.length = 3 := by obtain ⟨B, h, l, y, yy, F, rfl, _⟩ := h; rfl
theorem len_nothing (h : spNothing ad C vs H Q E) : vs.length = 3 := by obtain ⟨B, h, l, F, rfl, _⟩ := h; rfl
theorem len_busy (h : spBusy ad C vs H Q E) : vs.length = 4 := by obtain ⟨B, h, l, y, yy, F, rfl, _⟩ := h; rfl
theorem len_led {fn} (h : spLed ad fn C vs H Q E) : vs.length = 3 := by obtain ⟨B, h, l, F, rfl, _⟩ := h; rfl
theorem len_dial (h : spDial ad C vs H Q E) : vs.length = 2 := by obtain ⟨B, h, l, F, rfl, _⟩ := h; rfl
theorem len_act {wd} (h : spAct ad wd C vs H Q E) : vs.length = 2 := by obtain ⟨B, h, l, F, rfl, _⟩ := h; rfl
theorem len_tones (h : spTones ad C vs H Q E) : vs.length = 1 := by obtain ⟨B, h, F, rfl, _⟩ := h; rfl
theorem len_do (h : spDo ad C vs H Q E) : vs.length = 2 := by obtain ⟨B, h, dv, d, F, rfl, _⟩ := h; rfl
theorem len_hpaper (h : spHPaper ad C vs H Q E) : vs.length = 2 := by obtain ⟨B, h, l, F, rfl, _⟩ := h; rfl
theorem len_hshares (h : spHShares ad C vs H Q E) : vs.length = 2 := by obtain ⟨B, h, l, F, rfl, _⟩ := h; rfl
theorem len_waiting (h : spWaiting ad C vs H Q E) : vs.length = 1 := by obtain ⟨B, h, F, rfl, _⟩ := h; rfl
theorem len_hsteps (h : spHSteps ad C vs H Q E) : vs.length = 1 := by obtain ⟨B, h, F, rfl, _⟩ := h; rfl
theorem len_deeds (h : spDeeds ad C vs H Q E) : vs.length = 1 := by obtain ⟨B, h, F, rfl, _⟩ := h; rfl
end
end L2.Zs
namespace L2.Zs
open PySem PySem.Spec PyProof.Rows
theorem s_pop0 {H : Hp} {Q : VK} {a : Addr} {x : V} {xs : List V} {cs cs' : List As} (S : Sep cs H) (g : Chg (pt a (.lst (x :: xs))) (pt a (.lst xs)) cs cs') (k : ∀ H', Sep cs' H' → Q x H') : rPopAt (.ref a) [.int 0] H Q :=
  ⟨a, x :: xs, 0, 0, x, rfl, rfl, (let ⟨_, p, _⟩ := g.pick; S.get p), by decide, by decide, seqIndex_of (by decide) (by simp), rfl, k _ (S.set g rfl)⟩
namespace Hs
theorem sk_first (h : Hs) : h.sk.first = h.first := by
  unfold Sk.first Sk.ord first ord n
  rw [show h.sk.r.held.length = (h.rk "").held.length from rkI_len _ _, show h.sk.r.rdy = (h.rk "").rdy from rkI_rdy _ _]
  rfl
theorem sk_way (h : Hs) (k : Nat) (l : PySem.Str) : h.sk.way k ((h.lines.idxOf l : Nat) : Int) = h.went l k := rfl
theorem sk_took (h : Hs) (k : Nat) (l : PySem.Str) : h.sk.took k ((h.lines.idxOf l : Nat) : Int) = ⟨((h.rk "").give k l).rkI h.lines, h.lines.length, h.spots.set k (h.place l), h.steps.set k (h.steps.getD k 0 + h.went l k), (k + 1) % h.n⟩ := by
  unfold Sk.took
  rw [show h.sk.r = (h.rk "").rkI h.lines from rfl, rkI_give, sk_way, rkI_len]
  rfl
theorem sk_ok {h : Hs} (s : h.Sh) : h.sk.ok :=
  ⟨rkI_ok _ (s.rok _ s.w0), by rw [show h.sk.r.held.length = (h.rk "").held.length from rkI_len _ _]; exact s.sp, by rw [show h.sk.r.held.length = (h.rk "").held.length from rkI_len _ _]; exact s.st,
    by rw [show h.sk.r.held.length = (h.rk "").held.length from rkI_len _ _]; exact s.mr, by show (0 : Int) < (h.lines.length : Int); have := s.l1; omega⟩
theorem tones_cons {h : Hs} {l : PySem.Str} {qs : List PySem.Str} {k m : Nat} (q : h.queue = l :: qs) (f : h.first = some k) : tones (m + 1) h = (Tl.tone l k (h.went l k) :: (tones m (h.tone1 l k)).1, (tones m (h.tone1 l k)).2) := by
  show (match h.queue with | [] => ([], h) | l :: _ => match h.first with | none => ([], h) | some k => (Tl.tone l k (h.went l k) :: (tones m (h.tone1 l k)).1, (tones m (h.tone1 l k)).2)) = _
  rw [q, f]
theorem tones_none {h : Hs} {m : Nat} (f : h.first = none) : tones m h = ([], h) := by
  cases m with
  | zero => rfl
  | succ m =>
    show (match h.queue with | [] => ([], h) | l :: _ => match h.first with | none => ([], h) | some k => (Tl.tone l k (h.went l k) :: (tones m (h.tone1 l k)).1, (tones m (h.tone1 l k)).2)) = _
    cases h.queue with
    | nil => rfl
    | cons l qs => rw [f]
theorem Sh.okS {h : Hs} (s : h.Sh) {l : PySem.Str} (hl : l ∈ h.lines) : okV (.str l) = true := figs_ok (s.lf l hl)
theorem Ok.okQ {h : Hs} (o : h.Ok) : ∀ v ∈ h.queue.map V.str, okV v = true := fun v hv => by
  obtain ⟨l, hl, rfl⟩ := List.mem_map.mp hv
  exact o.sh.okS ((o.q l).mp hl).1
end Hs
theorem Gd.to {B : HL} {h h' : Hs} (g : Gd B h) (e1 : h'.long = h.long) (e2 : h'.lines = h.lines) : Gd B h' := ⟨by rw [g.long, e1], by rw [g.lines, e2], g.dict⟩
theorem Hs.tones_shape : ∀ (m : Nat) (h : Hs), (Hs.tones m h).2.long = h.long ∧ (Hs.tones m h).2.lines = h.lines ∧ (Hs.tones m h).2.wheres = h.wheres ∧ (Hs.tones m h).2.done = h.done
  | 0, h => ⟨rfl, rfl, rfl, rfl⟩
  | m + 1, h => by
    cases hf : h.first with
    | none => rw [Hs.tones_none hf]; exact ⟨rfl, rfl, rfl, rfl⟩
    | some k =>
      cases hq : h.queue with
      | nil =>
        have : Hs.tones (m + 1) h = ([], h) := by
          show (match h.queue with | [] => ([], h) | l :: _ => match h.first with | none => ([], h) | some k => (Tl.tone l k (h.went l k) :: (Hs.tones m (h.tone1 l k)).1, (Hs.tones m (h.tone1 l k)).2)) = _
          rw [hq]
        rw [this]; exact ⟨rfl, rfl, rfl, rfl⟩
      | cons l qs =>
        rw [Hs.tones_cons hq hf]
        exact Hs.tones_shape m (h.tone1 l k)
/-! plain data, as values -/
def vD : PyData → V
  | .bool b => .bl b
  | .int i => .int i
  | .str z => .str z
  | _ => .non
def flD : PyData → Bool
  | .none => true
  | .bool _ => true
  | .int _ => true
  | .str _ => true
  | _ => false
theorem Is.flat {H : Hp} {v : V} {d : PyData} (f : flD d = true) (h : Is H v d) : v = vD d := by
  cases h with
  | non => rfl
  | bl b => rfl
  | int i => rfl
  | str z => rfl
  | tup e r => cases f
theorem IsAll.flat {H : Hp} : ∀ {xs : List V} {ds : List PyData}, ds.all flD = true → IsAll H xs ds → xs = ds.map vD
  | _, _, _, .nil => rfl
  | _, _, h, .cons a r => by
    rw [List.all_cons, Bool.and_eq_true] at h
    rw [List.map_cons, ← IsAll.flat h.2 r, Is.flat h.1 a]
theorem Is.tupF {H : Hp} {x : V} {ds : List PyData} (f : ds.all flD = true) (h : Is H x (.tuple ds)) : ∃ t, x = .ref t ∧ H t = some (.tup (ds.map vD)) := by
  cases h with
  | tup e r => exact ⟨_, rfl, r.flat f ▸ e⟩
/-- a flat tuple is laid open -/
theorem Sep.imTF {x : V} {ds : List PyData} {F : List As} {H : Hp} (h : Sep (im x (.tuple ds) :: F) H) (f : ds.all flD = true) : ∃ t, x = .ref t ∧ Sep (pt t (.tup (ds.map vD)) :: F) H := by
  obtain ⟨H1, H2, a, b, d, q, y⟩ := h
  obtain ⟨t, e, q⟩ := Is.tupF f q
  exact ⟨t, e, H1, H2, a, b, d, q, y⟩
theorem Is.ofFlat {H : Hp} : ∀ {ds : List PyData}, ds.all flD = true → IsAll H (ds.map vD) ds
  | [], _ => .nil
  | d :: ds, h => by
    rw [List.all_cons, Bool.and_eq_true] at h
    refine .cons ?_ (Is.ofFlat h.2)
    have h1 := h.1
    cases d <;> first | constructor | cases h1
theorem Sep.imFF {t : Addr} {ds : List PyData} {F : List As} {H : Hp} (h : Sep (pt t (.tup (ds.map vD)) :: F) H) (f : ds.all flD = true) : Sep (im (.ref t) (.tuple ds) :: F) H :=
  Sep.imT (Sep.cons (fun _ h => h.free (Is.ofFlat f)) h)
theorem Sep.dupT {t : Addr} {xs : List V} {F : List As} {H : Hp} (h : Sep (pt t (.tup xs) :: F) H) : Sep (pt t (.tup xs) :: pt t (.tup xs) :: F) H := Sep.dupP pers_tup h
def Dd.z : Dd → PySem.Str
  | .ln w _ => w.s
  | .sw b _ _ => if b then "stick" else "mend"
def Dd.rest : Dd → List PyData
  | .ln _ l => [.str l]
  | .sw _ wh k => [.str wh, .int k]
def Dd.l (d : Dd) : List PyData := .str d.z :: d.rest
theorem Dd.d_eq (d : Dd) : d.d = .tuple d.l := by cases d <;> rfl
theorem Dd.fl (d : Dd) : d.l.all flD = true := by cases d <;> rfl
theorem Sep.ddC {d : Dd} {t : Addr} {F : List As} {H : Hp} (h : Sep (pt t (.tup (.str d.z :: d.rest.map vD)) :: F) H) : Sep (im (.ref t) d.d :: F) H := by
  rw [d.d_eq]; exact Sep.imFF (ds := d.l) h d.fl
/-- tuple(t) of a tuple is t -/
theorem s_tupT {K : PySem.W.Frag} {a : Addr} {xs : List V} {cs ds : List As} {H : Hp} {Q : VK} (S : Sep cs H) (p : Pick (pt a (.tup xs)) cs ds) (k : Q (.ref a) H) : kTup K (.ref a) H Q := .inr ⟨a, xs, rfl, SqT.of (S.get p), k⟩
/-! ## enumerate -/
section
variable {K : PySem.W.Frag} {H : Hp} {σ : St} {g : TG} {tB : TS} {D : Ends} {tr : TA} {a : Addr} {xs : List V} {cs ds : List As}
def ForE (K : PySem.W.Frag) (R : It → Hp → Prop) (vs : List V) (H1 : Hp) : Prop := ∃ a xs, vs = [.ref a] ∧ SqL K H1 a xs ∧ R (Ite K a) H1
instance : Stp (tFor (iEnum K tr) g tB D σ H) (tr σ H fun vs H1 => ForE K (fun J H1 => Lp J g tB D σ H1) vs H1) := ⟨id⟩
theorem s_forE {R : It → Hp → Prop} (S : Sep cs H) (p : Pick (pt a (.lst xs)) cs ds) (k : R (Ite K a) H) : ForE K R [.ref a] H := ⟨a, xs, rfl, SqL.of (S.get p), k⟩
theorem lp_enum (Pv : Nat → St → Hp → Prop) (h0 : Pv 0 σ H) (hl : ∀ i σ H, i ≤ xs.length → Pv i σ H → SqL K H a xs)
    (hs : ∀ i x σ H T, xs[i]? = some x → Pv i σ H → H T = none → g (.ref T) σ (upd H T (.tup [.int (i : Nat), x])) fun σ2 H2 => tB { D with nx := Pv (i + 1), ct := Pv (i + 1), bk := D.nx } σ2 H2) (hd : ∀ σ H, Pv xs.length σ H → D.nx σ H) :
    Lp (Ite K a) g tB D σ H := by
  refine ⟨fun i m σ H => m = xs.length - i ∧ i ≤ xs.length ∧ Pv i σ H, ⟨xs.length, by simp, Nat.zero_le _, h0⟩, ?_⟩
  rintro i m σ H ⟨rfl, hi, p⟩
  have hq := hl i σ H hi p
  by_cases hlt : i < xs.length
  · have hx : xs[i]? = some xs[i] := List.getElem?_eq_getElem hlt
    refine .inr ⟨⟨xs, xs[i], hq, hx⟩, Pv (i + 1), fun σ' H' p' => ⟨xs.length - (i + 1), by omega, rfl, hlt, p'⟩, fun x H' y => ?_⟩
    obtain ⟨T, z, rfl, hT, rfl, hz⟩ := y
    have := hz xs hq
    exact hs i z σ H T this p hT
  · have e : i = xs.length := by omega
    subst e
    exact .inl ⟨⟨xs, hq, Nat.le_refl _⟩, hd σ H p⟩
end
theorem rvW_same (v : Sum Sk Rk) : rvW v (rvK v) = v := by cases v <;> rfl
theorem rkI_at {r : Rc} {ls : List PySem.Str} {k : Nat} {x : V} (h : (r.rkI ls).held[k]? = some x) : ∃ o, r.held[k]? = some o ∧ x = oI ls o := by
  have h : (r.held.map (oI ls))[k]? = some x := h
  rw [List.getElem?_map] at h
  obtain ⟨o, h1, h2⟩ := Option.map_eq_some_iff.mp h
  exact ⟨o, h1, h2.symm⟩
theorem Rk.mem_jam {r : Rk} (ok : r.ok) {k : Nat} (hk : k < r.held.length) : ((k : Nat) : Int) ∈ r.jam ↔ r.brk.getD k false = true := by
  unfold Rk.jam
  rw [List.mem_map]
  constructor
  · rintro ⟨j, hj, e⟩
    have e : j = k := by omega
    subst e
    exact (List.mem_filter.mp hj).2
  · intro h
    exact ⟨k, List.mem_filter.mpr ⟨List.mem_range.mpr hk, h⟩, rfl⟩
/-! ## {} -/
def NewD (Q : VK) (H : Hp) : Prop := ∀ p, H p = none → Q (.ref p) (upd H p (.dK []))
section
variable {σ : St} {H : Hp} {Q : VK} {cs : List As}
instance : Stp (tDNewK σ H Q) (NewD Q H) := ⟨id⟩
theorem s_newD (S : Sep cs H) (k : ∀ p H', Sep (pt p (.dK []) :: cs) H' → Q (.ref p) H') : NewD Q H := fun p hp => k p _ (S.new hp)
end
theorem up_ref {f : PySem.Str → Addr} {l : PySem.Str} {x : Addr} : (fun y => if y = l then V.ref x else V.ref (f y)) = fun y => V.ref (up f l x y) := by
  funext y; unfold up; split <;> rfl
theorem take_nd {xs : List PySem.Str} (nd : xs.Nodup) {i : Nat} {x : PySem.Str} (h : xs[i]? = some x) : x ∉ xs.take i := by
  intro m
  have e : xs.take (i + 1) = xs.take i ++ [x] := by rw [List.take_succ, h]; rfl
  have := (List.take_sublist (i + 1) xs).nodup nd
  rw [e, List.nodup_append] at this
  exact this.2.2 x m x List.mem_cons_self rfl
end L2.Zs
namespace L2.Zs
open PySem PySem.Spec PyProof.Rows
def dig (c : Nat) : Bool := decide (c ∈ ("0123456789" : PySem.Str).cps.toList)
theorem dig_iff {c : Nat} : dig c = true ↔ 48 ≤ c ∧ c ≤ 57 := by
  unfold dig
  rw [decide_eq_true_iff, digits_codes]
  simp only [List.mem_cons, List.not_mem_nil, or_false]
  omega
def figB (z : PySem.Str) : Bool := z.cps.toList.all dig && !decide (z = "")
def spFigs : Sp := fun vs H Q E => ∃ z : PySem.Str, vs = [.str z] ∧ Q (.bl (figB z)) H
theorem len_figs {vs H Q E} (h : spFigs vs H Q E) : vs.length = 1 := by obtain ⟨z, rfl, _⟩ := h; rfl
theorem k_all {X : Cx} {K : PySem.W.Frag} (hK : X.K = K) (hc : X.calm = true) : CallR X (.builtin "all") (rAll K) := hK ▸ cr_all hc
def linesB (long : Int) (xs : List PySem.Str) : Bool := decide (1 ≤ xs.length) && decide (xs.length ≤ 60) && decide xs.Nodup && xs.all fun z => decide ((z.length : Int) = long) && figB z
def spLines : Sp := fun vs H Q E => ∃ (long : Int) (a : Addr) (xs : List PySem.Str) (F : List As), vs = [.int long, .ref a] ∧ xs.length ≤ 1000 ∧ (∀ z ∈ xs, z.length ≤ 10000) ∧ Sep (pt a (.lst (xs.map V.str)) :: F) H ∧ ∀ H', Sep (pt a (.lst (xs.map V.str)) :: F) H' → Q (.bl (linesB long xs)) H'
theorem len_lines {vs H Q E} (h : spLines vs H Q E) : vs.length = 2 := by obtain ⟨l, a, xs, F, rfl, _⟩ := h; rfl
def spUnlike : Sp := fun vs H Q E => ∃ (a : Addr) (xs : List PySem.Str) (F : List As), vs = [.ref a] ∧ xs.length ≤ 1000 ∧ Sep (pt a (.lst (xs.map V.str)) :: F) H ∧ Q (.bl (decide xs.Nodup)) H
theorem len_unlike {vs H Q E} (h : spUnlike vs H Q E) : vs.length = 1 := by obtain ⟨a, xs, F, rfl, _⟩ := h; rfl
def dg (gs : List (PySem.Str × Int)) : List (List V) := gs.map fun g => [.str g.1, .int g.2]
def oneG (long : Int) (g : PySem.Str × Int) : Bool := decide ((g.1.length : Int) ≤ long - 2) && figB g.1 && decide (0 ≤ g.2) && decide (g.2 ≤ 10)
def groupsB (long : Int) (gs : List (PySem.Str × Int)) : Bool := decide (gs.length ≤ 40) && decide (gs.map (·.1)).Nodup && gs.all (oneG long)
def spGroups : Sp := fun vs H Q E => ∃ (long : Int) (a : Addr) (as : List Addr) (gs : List (PySem.Str × Int)) (F : List As), vs = [.int long, .ref a] ∧ gs.length ≤ 1000 ∧ (∀ g ∈ gs, g.1.length ≤ 10000) ∧ Sep (pt a (.lst (as.map V.ref)) :: tl as (dg gs) :: F) H ∧ ∀ H', Sep (pt a (.lst (as.map V.ref)) :: tl as (dg gs) :: F) H' → Q (.bl (groupsB long gs)) H'
theorem len_groups {vs H Q E} (h : spGroups vs H Q E) : vs.length = 2 := by obtain ⟨l, a, as, xs, F, rfl, _⟩ := h; rfl
theorem s_gtupT {K : PySem.W.Frag} {n : Nat} {g : TGs} {R : St → Hp → Prop} {σ : St} {H : Hp} {a : Addr} {xs : List V} (h : H a = some (.tup xs)) (hn : xs.length = n) (k : g xs σ H R) : gTup K n g (.ref a) σ H R := ⟨a, xs, rfl, SqT.of h, hn, k⟩
theorem pers_tl {as : List Addr} {ds : List (List V)} : Pers (tl as ds) := fun H h => ⟨h.1, fun i a d h1 h2 => tupsOf_tup (h.2 i a d h1 h2)⟩
theorem ims_tl {H : Hp} : ∀ {xs : List V} {gs : List Pr}, IsAll H xs (gs.map gD) → ∃ as : List Addr, xs = as.map V.ref ∧ tl as (dg gs) H
  | [], [], _ => ⟨[], rfl, rfl, fun i a d h => by simp at h⟩
  | [], _ :: _, h => by cases h
  | _ :: _, [], h => by cases h
  | x :: xs, g :: gs, h => by
    cases h with
    | cons a r =>
      obtain ⟨as, e, q⟩ := ims_tl r
      obtain ⟨t, rfl, ht⟩ := Is.tup2 a
      refine ⟨t :: as, by rw [e]; rfl, by show as.length + 1 = (dg gs).length + 1; rw [q.1], fun i a d h1 h2 => ?_⟩
      cases i with
      | zero => cases h1; cases h2; exact ht
      | succ i => exact q.2 i a d h1 h2
def planB (long : Int) (ls : List PySem.Str) (sk : Int) (gs : List Pr) : Bool := decide (2 ≤ long) && decide (long ≤ 4) && decide (1 ≤ sk) && decide (sk ≤ 60) && linesB long ls && groupsB long gs
/-- what is handed in stays, a plan is made of it -/
def spPlan (ad : Ad) (C : Addr) : Sp := fun vs H Q E => ∃ (p dx a b : Addr) (long sk : Int) (ls : List PySem.Str) (xs : List V) (gs : List Pr) (F : List As), vs = [.ref p, .int long, .ref a, .int sk, .ref b] ∧ C = ad.Plan ∧
  ls.length ≤ 1000 ∧ (∀ z ∈ ls, z.length ≤ 10000) ∧ gs.length ≤ 1000 ∧ (∀ g ∈ gs, g.1.length ≤ 10000) ∧ Sep (pt p (.ins C dx []) :: pt a (.lst (ls.map V.str)) :: pt b (.lst xs) :: ims xs (gs.map gD) :: F) H ∧
  (planB long ls sk gs = true → ∀ (B : PL) (H' : Hp), B.p = p → B.d.long = long.toNat → B.d.sk = sk.toNat → B.d.lines.Perm ls → sortedS B.d.lines = true → B.d.gs.Perm gs → sortedG B.d.gs → B.o.dict = none →
    Sep (planC ad B (pt a (.lst (ls.map V.str)) :: pt b (.lst xs) :: ims xs (gs.map gD) :: F)) H' → Q .non H') ∧
  (planB long ls sk gs = false → ∀ H', Sep (pt p (.ins C dx []) :: pt a (.lst (ls.map V.str)) :: pt b (.lst xs) :: ims xs (gs.map gD) :: F) H' → E (.ref ad.BadPlan) none H')
theorem len_plan {ad C vs H Q E} (h : spPlan ad C vs H Q E) : vs.length = 5 := by obtain ⟨p, dx, a, b, long, sk, ls, xs, gs, F, rfl, _⟩ := h; rfl
theorem putPlan {n s : Int} {l g : Addr} : putF "groups" (V.ref g) (putF "seekers" (V.int s) (putF "lines" (V.ref l) (putF "long" (V.int n) []))) = planF n l s g := by
  rw [pf_nil, pf_tl (by decide +kernel) pf_nil, pf_tl (by decide +kernel) (pf_tl (by decide +kernel) pf_nil), pf_tl (by decide +kernel) (pf_tl (by decide +kernel) (pf_tl (by decide +kernel) pf_nil))]
  rfl
theorem s_gtupH2 {K : PySem.W.Frag} {n : Nat} {g : TGs} {R : St → Hp → Prop} {σ : St} {H : Hp} {a : Addr} {xs : List V} (h : H a = some (.tup xs)) (hn : xs.length = n) (k : g xs σ H R) : gTup K n g (.ref a) σ H R := ⟨a, xs, rfl, SqT.of h, hn, k⟩

/-! # a plan that is right, and its hall at the beginning -/
structure PdOk (d : Pd) : Prop where
  g2 : 2 ≤ d.long
  g4 : d.long ≤ 4
  l1 : 1 ≤ d.lines.length
  l60 : d.lines.length ≤ 60
  lnd : d.lines.Nodup
  lf : ∀ l ∈ d.lines, figs d.long l
  s1 : 1 ≤ d.sk
  s60 : d.sk ≤ 60
  gn : d.gs.length ≤ 40
  gnd : (d.gs.map (·.1)).Nodup
  gf : ∀ g ∈ d.gs, g.1 ≠ "" ∧ g.1.length + 2 ≤ d.long ∧ (∀ c ∈ g.1.cps.toList, 48 ≤ c ∧ c ≤ 57) ∧ 0 ≤ g.2 ∧ g.2 ≤ 10
theorem figB_iff {z : PySem.Str} : figB z = true ↔ (∀ c ∈ z.cps.toList, 48 ≤ c ∧ c ≤ 57) ∧ z ≠ "" := by
  unfold figB
  rw [Bool.and_eq_true, List.all_eq_true]
  constructor
  · rintro ⟨h1, h2⟩
    exact ⟨fun c hc => dig_iff.mp (h1 c hc), by simpa using h2⟩
  · rintro ⟨h1, h2⟩
    exact ⟨fun c hc => dig_iff.mpr (h1 c hc), by simpa using h2⟩
theorem PdOk.of {d : Pd} {long sk : Int} {ls : List PySem.Str} {gs : List Pr} (h : planB long ls sk gs = true) (e1 : d.long = long.toNat) (e2 : d.sk = sk.toNat) (e3 : d.lines.Perm ls) (e4 : d.gs.Perm gs) : PdOk d := by
  unfold planB linesB groupsB at h
  simp only [Bool.and_eq_true, decide_eq_true_eq, List.all_eq_true] at h
  obtain ⟨⟨⟨⟨⟨b1, b2⟩, b3⟩, b4⟩, ⟨⟨c1, c2⟩, c3⟩, c4⟩, ⟨d1, d2⟩, d3⟩ := h
  refine ⟨by omega, by omega, by rw [e3.length_eq]; exact c1, by rw [e3.length_eq]; exact c2, e3.nodup_iff.mpr c3, fun l hl => ?_, by omega, by omega, by rw [e4.length_eq]; exact d1, (e4.map (·.1)).nodup_iff.mpr d2, fun g hg => ?_⟩
  · have := c4 l (e3.mem_iff.mp hl)
    obtain ⟨f1, f2⟩ := figB_iff.mp this.2
    exact ⟨by omega, f1⟩
  · have := d3 g (e4.mem_iff.mp hg)
    unfold oneG at this
    simp only [Bool.and_eq_true, decide_eq_true_eq] at this
    obtain ⟨f1, f2⟩ := figB_iff.mp this.1.1.2
    exact ⟨f2, by omega, f1, this.1.2, this.2⟩
def cntG (gs : List Pr) (w : PySem.Str) : Nat := (((gs.find? fun (g : Pr) => decide (g.1 = w)).map (fun (g : Pr) => g.2)).getD 0).toNat
theorem cntG_at {gs : List Pr} (nd : (gs.map (·.1)).Nodup) {g : Pr} (h : g ∈ gs) : cntG gs g.1 = g.2.toNat := by
  unfold cntG
  have : gs.find? (fun (x : Pr) => decide (x.1 = g.1)) = some g := by
    induction gs with
    | nil => cases h
    | cons x xs ih =>
      rw [List.map_cons, List.nodup_cons] at nd
      rcases List.mem_cons.mp h with rfl | h
      · simp
      · have : x.1 ≠ g.1 := fun e => nd.1 (e ▸ List.mem_map_of_mem h)
        rw [List.find?_cons_of_neg (by simpa using this)]
        exact ih nd.2 h
  rw [this]; rfl
def Hs.new (d : Pd) : Hs :=
  { long := d.long, lines := d.lines, wheres := ("" : PySem.Str) :: d.gs.map (fun (g : Pr) => g.1), ln := fun _ => {}, rk := fun w => if w = "" then Rc.new d.sk else Rc.new (cntG d.gs w), spots := List.replicate d.sk 0, steps := List.replicate d.sk 0, mark := 0, queue := [], done := [] }
theorem Rc.new_held {n k : Nat} {l : PySem.Str} : (Rc.new n).held[k]? ≠ some (some l) := by
  unfold Rc.new
  dsimp only
  rw [List.getElem?_replicate]
  split <;> simp
theorem rcnew_ok {n m : Nat} (h : n ≤ m) : (Rc.new n).ok m := ⟨by simp [Rc.new], by simp [Rc.new], by simp [Rc.new, h]⟩
theorem Hs.new_rk0 (d : Pd) : (Hs.new d).rk "" = Rc.new d.sk := by
  show (if ("" : PySem.Str) = "" then Rc.new d.sk else Rc.new (cntG d.gs "")) = Rc.new d.sk
  exact if_pos rfl
theorem Hs.new_ok {d : Pd} (o : PdOk d) : (Hs.new d).Ok := by
  have r0 := Hs.new_rk0 d
  have gw : ∀ w ∈ d.gs.map (fun (g : Pr) => g.1), w ≠ "" ∧ w.length + 2 ≤ d.long ∧ (∀ c ∈ w.cps.toList, 48 ≤ c ∧ c ≤ 57) ∧ cntG d.gs w ≤ 10 := fun w hw => by
    obtain ⟨g, hg, rfl⟩ := List.mem_map.mp hw
    have := o.gf g hg
    exact ⟨this.1, this.2.1, this.2.2.1, by rw [cntG_at o.gnd hg]; omega⟩
  refine ⟨⟨o.lnd, o.lf, o.g2, o.g4, o.l1, o.l60, List.mem_cons_self, ?_, ?_, ?_, ?_, ?_, ?_, ?_, ?_⟩, ⟨?_, ?_, ?_⟩, List.nodup_nil, ?_, ?_⟩
  · exact List.nodup_cons.mpr ⟨fun h => (gw _ h).1 rfl, o.gnd⟩
  · intro w hw
    rcases List.mem_cons.mp hw with rfl | hw
    · have g2 := o.g2
      have e0 : ("" : PySem.Str).length = 0 := by decide +kernel
      exact ⟨by show ("" : PySem.Str).length + 2 ≤ d.long; rw [e0]; exact g2, fun c hc => by rw [codes0] at hc; cases hc⟩
    · exact ⟨(gw w hw).2.1, (gw w hw).2.2.1⟩
  · show (d.gs.map (·.1)).length + 1 ≤ 41
    rw [List.length_map]; have := o.gn; omega
  · intro w hw
    rcases List.mem_cons.mp hw with rfl | hw
    · rw [r0]; exact rcnew_ok o.s60
    · have := gw w hw
      rw [show (Hs.new d).rk w = Rc.new (cntG d.gs w) from if_neg this.1]
      exact rcnew_ok (by omega)
  · rw [r0]; simp [Rc.new]; exact o.s1
  · rw [r0]; simp [Rc.new, Hs.new]
  · rw [r0]; simp [Rc.new, Hs.new]
  · rw [r0]; show 0 < _; simp [Rc.new]; exact o.s1
  · intro w hw k l
    constructor
    · intro h
      have : ∃ n, (Hs.new d).rk w = Rc.new n := by
        by_cases e : w = ""
        · exact ⟨_, if_pos e⟩
        · exact ⟨_, if_neg e⟩
      obtain ⟨n, hn⟩ := this
      rw [hn] at h
      exact absurd h Rc.new_held
    · rintro ⟨_, h⟩
      cases h
  · intro l _ p hp; cases hp
  · intro l _; exact List.nodup_nil
  · intro l
    constructor
    · intro h; cases h
    · rintro ⟨_, h⟩; cases h
  · intro l _; exact .rests
theorem rkS_new (n : Nat) : (Rc.new n).rkS = Rk.new n := by
  unfold Rc.rkS Rc.new Rk.new
  dsimp only
  rw [List.map_replicate]; rfl
theorem rkI_new (n : Nat) (ls : List PySem.Str) : (Rc.new n).rkI ls = Rk.new n := by
  unfold Rc.rkI Rc.new Rk.new
  dsimp only
  rw [List.map_replicate]; rfl
theorem Hs.new_sk (d : Pd) : (Hs.new d).sk = Sk.new d.sk (d.lines.length : Nat) := by
  show (⟨((Hs.new d).rk "").rkI d.lines, (d.lines.length : Nat), List.replicate d.sk 0, List.replicate d.sk 0, 0⟩ : Sk) = _
  rw [Hs.new_rk0, rkI_new]
  rfl
def spHallInit (ad : Ad) (C : Addr) : Sp := fun vs H Q E => ∃ (p dx : Addr) (PP : PL) (F : List As), vs = [.ref p, .ref PP.p] ∧ C = ad.Hall ∧ PdOk PP.d ∧ PP.o.dict = none ∧ Sep (pt p (.ins C dx []) :: planC ad PP F) H ∧
  ∀ (B : HL) (H' : Hp), B.p = p → B.pl = PP → Sep (hallC ad B (Hs.new PP.d) (planC ad PP F)) H' → Q .non H'
theorem len_hallinit {ad C vs H Q E} (h : spHallInit ad C vs H Q E) : vs.length = 2 := by obtain ⟨p, dx, PP, F, rfl, _⟩ := h; rfl
theorem putHall {pl c r q d : Addr} : putF "all_done" (V.ref d) (putF "queue" (V.ref q) (putF "racks" (V.ref r) (putF "calls" (V.ref c) (putF "plan" (V.ref pl) [])))) = hallF pl c r q d := by
  rw [pf_nil, pf_tl (by decide +kernel) pf_nil, pf_tl (by decide +kernel) (pf_tl (by decide +kernel) pf_nil), pf_tl (by decide +kernel) (pf_tl (by decide +kernel) (pf_tl (by decide +kernel) pf_nil)),
    pf_tl (by decide +kernel) (pf_tl (by decide +kernel) (pf_tl (by decide +kernel) (pf_tl (by decide +kernel) pf_nil)))]
  rfl
end L2.Zs
namespace L2.Zs
open PySem PySem.Spec PyProof.Rows
/-! # the law's own hall -/
section
variable {K : PySem.W.Frag} {H : Hp} {Q : VK} {R : Hp → Prop} {a : Addr} {ks : List PySem.Str} {f f' : PySem.Str → List V} {fd fd' : PySem.Str → List PyData} {fi fi' : PySem.Str → PyData} {l : PySem.Str} {cs ds F : List As}
theorem s_lget (S : Sep cs H) (p : Pick (mapV a ks (lstA f)) cs ds) (m : l ∈ ks) (k : ∀ p, Sep (pt p (.lst (f l)) :: mapH a ks (lstA f) l (.ref p) :: ds) H → Q (.ref p) H) : DG (.ref a) (.str l) Q H :=
  s_mget S p m fun v S => by
    obtain ⟨p, rfl, S⟩ := Sep.lstO S
    exact k p S
theorem s_iget (S : Sep cs H) (p : Pick (mapV a ks (lsIA fd)) cs ds) (m : l ∈ ks) (k : ∀ p, Sep (lsI p (fd l) :: mapH a ks (lsIA fd) l (.ref p) :: ds) H → Q (.ref p) H) : DG (.ref a) (.str l) Q H :=
  s_mget S p m fun v S => by
    obtain ⟨p, rfl, S⟩ := Sep.lsIO S
    exact k p S
theorem s_vget (S : Sep cs H) (p : Pick (mapV a ks (imA fi)) cs ds) (m : l ∈ ks) (k : ∀ v, Sep (im v (fi l) :: mapH a ks (imA fi) l v :: ds) H → Q v H) : DG (.ref a) (.str l) Q H :=
  s_mget S p m fun v S => k v S
theorem Sep.lback {p : Addr} {xs : List V} (f' : PySem.Str → List V) (h : Sep (pt p (.lst xs) :: mapH a ks (lstA f) l (.ref p) :: F) H) (m : l ∈ ks) (nd : ks.Nodup) (e1 : xs = f' l) (e2 : ∀ x ∈ ks, x ≠ l → f x = f' x) : Sep (mapV a ks (lstA f') :: F) H :=
  Sep.mclose (Sep.lstC h e1) m nd fun x hx hn => by funext v; unfold lstA; rw [e2 x hx hn]
theorem Sep.iback {p : Addr} {xs : List PyData} (f' : PySem.Str → List PyData) (h : Sep (lsI p xs :: mapH a ks (lsIA fd) l (.ref p) :: F) H) (m : l ∈ ks) (nd : ks.Nodup) (e1 : xs = f' l) (e2 : ∀ x ∈ ks, x ≠ l → fd x = f' x) : Sep (mapV a ks (lsIA f') :: F) H :=
  Sep.mclose (Sep.lsIC h e1) m nd fun x hx hn => by funext v; unfold lsIA; rw [e2 x hx hn]
/-- a new list is laid -/
theorem s_lput {p : Addr} {xs : List V} (q : Pick (mapV a ks (lstA f)) cs ds) (f' : PySem.Str → List V) (S : Sep (pt p (.lst xs) :: cs) H) (m : l ∈ ks) (nd : ks.Nodup) (n : ks.length ≤ 100000) (e1 : xs = f' l) (e2 : ∀ x ∈ ks, x ≠ l → f x = f' x) (k : ∀ H', Sep (mapV a ks (lstA f') :: ds) H' → R H') : DP (.ref a) (.str l) (.ref p) R H :=
  s_mput q (lstA f') (Sep.lstC S e1) m nd n (fun x hx hn => by funext v; unfold lstA; rw [e2 x hx hn]) k
theorem s_iput {p : Addr} {xs : List PyData} (q : Pick (mapV a ks (lsIA fd)) cs ds) (f' : PySem.Str → List PyData) (S : Sep (lsI p xs :: cs) H) (m : l ∈ ks) (nd : ks.Nodup) (n : ks.length ≤ 100000) (e1 : xs = f' l) (e2 : ∀ x ∈ ks, x ≠ l → fd x = f' x) (k : ∀ H', Sep (mapV a ks (lsIA f') :: ds) H' → R H') : DP (.ref a) (.str l) (.ref p) R H :=
  s_mput q (lsIA f') (Sep.lsIC S e1) m nd n (fun x hx hn => by funext v; unfold lsIA; rw [e2 x hx hn]) k
theorem s_vput {v : V} {d : PyData} (q : Pick (mapV a ks (imA fi)) cs ds) (f' : PySem.Str → PyData) (S : Sep (im v d :: cs) H) (m : l ∈ ks) (nd : ks.Nodup) (n : ks.length ≤ 100000) (e1 : d = f' l) (e2 : ∀ x ∈ ks, x ≠ l → fi x = f' x) (k : ∀ H', Sep (mapV a ks (imA f') :: ds) H' → R H') : DP (.ref a) (.str l) v R H :=
  s_mput q (imA f') (by rw [e1] at S; exact S) m nd n (fun x hx hn => by funext v; unfold imA; rw [e2 x hx hn]) k
theorem s_ladd {p : Addr} {xs : List V} (q : Pick (mapV a ks (lstA f)) cs ds) (f' : PySem.Str → List V) (S : Sep (pt p (.lst xs) :: cs) H) (m : l ∉ ks) (n : ks.length ≤ 100000) (e1 : xs = f' l) (e2 : ∀ x ∈ ks, f x = f' x) (k : ∀ H', Sep (mapV a (ks ++ [l]) (lstA f') :: ds) H' → R H') : DP (.ref a) (.str l) (.ref p) R H :=
  s_madd q (lstA f') (Sep.lstC S e1) m n (fun x hx => by funext v; unfold lstA; rw [e2 x hx]) k
theorem s_iadd {p : Addr} {xs : List PyData} (q : Pick (mapV a ks (lsIA fd)) cs ds) (f' : PySem.Str → List PyData) (S : Sep (lsI p xs :: cs) H) (m : l ∉ ks) (n : ks.length ≤ 100000) (e1 : xs = f' l) (e2 : ∀ x ∈ ks, fd x = f' x) (k : ∀ H', Sep (mapV a (ks ++ [l]) (lsIA f') :: ds) H' → R H') : DP (.ref a) (.str l) (.ref p) R H :=
  s_madd q (lsIA f') (Sep.lsIC S e1) m n (fun x hx => by funext v; unfold lsIA; rw [e2 x hx]) k
theorem s_vadd {v : V} {d : PyData} (q : Pick (mapV a ks (imA fi)) cs ds) (f' : PySem.Str → PyData) (S : Sep (im v d :: cs) H) (m : l ∉ ks) (n : ks.length ≤ 100000) (e1 : d = f' l) (e2 : ∀ x ∈ ks, fi x = f' x) (k : ∀ H', Sep (mapV a (ks ++ [l]) (imA f') :: ds) H' → R H') : DP (.ref a) (.str l) v R H :=
  s_madd q (imA f') (by rw [e1] at S; exact S) m n (fun x hx => by funext v; unfold imA; rw [e2 x hx]) k
end
structure WM where
  p : Addr
  l : Addr
  q : Addr
  d : Addr
  w1 : Addr
  w2 : Addr
  w3 : Addr
  w4 : Addr
  w5 : Addr
  w6 : Addr
  w7 : Addr
  w8 : Addr
  w9 : Addr
  s1 : Addr
  s2 : Addr
  kl : List PySem.Str
  kh : List PySem.Str
@[reducible] def lnC (M : WM) (ln : PySem.Str → Ln) (F : List As) : List As :=
  pt M.w1 (.dK (dm M.kl fun l => .str (ln l).way.s)) :: pt M.w2 (.dK (dm M.kl fun l => .str (ln l).figs)) :: pt M.w3 (.dK (dm M.kl fun l => .int (ln l).many)) :: mapV M.w4 M.kl (lsIA fun l => (ln l).train.map trD) ::
  pt M.w5 (.dK (dm M.kl fun l => oV (ln l).en)) :: mapV M.w6 M.kl (imA fun l => oW (ln l).why) :: F
@[reducible] def rkwC (M : WM) (rk : PySem.Str → Rc) (F : List As) : List As :=
  mapV M.w7 M.kh (lstA fun w => (rk w).held.map oV) :: mapV M.w8 M.kh (lstA fun w => (rk w).brk.map .bl) :: mapV M.w9 M.kh (lstA fun w => (rk w).tak.map .int) :: F
@[reducible] def worC (M : WM) (h : Hs) (F : List As) : List As :=
  pt M.p (.dK (worF h.long M.l M.q h.mark M.d M.w1 M.w2 M.w3 M.w4 M.w5 M.w6 M.w7 M.w8 M.w9 M.s1 M.s2)) :: pt M.l (.lst (h.lines.map V.str)) :: pt M.q (.lst (h.queue.map V.str)) :: lsI M.d (h.done.map Dd.d) ::
  pt M.s1 (.lst (h.spots.map V.int)) :: pt M.s2 (.lst (h.steps.map V.int)) :: lnC M h.ln (rkwC M h.rk F)
/-- its keys are the hall's -/
structure WK (M : WM) (h : Hs) : Prop where
  nl : M.kl.Nodup
  l : ∀ x, x ∈ M.kl ↔ x ∈ h.lines
  nh : M.kh.Nodup
  h : ∀ x, x ∈ M.kh ↔ x ∈ h.wheres
  ll : M.kl.length ≤ 100000
  lh : M.kh.length ≤ 100000
theorem WK.to {M : WM} {h h' : Hs} (k : WK M h) (e1 : h'.lines = h.lines) (e2 : h'.wheres = h.wheres) : WK M h' := ⟨k.nl, fun x => by rw [e1]; exact k.l x, k.nh, fun x => by rw [e2]; exact k.h x, k.ll, k.lh⟩
theorem up_app {α β : Type} {F : α → β} {f : PySem.Str → α} {l : PySem.Str} {v : α} : (fun x => if x = l then F v else F (f x)) = fun x => F (up f l v x) := by
  funext x; unfold up; split <;> rfl
/-- the dicts by line, found in a dict -/
structure LnK (kvs : List (Key × V)) (M : WM) : Prop where
  w1 : valV kvs (.inr "way") = some (.ref M.w1)
  w2 : valV kvs (.inr "figures") = some (.ref M.w2)
  w3 : valV kvs (.inr "many") = some (.ref M.w3)
  w4 : valV kvs (.inr "train") = some (.ref M.w4)
  w5 : valV kvs (.inr "end") = some (.ref M.w5)
  w6 : valV kvs (.inr "why") = some (.ref M.w6)
theorem lnK_wor {n m : Int} {l q d : Addr} {M : WM} {s1 s2 : Addr} : LnK (worF n l q m d M.w1 M.w2 M.w3 M.w4 M.w5 M.w6 M.w7 M.w8 M.w9 s1 s2) M :=
  ⟨(inferInstance : Vk _ "way" _).vk, (inferInstance : Vk _ "figures" _).vk, (inferInstance : Vk _ "many" _).vk, (inferInstance : Vk _ "train" _).vk, (inferInstance : Vk _ "end" _).vk, (inferInstance : Vk _ "why" _).vk⟩
def spLBegin : Sp := fun vs H Q E => ∃ (M : WM) (kvs : List (Key × V)) (ln : PySem.Str → Ln) (l : PySem.Str) (w : Way) (F : List As), vs = [.ref M.p, .str l, .str w.s] ∧ LnK kvs M ∧ M.kl.Nodup ∧ M.kl.length ≤ 10000 ∧ Sep (pt M.p (.dK kvs) :: lnC M ln F) H ∧
  (l ∈ M.kl → ∀ H', Sep (pt M.p (.dK kvs) :: lnC M (up ln l { way := w }) F) H' → Q .non H') ∧ (l ∉ M.kl → ∀ H', Sep (pt M.p (.dK kvs) :: lnC { M with kl := M.kl ++ [l] } (up ln l { way := w }) F) H' → Q .non H')
def spLFreed : Sp := fun vs H Q E => ∃ (M : WM) (h : Hs) (l : PySem.Str) (F : List As), vs = [.ref M.p, .str l] ∧ WK M h ∧ l ∈ h.lines ∧ TrOk h l ∧ Sep (worC M h F) H ∧ ∀ H', Sep (worC M (h.freed l) F) H' → Q .non H'
def spFreeAt : Sp := fun vs H Q E => ∃ (M : WM) (h : Hs) (w : PySem.Str) (k : Nat) (F : List As), vs = [.ref M.p, .str w, .int k] ∧ WK M h ∧ w ∈ h.wheres ∧ (h.rk w).ok 60 ∧ k < (h.rk w).held.length ∧ Sep (worC M h F) H ∧ ∀ H', Sep (worC M h F) H' → Q (.bl ((h.rk w).rdy k)) H'
def spLTones : Sp := fun vs H Q E => ∃ (M : WM) (h : Hs) (F : List As), vs = [.ref M.p] ∧ WK M h ∧ h.Ok ∧ Sep (worC M h F) H ∧
  ∀ p H', Sep (lsI p ((Hs.tones h.queue.length h).1.map Tl.d) :: worC M (Hs.tones h.queue.length h).2 F) H' → Q (.ref p) H'
def spLPaper : Sp := fun vs H Q E => ∃ (M : WM) (h : Hs) (w : PySem.Str) (F : List As), vs = [.ref M.p, .str w] ∧ WK M h ∧ w ∈ h.wheres ∧ (h.rk w).ok 60 ∧ (∀ (k : Nat) (l : PySem.Str), (h.rk w).held[k]? = some (some l) → l ≠ "" ∧ l.length ≤ 10000) ∧ Sep (worC M h F) H ∧
  ∀ q H', Sep (im (.ref q) (.tuple ((h.rk w).paper.map .str)) :: worC M h F) H' → Q (.ref q) H'
def spLEnded : Sp := fun vs H Q E => ∃ (M : WM) (h : Hs) (l : PySem.Str) (y : V) (yy : Wy) (F : List As), vs = [.ref M.p, .str l, y] ∧ WK M h ∧ l ∈ h.lines ∧ TrOk h l ∧ Sep (im y yy.d :: worC M h F) H ∧ ∀ H', Sep (worC M (h.ended l yy) F) H' → Q .non H'
def spLGap : Sp := fun vs H Q E => ∃ (M : WM) (h : Hs) (l : PySem.Str) (ts : Tl) (h' : Hs) (F : List As), vs = [.ref M.p, .str l] ∧ WK M h ∧ h.Ok ∧ l ∈ h.lines ∧ h.gap l = .ok ([ts], h') ∧ Sep (worC M h F) H ∧
  ∀ t H', Sep (im (.ref t) ts.d :: worC M h' F) H' → Q (.ref t) H'
def spLHang : Sp := fun vs H Q E => ∃ (M : WM) (h : Hs) (l : PySem.Str) (ts : List Tl) (h' : Hs) (F : List As), vs = [.ref M.p, .str l] ∧ WK M h ∧ h.Ok ∧ l ∈ h.lines ∧ h.hang l = .ok (ts, h') ∧ Sep (worC M h F) H ∧
  ∀ p H', Sep (lsI p (ts.map Tl.d) :: worC M h' F) H' → Q (.ref p) H'
/-- the name of a refusal -/
def Er.s : Er → PySem.Str
  | .line => "NoLine"
  | .switch => "NoSwitch"
  | .notso => "NotSo"
def spAtLine : Sp := fun vs H Q E => ∃ (M : WM) (h : Hs) (wd : Wd) (l : PySem.Str) (F : List As), vs = [.ref M.p, .str wd.s, .str l] ∧ WK M h ∧ h.Ok ∧ Sep (worC M h F) H ∧
  (∀ ts h', h.atLine wd l = .ok (ts, h') → ∀ p H', Sep (lsI p (ts.map Tl.d) :: worC M h' F) H' → Q (.ref p) H') ∧ (∀ e, h.atLine wd l = .error e → ∀ H', Sep (worC M h F) H' → Q (.str e.s) H')
def spDue : Sp := fun vs H Q E => ∃ (M : WM) (h : Hs) (dv : V) (d : Dd) (F : List As), vs = [.ref M.p, dv] ∧ WK M h ∧ h.Ok ∧ h.done.length ≤ 100000 ∧ Sep (im dv d.d :: worC M h F) H ∧
  (∀ ts h', h.step d = .ok (ts, h') → ∀ p H', Sep (lsI p (ts.map Tl.d) :: im dv d.d :: worC M h' F) H' → Q (.ref p) H') ∧ (∀ e, h.step d = .error e → ∀ H', Sep (im dv d.d :: worC M h F) H' → Q (.str e.s) H')
section
variable {vs : List V} {H : Hp} {Q : VK} {E : XK}
theorem len_lbegin (h : spLBegin vs H Q E) : vs.length = 3 := by obtain ⟨M, kvs, ln, l, w, F, rfl, _⟩ := h; rfl
theorem len_lfreed (h : spLFreed vs H Q E) : vs.length = 2 := by obtain ⟨M, h, l, F, rfl, _⟩ := h; rfl
theorem len_freeat (h : spFreeAt vs H Q E) : vs.length = 3 := by obtain ⟨M, h, w, k, F, rfl, _⟩ := h; rfl
theorem len_ltones (h : spLTones vs H Q E) : vs.length = 1 := by obtain ⟨M, h, F, rfl, _⟩ := h; rfl
theorem len_lpaper (h : spLPaper vs H Q E) : vs.length = 2 := by obtain ⟨M, h, w, F, rfl, _⟩ := h; rfl
theorem len_lended (h : spLEnded vs H Q E) : vs.length = 3 := by obtain ⟨M, h, l, y, yy, F, rfl, _⟩ := h; rfl
theorem len_lgap (h : spLGap vs H Q E) : vs.length = 2 := by obtain ⟨M, h, l, ts, h', F, rfl, _⟩ := h; rfl
theorem len_lhang (h : spLHang vs H Q E) : vs.length = 2 := by obtain ⟨M, h, l, ts, h', F, rfl, _⟩ := h; rfl
theorem len_atline (h : spAtLine vs H Q E) : vs.length = 3 := by obtain ⟨M, h, wd, l, F, rfl, _⟩ := h; rfl
theorem len_due (h : spDue vs H Q E) : vs.length = 2 := by obtain ⟨M, h, dv, d, F, rfl, _⟩ := h; rfl
end
/-- the dicts by line, told otherwise -/
theorem Sep.lnM {M : WM} {ln' : PySem.Str → Ln} {g1 g2 g3 g5 : PySem.Str → V} {g4 : PySem.Str → List PyData} {g6 : PySem.Str → PyData} {F : List As} {H : Hp}
    (h : Sep (pt M.w1 (.dK (dm M.kl g1)) :: pt M.w2 (.dK (dm M.kl g2)) :: pt M.w3 (.dK (dm M.kl g3)) :: mapV M.w4 M.kl (lsIA g4) :: pt M.w5 (.dK (dm M.kl g5)) :: mapV M.w6 M.kl (imA g6) :: F) H)
    (h1 : ∀ x, g1 x = .str (ln' x).way.s) (h2 : ∀ x, g2 x = .str (ln' x).figs) (h3 : ∀ x, g3 x = .int ((ln' x).many : Nat)) (h4 : ∀ x, g4 x = (ln' x).train.map trD) (h5 : ∀ x, g5 x = oV (ln' x).en) (h6 : ∀ x, g6 x = oW (ln' x).why) : Sep (lnC M ln' F) H := by
  rw [funext h1, funext h2, funext h3, funext h4, funext h5, funext h6] at h
  exact h
theorem Sep.rkM {M : WM} {rk' : PySem.Str → Rc} {g1 g2 g3 : PySem.Str → List V} {F : List As} {H : Hp}
    (h : Sep (mapV M.w7 M.kh (lstA g1) :: mapV M.w8 M.kh (lstA g2) :: mapV M.w9 M.kh (lstA g3) :: F) H)
    (h1 : ∀ x, g1 x = (rk' x).held.map oV) (h2 : ∀ x, g2 x = (rk' x).brk.map .bl) (h3 : ∀ x, g3 x = (rk' x).tak.map .int) : Sep (rkwC M rk' F) H := by
  rw [funext h1, funext h2, funext h3] at h
  exact h
theorem s_indexS {K : PySem.W.Frag} {H : Hp} {Q : VK} {a : Addr} {zs : List PySem.Str} {z : PySem.Str} {cs ds : List As} (S : Sep cs H) (p : Pick (pt a (.lst (zs.map V.str))) cs ds) (m : z ∈ zs) (k : Q (.int (zs.idxOf z : Nat)) H) : rIndex K (.ref a) [.str z] H Q := by
  have hi : zs.idxOf z < zs.length := List.idxOf_lt_length_of_mem m
  refine ⟨a, zs.map V.str, .str z, zs.idxOf z, .str z, rfl, rfl, SqL.of (S.get p), rfl, flat_strs zs, by rw [List.getElem?_map, List.getElem?_eq_getElem hi, List.getElem_idxOf hi]; rfl, beq_self_eq_true z, fun j z' hj e => ?_, k⟩
  rw [List.getElem?_map] at e
  obtain ⟨y, hy, rfl⟩ := Option.map_eq_some_iff.mp e
  have := List.not_of_lt_findIdx (p := (· == z)) (xs := zs) (i := j) hj
  obtain ⟨h1, h2⟩ := List.getElem?_eq_some_iff.mp hy
  rw [h2] at this
  show (y == z) = false
  simpa using this
theorem filter_head {p : Nat → Bool} {l : List Nat} : (l.filter p).head? = l.find? p := List.head?_filter ..
theorem up_fn {α β : Type} (F : α → β) {f : PySem.Str → α} {l : PySem.Str} {v : α} (h : F v = F (f l)) (x : PySem.Str) : F (f x) = F (up f l v x) := by
  unfold up
  by_cases e : x = l
  · subst e; rw [if_pos rfl, h]
  · rw [if_neg e]
theorem up_ch {α β : Type} (F : α → β) {f : PySem.Str → α} {l : PySem.Str} {v : α} (x : PySem.Str) : (if x = l then F v else F (f x)) = F (up f l v x) := by
  unfold up; split <;> rfl
theorem inV_str (z : PySem.Str) : ∀ zs : List PySem.Str, inV (.str z) (zs.map V.str) = decide (z ∈ zs)
  | [] => by simp [inV]
  | y :: zs => by
    have ih := inV_str z zs
    unfold inV at ih ⊢
    rw [List.map_cons, List.any_cons, ih]
    show ((y == z) || _) = _
    by_cases e : y = z
    · subst e; simp
    · have : ¬ z = y := fun q => e q.symm
      simp [e, this]
theorem oV_none2 : oV none = .non := rfl
theorem oV_some2 {l : PySem.Str} : oV (some l) = .str l := rfl
instance stp_get2 {td ty tx : TE} {σ : St} {H : Hp} {Q : VK} : Stp (tDGet2 td ty tx σ H Q) (td σ H fun x H1 => ∃ a, x = .ref a ∧ IsD H1 a ∧ ty σ H1 fun y H2 => tx σ H2 fun z H3 => ∃ o, DGet H3 a y o ∧ Q (o.getD z) H3) := ⟨id⟩
end L2.Zs
namespace L2.Zs
open PySem PySem.Spec PyProof.Rows
def top (i : Nat) : Stmt := PySem.Challenge.pw_stephall_k03_plans_written_and_read.main.body.getD i (.Pass ⟨0, 0, 0, 0⟩)
structure Txt (K : PySem.W.Frag) (mg : PySem.Str → Option Value) (ad : Ad) : Prop where
  b_len : mg "len" = none
  b_range : mg "range" = none
  b_list : mg "list" = none
  b_tuple : mg "tuple" = none
  b_isinstance : mg "isinstance" = none
  b_int : mg "int" = none
  b_str : mg "str" = none
  b_set : mg "set" = none
  b_all : mg "all" = none
  b_min : mg "min" = none
  b_max : mg "max" = none
  b_zip : mg "zip" = none
  b_enumerate : mg "enumerate" = none
  b_sorted : mg "sorted" = none
  b_ValueError : mg "ValueError" = none
  g_SIGNS : mg "SIGNS" = some (.str "0123456789" ad.k1)
  g_MOST_LINES : mg "MOST_LINES" = some (.int 60 ad.k2)
  g_MOST_GROUPS : mg "MOST_GROUPS" = some (.int 40 ad.k3)
  g_MOST_SWITCHES : mg "MOST_SWITCHES" = some (.int 10 ad.k4)
  x_HallError : XC K mg "HallError" ad.HallError
  x_BadPlan : XC K mg "BadPlan" ad.BadPlan
  x_NoText : XC K mg "NoText" ad.NoText
  fPlan : FT K ad.Plan planFN
abbrev s_are_figures : Stmt := top 6
abbrev N_are_figures : List Str := ["text", "sign"]
theorem sc_are_figures : FnScope N_are_figures ["text"] (defScope s_are_figures) := ⟨rfl, rfl, rfl, by decide +kernel, rfl, by decide +kernel, by decide +kernel⟩
abbrev s_all_unlike : Stmt := top 11
abbrev N_all_unlike : List Str := ["things"]
theorem sc_all_unlike : FnScope N_all_unlike ["things"] (defScope s_all_unlike) := ⟨rfl, rfl, rfl, by decide +kernel, rfl, by decide +kernel, by decide +kernel⟩
abbrev s_are_lines : Stmt := top 12
abbrev N_are_lines : List Str := ["long", "lines", "line"]
theorem sc_are_lines : FnScope N_are_lines ["long", "lines"] (defScope s_are_lines) := ⟨rfl, rfl, rfl, by decide +kernel, rfl, by decide +kernel, by decide +kernel⟩
abbrev s_are_groups : Stmt := top 13
abbrev N_are_groups : List Str := ["long", "groups", "prefix", "many"]
theorem sc_are_groups : FnScope N_are_groups ["long", "groups"] (defScope s_are_groups) := ⟨rfl, rfl, rfl, by decide +kernel, rfl, by decide +kernel, by decide +kernel⟩
abbrev s_PlanQ_initQ : Stmt := inClass (top 14) 0
abbrev N_PlanQ_initQ : List Str := ["self", "long", "lines", "seekers", "groups", "prefix", "many"]
theorem sc_PlanQ_initQ : FnScope N_PlanQ_initQ ["self", "long", "lines", "seekers", "groups"] (defScope s_PlanQ_initQ) := ⟨rfl, rfl, rfl, by decide +kernel, rfl, by decide +kernel, by decide +kernel⟩
abbrev s_plan_text : Stmt := top 15
abbrev N_plan_text : List Str := ["plan", "rows", "line", "prefix", "many"]
theorem sc_plan_text : FnScope N_plan_text ["plan"] (defScope s_plan_text) := ⟨rfl, rfl, rfl, by decide +kernel, rfl, by decide +kernel, by decide +kernel⟩
abbrev s_small_number : Stmt := top 16
abbrev N_small_number : List Str := ["word"]
theorem sc_small_number : FnScope N_small_number ["word"] (defScope s_small_number) := ⟨rfl, rfl, rfl, by decide +kernel, rfl, by decide +kernel, by decide +kernel⟩
abbrev s_row_words : Stmt := top 17
abbrev N_row_words : List Str := ["row", "words", "wanted", "number"]
theorem sc_row_words : FnScope N_row_words ["row"] (defScope s_row_words) := ⟨rfl, rfl, rfl, by decide +kernel, rfl, by decide +kernel, by decide +kernel⟩
abbrev s_read_plan : Stmt := top 18
abbrev N_read_plan : List Str := ["text", "told", "lines", "groups", "row", "words"]
theorem sc_read_plan : FnScope N_read_plan ["text"] (defScope s_read_plan) := ⟨rfl, rfl, rfl, by decide +kernel, rfl, by decide +kernel, by decide +kernel⟩
abbrev s_Lcell : Stmt := top 20
abbrev N_Lcell : List Str := ["script", "k"]
theorem sc_Lcell : FnScope N_Lcell ["script", "k"] (defScope s_Lcell) := ⟨rfl, rfl, rfl, by decide +kernel, rfl, by decide +kernel, by decide +kernel⟩
abbrev s_Ldraws : Stmt := top 21
abbrev N_Ldraws : List Str := ["script", "k", "many", "base", "primes", "cell", "rest", "row", "j", "mash"]
theorem sc_Ldraws : FnScope N_Ldraws ["script", "k", "many", "base"] (defScope s_Ldraws) := ⟨rfl, rfl, rfl, by decide +kernel, rfl, by decide +kernel, by decide +kernel⟩
abbrev s_Lnumber : Stmt := top 22
abbrev N_Lnumber : List Str := ["draw", "long", "figures", "k"]
theorem sc_Lnumber : FnScope N_Lnumber ["draw", "long"] (defScope s_Lnumber) := ⟨rfl, rfl, rfl, by decide +kernel, rfl, by decide +kernel, by decide +kernel⟩
abbrev s_Lplan : Stmt := top 23
abbrev N_Lplan : List Str := ["script", "at", "plan", "long", "many", "draws", "draw", "stems", "lines", "k", "keep", "stem", "line", "heads", "size", "groups", "seekers"]
theorem sc_Lplan : FnScope N_Lplan ["script", "at"] (defScope s_Lplan) := ⟨rfl, rfl, rfl, by decide +kernel, rfl, by decide +kernel, by decide +kernel⟩
abbrev s_Lplan_rows : Stmt := top 24
abbrev N_Lplan_rows : List Str := ["parts", "long", "lines", "seekers", "groups", "line", "rows", "prefix", "many"]
theorem sc_Lplan_rows : FnScope N_Lplan_rows ["parts"] (defScope s_Lplan_rows) := ⟨rfl, rfl, rfl, by decide +kernel, rfl, by decide +kernel, by decide +kernel⟩
abbrev s_Ldealt : Stmt := top 25
abbrev N_Ldealt : List Str := ["rows", "draws", "found", "k"]
theorem sc_Ldealt : FnScope N_Ldealt ["rows", "draws"] (defScope s_Ldealt) := ⟨rfl, rfl, rfl, by decide +kernel, rfl, by decide +kernel, by decide +kernel⟩
abbrev s_Lparts : Stmt := top 26
abbrev N_Lparts : List Str := ["plan"]
theorem sc_Lparts : FnScope N_Lparts ["plan"] (defScope s_Lparts) := ⟨rfl, rfl, rfl, by decide +kernel, rfl, by decide +kernel, by decide +kernel⟩
abbrev s_law : Stmt := top 27
abbrev N_law : List Str := ["script", "due", "plans", "k", "parts", "long", "lines", "seekers", "groups", "rows", "text", "plan"]
theorem sc_law : FnScope N_law ["script"] (defScope s_law) := ⟨rfl, rfl, rfl, by decide +kernel, rfl, by decide +kernel, by decide +kernel⟩
end L2.Zs
namespace L2.Zs
open PySem PySem.Spec PyProof.Rows
local macro_rules | `(tactic| wtm_at "pk") => `(tactic| (repeat (first | with_reducible exact Pick.here | with_reducible apply Pick.there)))
local macro_rules | `(tactic| wtm_at "cg") => `(tactic| (repeat (first | with_reducible exact Chg.here | with_reducible apply Chg.there)))
local macro_rules | `(tactic| wtm_at "sa") => `(tactic| (repeat (first | with_reducible exact SetAt.here | with_reducible apply SetAt.there)))
local macro_rules | `(tactic| wtm_at "wk1") => `(tactic| (repeat (first | with_reducible exact Wk.refl | (with_reducible apply Wk.pick; focus (wtm_at "pk"; done)) | with_reducible apply Wk.drop)))
local macro_rules | `(tactic| wtm_at "wk") => `(tactic| (refine Wk.sep ?_ (by assumption); wtm_at "wk1"))
local macro_rules | `(tactic| wtm_at "sz") => `(tactic| first | exact Nat.le_of_ble_eq_true rfl | assumption | omega)
local macro_rules | `(tactic| wtm_at "s1") => `(tactic| first
  | refine Stp.go ?_
  | ((with_reducible show rMod _ _ _ _); (with_reducible refine s_mod (by first | decide | assumption | omega) ?_))
  | ((with_reducible show rMulZ _ _ _ _); (with_reducible refine s_mulI (by first | exact cmul_l (by decide) | exact cmul_r (by decide) | (exact cmul_l (by omega)) | (exact cmul_r (by omega))) ?_))
  | ((with_reducible show rDiv _ _ _ _); (with_reducible refine s_div (cdiv_of (by decide) (by decide)) ?_))
  | ((with_reducible show rPow _ _ _ _); (with_reducible refine s_pow (cpow_of (by decide) (by decide) (by decide)) ?_))
  | ((with_reducible show rLen _ _ _ _); (with_reducible refine s_lenL (by assumption) (by wtm_at "pk") ?_))
  | ((with_reducible show rLen _ _ _ _); (with_reducible refine s_lenQ (by assumption) (by wtm_at "pk") ?_))
  | ((with_reducible show rLen _ _ _ _); (with_reducible refine s_lenT (by assumption) (by wtm_at "pk") ?_))
  | ((with_reducible show tyV _ _ _ _ ∧ _); (with_reducible refine s_tyL (by assumption) (by wtm_at "pk") ?_)))
local macro_rules | `(tactic| wtm_at "st") => `(tactic| (repeat (first | wtm_at "s1" | with_reducible refine s_seq ?_)))
local macro_rules | `(tactic| wtm_at "stc") => `(tactic| (repeat wtm_at "s1"))

section
variable {P : Program} {w : World} {K : PySem.W.Frag} {mg : PySem.Str → Option Value} {base : Heap} {ad : Ad} {Cs : List Addr} {C : Addr} {f : Addr} {fd : FuncData}
set_option maxHeartbeats 2000000
theorem ok_Lcell {f : Addr} {fd : FuncData} (T : Txt K mg ad) (F : Fun K "_law_cell" "_law_cell" s_Lcell f fd) : FnOk P w K mg base (L2.CX P w) 1 f fd ["script", "k"] (spCell K) := by
  refine F.okX sc_Lcell (fun vs H Q E h => len_cell h) (fun cdv A outer s H vs Q E hr h => ?_)
  refine ⟨_, (pss_cons (ps_if (pt_cmpR zo_lt (pv 1) (pe_callB (k_len (K := K) rfl) (by rfl) T.b_len (by decide +kernel) (pa_cons (pv 0) pa_nil)) (nomark _)) (pss_one (ps_ret (pe_ix (k_ix (K := K) rfl) (pv 0) (pv 1) (fun _ _ => rfl)))) pss_nil)
  (pss_cons (ps_if (pt_cmpR (k_eq (K := K) rfl hr.units) (pe_callB (k_len (K := K) rfl) (by rfl) T.b_len (by decide +kernel) (pa_cons (pv 0) pa_nil)) pe_int (nomark _)) (pss_one (ps_ret (pe_op zo_add (pe_op zo_mul pe_int (pv 1)) pe_int))) pss_nil)
  (pss_one (ps_ret (pe_op zo_add (pe_op zo_mod (pe_ix (k_ix (K := K) rfl) (pv 0) (pe_op zo_mod (pv 1) (pe_callB (k_len (K := K) rfl) (by rfl) T.b_len (by decide +kernel) (pa_cons (pv 0) pa_nil))) (fun _ _ => rfl)) pe_int) (pe_op zo_mul pe_int (pv 1))))))), ?_⟩
  obtain ⟨a, ns, k, cs, rfl, S, h0, q⟩ := h
  refine s_start (σ := [some (.ref a), some (.int k)]) rfl ?_
  wtm_at "st"
  refine s_ifd (fun h1 => ?_) (fun h1 => ?_)
  · wtm_at "st"
    obtain ⟨v, hv, hm, _⟩ := atI_lt (xs := ns.map V.int) h0 h1
    obtain ⟨z, _, rfl⟩ := List.mem_map.mp hm
    exact s_ixQ S (by wtm_at "pk") hv (q z)
  · wtm_at "st"
    refine s_ifd (fun h2 => ?_) (fun h2 => ?_)
    · wtm_at "st"
      exact q _
    · have h3 : (0 : Int) < ((ns.map V.int).length : Nat) := by omega
      wtm_at "st"
      obtain ⟨v, hv, hm, _⟩ := atI_lt (xs := ns.map V.int) (i := k % ((ns.map V.int).length : Nat)) (Int.emod_nonneg _ (by omega)) (Int.emod_lt_of_pos _ h3)
      obtain ⟨z, _, rfl⟩ := List.mem_map.mp hm
      refine s_ixQ S (by wtm_at "pk") hv ?_
      wtm_at "st"
      exact q _
theorem len_nn (n : Nat) : (n : Int) % 8 < 8 ∧ 0 ≤ (n : Int) % 8 := ⟨Int.emod_lt_of_pos _ (by decide), Int.emod_nonneg _ (by decide)⟩
theorem ok_Ldraws {f : Addr} {fd : FuncData} (T : Txt K mg ad) (c_Lcell : Cal P w K mg base 1 "_law_cell" (spCell K)) (F : Fun K "_law_draws" "_law_draws" s_Ldraws f fd) : FnOk P w K mg base (L2.CX P w) 2 f fd ["script", "k", "many", "base"] (spDraws K) := by
  refine F.okX sc_Ldraws (fun vs H Q E h => len_draws h) (fun cdv A outer s H vs Q E hr h => ?_)
  have tk : Takes (cxOf (L2.CX P w) P w K mg base N_Ldraws "_law_draws" (defScope s_Ldraws) f cdv A outer s H E) (fun cls d _ H => E cls d H) := takes_of rfl rfl rfl rfl
  have po_ : PassesOwn (model P w) (cxOf (L2.CX P w) P w K mg base N_Ldraws "_law_draws" (defScope s_Ldraws) f cdv A outer s H E).A (cxOf (L2.CX P w) P w K mg base N_Ldraws "_law_draws" (defScope s_Ldraws) f cdv A outer s H E).env (cxOf (L2.CX P w) P w K mg base N_Ldraws "_law_draws" (defScope s_Ldraws) f cdv A outer s H E).xe := passes_of rfl
  refine ⟨_, (pss_cons (ps_set (i := 4) sc_Ldraws.nd rfl (Or.inl rfl) (pe_tup (pa_cons pe_int (pa_cons pe_int (pa_cons pe_int (pa_cons pe_int (pa_cons pe_int (pa_cons pe_int (pa_cons pe_int (pa_cons pe_int pa_nil))))))))))
  (pss_cons (ps_set (i := 5) sc_Ldraws.nd rfl (Or.inl rfl) (z_call c_Lcell tk hr (by decide) (by rfl) (pa_cons (pv 0) (pa_cons (pv 1) pa_nil))))
  (pss_cons (ps_set (i := 6) sc_Ldraws.nd rfl (Or.inl rfl) pe_int)
  (pss_cons (ps_if (pt_cmpR zo_ge (pv 5) (pe_op zo_pow pe_int pe_int) (nomark _)) (pss_one (ps_set (i := 6) sc_Ldraws.nd rfl (Or.inl rfl) (pv 5))) pss_nil)
  (pss_cons (ps_set (i := 7) sc_Ldraws.nd rfl (Or.inl rfl) (pe_lst pa_nil))
  (pss_cons (ps_for (po_) rfl (pi_range1 (by rfl) T.b_range (pa_cons (pv 2) pa_nil)) (pg_name (i := 8) sc_Ldraws.nd rfl (Or.inl rfl)) (pss_cons (ps_set (i := 9) sc_Ldraws.nd rfl (Or.inl rfl) (pe_op zo_mul (pe_op zo_mod (pv 5) (pe_ix (k_ix (K := K) rfl) (pv 4) (pe_op zo_mod (pv 8) pe_int) (fun _ _ => rfl))) (pe_op zo_add pe_int (pe_op zo_mul (pe_op zo_mul pe_int (pv 8)) (pv 8)))))
  (pss_cons (ps_set (i := 9) sc_Ldraws.nd rfl (Or.inl rfl) (pe_op zo_add (pe_op zo_add (pv 9) (pe_op zo_mul (pe_op zo_mul pe_int (pe_op zo_add (pv 8) pe_int)) (pe_op zo_add (pv 8) pe_int))) (pe_op zo_mul pe_int (pv 1))))
  (pss_cons (ps_set (i := 9) sc_Ldraws.nd rfl (Or.inl rfl) (pe_op zo_mod (pv 9) (pe_ix (k_ix (K := K) rfl) (pv 4) (pe_op zo_mod (pe_op zo_add (pe_op zo_mul pe_int (pv 8)) (pv 1)) pe_int) (fun _ _ => rfl))))
  (pss_cons (ps_set (i := 9) sc_Ldraws.nd rfl (Or.inl rfl) (pe_op zo_mod (pe_op zo_mul (pe_op zo_mul (pv 9) (pv 9)) (pv 9)) (pe_ix (k_ix (K := K) rfl) (pv 4) (pe_op zo_mod (pe_op zo_add (pv 8) pe_int) pe_int) (fun _ _ => rfl))))
  (pss_cons (ps_if (pt_cmpR zo_gt (pv 6) pe_int (nomark _)) (pss_one (ps_set (i := 9) sc_Ldraws.nd rfl (Or.inl rfl) (pv 6))) pss_nil)
  (pss_cons (ps_expr (k_bm (K := K) rfl PySem.F.plainAttrs_list PySem.F.slot_list_append PySem.F.type_list_append z_append (pv 7) (pa_cons (pe_op zo_mod (pv 9) (pv 3)) pa_nil)))
  (pss_one (ps_set (i := 6) sc_Ldraws.nd rfl (Or.inl rfl) (pe_op zo_div (pv 6) (pv 3)))))))))))
  (pss_one (ps_ret (pv 7))))))))), ?_⟩
  obtain ⟨a, ns, k, many, bs, cs, rfl, S, h0, h00, h1, h2, h3, q⟩ := h
  refine s_start (σ := [some (.ref a), some (.int k), some (.int many), some (.int bs), none, none, none, none, none, none]) rfl ?_
  wtm_at "st"
  refine s_newT (by wtm_at "sz") S fun p H S => ?_
  wtm_at "st"
  refine ⟨a, ns, k, _, rfl, S.pick (by wtm_at "pk"), h0, fun z => ?_⟩
  wtm_at "stc"
  with_reducible refine s_cut (fun σ H' => H' = H ∧ ∃ rest : Int, 0 ≤ rest ∧ σ = [some (.ref a), some (.int k), some (.int many), some (.int bs), some (.ref p), some (.int z), some (.int rest), none, none, none]) ?_ (fun N go => ?_)
  rotate_left
  · wtm_at "st"
    refine s_ifd (fun h5 => ?_) (fun h5 => ?_)
    · wtm_at "st"
      exact go _ _ ⟨rfl, z, (by have : (0:Int) ≤ 10 ^ (18 : Int).toNat := by decide
                                omega), rfl⟩
    · wtm_at "st"
      exact go _ _ ⟨rfl, 0, by decide, rfl⟩
  rintro _ _ ⟨rfl, rest, hrest, rfl⟩
  have S : Sep (pt p (.tup (prL.map V.int)) :: sq K a (ns.map V.int) :: cs) _ := S
  wtm_at "st"
  refine s_newL (by wtm_at "sz") S fun q1 H S => ?_
  wtm_at "st"
  refine s_rng1 h1 (by omega) (lp_range (fun i σ H => ∃ (rest : Int) (row : List Int) (v8 v9 : Option V), σ = [some (.ref a), some (.int k), some (.int many), some (.int bs), some (.ref p), some (.int z), some (.int rest), some (.ref q1), v8, v9] ∧
    0 ≤ rest ∧ row.length = i ∧ (∀ r ∈ row, 0 ≤ r ∧ r < bs) ∧ Sep (pt q1 (.lst (row.map V.int)) :: pt p (.tup (prL.map V.int)) :: sq K a (ns.map V.int) :: cs) H)
    ⟨rest, [], none, none, rfl, hrest, rfl, (fun r hr => nomatch hr), S⟩ ?_ ?_)
  · rintro i σ H hi ⟨rest, row, v8, v9, rfl, hrest, hl, hrow, S⟩
    have hi' : (i : Int) < 1000000 := by omega
    wtm_at "st"
    obtain ⟨p1, hp1, e1⟩ := prL_at i
    refine s_ixT S (by wtm_at "pk") e1 ?_
    have b1 := emod_in z hp1.1
    wtm_at "st"
    obtain ⟨p2, hp2, e2⟩ := prL_at (3 * i + k)
    refine s_ixT S (by wtm_at "pk") e2 ?_
    wtm_at "s1"
    have b2 := emod_in (z % p1 * (48271 + 2 * (i : Int) * i) + 7919 * ((i : Int) + 1) * ((i : Int) + 1) + 104729 * k) hp2.1
    generalize (z % p1 * (48271 + 2 * (i : Int) * i) + 7919 * ((i : Int) + 1) * ((i : Int) + 1) + 104729 * k) % p2 = m at b2 ⊢
    wtm_at "st"
    obtain ⟨p3, hp3, e3⟩ := prL_at (i + 5)
    refine s_ixT S (by wtm_at "pk") e3 ?_
    wtm_at "s1"
    have b3 := emod_in (m * m * m) hp3.1
    generalize (m * m * m) % p3 = m3 at b3 ⊢
    wtm_at "stc"
    with_reducible refine s_cut (fun σ H' => H' = H ∧ ∃ m : Int, σ = [some (.ref a), some (.int k), some (.int many), some (.int bs), some (.ref p), some (.int z), some (.int rest), some (.ref q1), some (.int i), some (.int m)]) ?_ (fun N go => ?_)
    rotate_left
    · wtm_at "st"
      refine s_ifd (fun h5 => ?_) (fun h5 => ?_)
      · wtm_at "st"
        exact go _ _ ⟨rfl, _, rfl⟩
      · wtm_at "st"
        exact go _ _ ⟨rfl, _, rfl⟩
    rintro _ _ ⟨rfl, m4, rfl⟩
    have hb : 0 < bs := h3.1
    have b4 := emod_in m4 hb
    wtm_at "st"
    refine s_append (v := .int (m4 % bs)) (by assumption) (by wtm_at "cg") (by rw [List.length_map, hl]; exact Nat.lt_of_lt_of_le (show i < 1000000 by omega) (by decide)) fun H S => ?_
    wtm_at "st"
    refine s_div h3 ?_
    wtm_at "st"
    refine ⟨rest / bs, row ++ [m4 % bs], _, _, rfl, Int.ediv_nonneg hrest (by omega), by simp [hl], fun r hr => ?_, ?_⟩
    · rcases List.mem_append.mp hr with hr | hr
      · exact hrow r hr
      · rw [List.mem_singleton.mp hr]; exact b4
    · rw [List.map_append]; exact S
  · rintro σ H ⟨rest, row, v8, v9, rfl, hrest, hl, hrow, S⟩
    wtm_at "st"
    refine q row q1 H (by omega) hrow ?_
    wtm_at "wk"

theorem ok_Lnumber (T : Txt K mg ad) (F : Fun K "_law_number" "_law_number" s_Lnumber f fd) : FnOk P w K mg base (L2.CX P w) 1 f fd ["draw", "long"] spNumber := by
  refine F.okX sc_Lnumber (fun vs H Q E h => len_number h) (fun cdv A outer s H vs Q E hr h => ?_)
  have tk : Takes (cxOf (L2.CX P w) P w K mg base N_Lnumber "_law_number" (defScope s_Lnumber) f cdv A outer s H E) (fun cls d _ H => E cls d H) := takes_of rfl rfl rfl rfl
  have po_ : PassesOwn (model P w) (cxOf (L2.CX P w) P w K mg base N_Lnumber "_law_number" (defScope s_Lnumber) f cdv A outer s H E).A (cxOf (L2.CX P w) P w K mg base N_Lnumber "_law_number" (defScope s_Lnumber) f cdv A outer s H E).env (cxOf (L2.CX P w) P w K mg base N_Lnumber "_law_number" (defScope s_Lnumber) f cdv A outer s H E).xe := passes_of rfl
  refine ⟨_, (pss_cons (ps_set (i := 2) sc_Lnumber.nd rfl (Or.inl rfl) pe_str)
  (pss_cons (ps_for (po_) rfl (pi_range1 (by rfl) T.b_range (pa_cons (pv 1) pa_nil)) (pg_name (i := 3) sc_Lnumber.nd rfl (Or.inl rfl)) (pss_cons (ps_set (i := 2) sc_Lnumber.nd rfl (Or.inl rfl) (pe_op zo_add (pv 2) (pe_ix (k_ix (K := K) rfl) pe_str (pe_op zo_mod (pv 0) pe_int) (fun _ _ => rfl))))
  (pss_one (ps_set (i := 0) sc_Lnumber.nd rfl (Or.inl rfl) (pe_op zo_div (pv 0) pe_int)))))
  (pss_one (ps_ret (pv 2))))), ?_⟩
  obtain ⟨d, n, rfl, h0, h1, q⟩ := h
  refine s_start (σ := [some (.int d), some (.int n), none, none]) rfl ?_
  wtm_at "st"
  refine ⟨n, rfl, by omega, by omega, (lp_range (fun i σ H' => H' = H ∧ ∃ (d : Int) (z : PySem.Str) (v : Option V), σ = [some (.int d), some (.int n), some (.str z), v] ∧ figs i z) ⟨rfl, d, _, none, rfl, by decide +kernel, fun c hc => by
    rw [show (PySem.Str.ofString "").cps.toList = [] by decide +kernel] at hc
    cases hc⟩ ?_ ?_)⟩
  · rintro i σ H' hi ⟨rfl, d, z, v, rfl, hz⟩
    wtm_at "st"
    obtain ⟨c, e, h48, h57⟩ := digit_at d
    refine s_ixS (by decide +kernel) e ?_
    refine s_addS (by rw [hz.1]; exact Nat.le_trans (show i + 1 ≤ 100001 by omega) (by decide)) ?_
    wtm_at "st"
    refine ⟨rfl, _, _, _, rfl, by rw [app_len, hz.1]; rfl, fun x hx => ?_⟩
    rw [app_codes] at hx
    rcases List.mem_append.mp hx with hx | hx
    · exact hz.2 x hx
    · simp at hx
      omega
  · rintro σ H' ⟨rfl, d, z, v, rfl, hz⟩
    wtm_at "st"
    exact q z hz

theorem ok_all_unlike (T : Txt K mg ad) (F : Fun K "all_unlike" "all_unlike" s_all_unlike f fd) : FnOk P w K mg base (L2.CX P w) 1 f fd ["things"] spUnlike := by
  refine F.okX sc_all_unlike (fun vs H Q E h => len_unlike h) (fun cdv A outer s H vs Q E hr h => ?_)
  have tk : Takes (cxOf (L2.CX P w) P w K mg base N_all_unlike "all_unlike" (defScope s_all_unlike) f cdv A outer s H E) (fun cls d _ H => E cls d H) := takes_of rfl rfl rfl rfl
  have po_ : PassesOwn (model P w) (cxOf (L2.CX P w) P w K mg base N_all_unlike "all_unlike" (defScope s_all_unlike) f cdv A outer s H E).A (cxOf (L2.CX P w) P w K mg base N_all_unlike "all_unlike" (defScope s_all_unlike) f cdv A outer s H E).env (cxOf (L2.CX P w) P w K mg base N_all_unlike "all_unlike" (defScope s_all_unlike) f cdv A outer s H E).xe := passes_of rfl
  refine ⟨_, (pss_one (ps_ret (pe_cmpR (k_eq (K := K) rfl hr.units) (z_lenU (K := K) rfl rfl (by rfl) T.b_len (by rfl) T.b_set (pv 0)) (pe_callB (k_len (K := K) rfl) (by rfl) T.b_len (by decide +kernel) (pa_cons (pv 0) pa_nil)) (nomark _)))), ?_⟩
  obtain ⟨a, xs, F, rfl, hz, S, q⟩ := h
  refine s_start (σ := [some (.ref a)]) rfl ?_
  wtm_at "st"
  refine ⟨a, xs, rfl, SqL.of (S.get (by wtm_at "pk")), hz, fun c hc => ?_⟩
  wtm_at "st"
  have e : decide ((c : Int) = ((xs.map V.str).length : Nat)) = decide xs.Nodup := by
    refine decide_eq_decide.mpr ?_
    rw [List.length_map]
    have := hc.nd
    rw [List.take_length] at this
    rw [← this]
    omega
  rw [e]
  exact q
theorem ok_are_figures (T : Txt K mg ad) (F : Fun K "are_figures" "are_figures" s_are_figures f fd) : FnOk P w K mg base (L2.CX P w) 1 f fd ["text"] spFigs := by
  refine F.okX sc_are_figures (fun vs H Q E h => len_figs h) (fun cdv A outer s H vs Q E hr h => ?_)
  have tk : Takes (cxOf (L2.CX P w) P w K mg base N_are_figures "are_figures" (defScope s_are_figures) f cdv A outer s H E) (fun cls d _ H => E cls d H) := takes_of rfl rfl rfl rfl
  have po_ : PassesOwn (model P w) (cxOf (L2.CX P w) P w K mg base N_are_figures "are_figures" (defScope s_are_figures) f cdv A outer s H E).A (cxOf (L2.CX P w) P w K mg base N_are_figures "are_figures" (defScope s_are_figures) f cdv A outer s H E).env (cxOf (L2.CX P w) P w K mg base N_are_figures "are_figures" (defScope s_are_figures) f cdv A outer s H E).xe := passes_of rfl
  refine ⟨_, (pss_cons (ps_for (po_) rfl (pi_str (pv 0)) (pg_name (i := 1) sc_are_figures.nd rfl (Or.inl rfl)) (pss_one (ps_if (pt_cmpR zo_notInS (pv 1) (pe_glob (v := V.str "0123456789") (by rfl) T.g_SIGNS ⟨_, rfl⟩) (by with_unfolding_all rfl)) (pss_one (ps_ret pe_bl)) pss_nil)))
  (pss_one (ps_ret (pe_cmpR (k_ne (K := K) rfl hr.units) (pv 0) pe_str (nomark _))))), ?_⟩
  obtain ⟨z, rfl, q⟩ := h
  refine s_start (σ := [some (.str z), none]) rfl ?_
  wtm_at "st"
  refine s_forS (lp_str (fun i σ H' => H' = H ∧ ∃ v, σ = [some (.str z), v] ∧ ∀ c ∈ z.cps.toList.take i, dig c = true) ⟨rfl, none, rfl, fun c h => by simp at h⟩ ?_ ?_)
  · rintro i c σ H' hc ⟨rfl, v, rfl, hd⟩
    wtm_at "st"
    refine s_ifn (fun c1 => ?_) (fun c1 => ?_)
    · wtm_at "st"
      have e : figB z = false := by
        unfold figB
        rw [Bool.and_eq_false_iff]
        left
        rw [List.all_eq_false]
        exact ⟨c, List.mem_of_getElem? hc, by unfold dig; simpa using c1⟩
      rw [e] at q
      exact q
    · wtm_at "st"
      refine ⟨rfl, _, rfl, fun x hx => ?_⟩
      rw [List.take_succ, hc] at hx
      rcases List.mem_append.mp hx with hx | hx
      · exact hd x hx
      · simp at hx
        subst hx
        exact decide_eq_true c1
  · rintro σ H' ⟨rfl, v, rfl, hd⟩
    wtm_at "st"
    have e : figB z = !decide (z = "") := by
      unfold figB
      rw [List.all_eq_true.mpr (fun c h => hd c (by rw [List.take_length]; exact h))]
      rfl
    rw [e] at q
    exact q
theorem ok_are_lines (T : Txt K mg ad) (c_are_figures : Cal P w K mg base 1 "are_figures" spFigs) (c_all_unlike : Cal P w K mg base 1 "all_unlike" spUnlike) (F : Fun K "are_lines" "are_lines" s_are_lines f fd) : FnOk P w K mg base (L2.CX P w) 2 f fd ["long", "lines"] spLines := by
  refine F.okX sc_are_lines (fun vs H Q E h => len_lines h) (fun cdv A outer s H vs Q E hr h => ?_)
  have tk : Takes (cxOf (L2.CX P w) P w K mg base N_are_lines "are_lines" (defScope s_are_lines) f cdv A outer s H E) (fun cls d _ H => E cls d H) := takes_of rfl rfl rfl rfl
  have po_ : PassesOwn (model P w) (cxOf (L2.CX P w) P w K mg base N_are_lines "are_lines" (defScope s_are_lines) f cdv A outer s H E).A (cxOf (L2.CX P w) P w K mg base N_are_lines "are_lines" (defScope s_are_lines) f cdv A outer s H E).env (cxOf (L2.CX P w) P w K mg base N_are_lines "are_lines" (defScope s_are_lines) f cdv A outer s H E).xe := passes_of rfl
  refine ⟨_, (pss_cons (ps_if ((pw_or (pt_cmpR zo_lt (pe_callB (k_len (K := K) rfl) (by rfl) T.b_len (by decide +kernel) (pa_cons (pv 1) pa_nil)) pe_int (nomark _)) (pw_or (pt_cmpR zo_gt (pe_callB (k_len (K := K) rfl) (by rfl) T.b_len (by decide +kernel) (pa_cons (pv 1) pa_nil)) (pe_glob (v := V.int 60) (by rfl) T.g_MOST_LINES ⟨_, rfl⟩) (nomark _)) (pw_or1 (pt_not (pt_val (z_call c_all_unlike tk hr (by decide) (by rfl) (pa_cons (pv 1) pa_nil)))))))).pt (pss_one (ps_ret pe_bl)) pss_nil)
  (pss_one (ps_ret (pe_callB (k_all (K := K) rfl rfl) (by rfl) T.b_all (by decide +kernel) (pa_cons (pe_lc (own := [("line", 2)]) (g := gName 2) (tt := tYes) rfl sc_are_lines.nd (k_list (K := K) rfl (pv 1)) (blkOk_by (N := N_are_lines) (sc := defScope s_are_lines) (by decide +kernel)) (fun _ _ _ _ _ => (pg_name (i := 2) sc_are_lines.nd rfl (Or.inl rfl))) (fun _ _ _ _ _ => pts_nil) (fun _ _ _ _ _ => (pe_and (pe_cmpR (k_eq (K := K) rfl hr.units) (pe_callB (k_len (K := K) rfl) (by rfl) T.b_len (by decide +kernel) (pa_cons (pv 2) pa_nil)) (pv 0) (nomark _)) (pe_one (z_call c_are_figures takes0 hr (by decide) (by rfl) (pa_cons (pv 2) pa_nil)))))) pa_nil))))), ?_⟩
  obtain ⟨long, a, xs, F, rfl, hz, hzz, S, q⟩ := h
  refine s_start (σ := [some (.int long), some (.ref a), none]) rfl ?_
  have fin : ∀ {b : Bool}, linesB long xs = b → Q (.bl b) H := fun e => e ▸ q H S
  wtm_at "st"
  rw [List.length_map]
  refine s_ifd (fun c1 => ?_) (fun c1 => ?_)
  · wtm_at "st"
    exact fin (by unfold linesB; rw [decide_eq_false (show ¬ 1 ≤ xs.length by omega)]; rfl)
  · wtm_at "st"
    rw [List.length_map]
    refine s_ifd (fun c2 => ?_) (fun c2 => ?_)
    · wtm_at "st"
      exact fin (by unfold linesB; rw [decide_eq_false (show ¬ xs.length ≤ 60 by omega)]; simp)
    · wtm_at "st"
      refine ⟨a, xs, F, rfl, hz, S, ?_⟩
      wtm_at "st"
      refine s_ifn (fun c3 => ?_) (fun c3 => ?_)
      · wtm_at "st"
        exact fin (by unfold linesB; rw [decide_eq_false c3]; simp)
      · wtm_at "st"
        have eb : linesB long xs = (xs.map fun z => decide ((z.length : Int) = long) && figB z).all id := by
          unfold linesB
          rw [decide_eq_true (show 1 ≤ xs.length by omega), decide_eq_true (show xs.length ≤ 60 by omega), decide_eq_true c3, List.all_map]
          rfl
        refine ⟨a, rfl, ⟨_, SqL.of (S.get (by wtm_at "pk"))⟩, ?_⟩
        refine s_lcL (xs := xs.map V.str) S (fun D i H' => Sep (pt D (.lst (((xs.take i).map fun z => decide ((z.length : Int) = long) && figB z).map V.bl)) :: pt a (.lst (xs.map V.str)) :: F) H') (fun D H' S => S) (fun D i H' _ S => SqL.of (S.get (by wtm_at "pk"))) ?_ ?_
        · intro D i x H hx S
          rw [List.getElem?_map] at hx
          obtain ⟨z, hz1, rfl⟩ := Option.map_eq_some_iff.mp hx
          have yl : (((xs.take i).map fun z => decide ((z.length : Int) = long) && figB z).map V.bl).length < sizeLine := by
            rw [List.length_map, List.length_map, List.length_take]
            exact Nat.lt_of_le_of_lt (Nat.le_trans (Nat.min_le_right _ _) hz) (by decide)
          have up : ∀ {b : Bool}, (decide ((z.length : Int) = long) && figB z) = b → ((xs.take i).map fun z => decide ((z.length : Int) = long) && figB z).map V.bl ++ [V.bl b] = ((xs.take (i + 1)).map fun z => decide ((z.length : Int) = long) && figB z).map V.bl := fun e => by
            rw [List.take_succ, hz1, List.map_append, List.map_append, ← e]; rfl
          dsimp only [List.map, wipe, List.set]
          wtm_at "st"
          refine ⟨rfl, ?_⟩
          wtm_at "st"
          refine s_lenS (Nat.le_trans (hzz z (List.mem_of_getElem? hz1)) (by decide)) ?_
          wtm_at "st"
          refine s_ifd (fun d1 => ?_) (fun d1 => ?_)
          · wtm_at "st"
            refine ⟨z, rfl, ?_⟩
            refine s_lcput S (by wtm_at "cg") yl fun H S => ?_
            rw [up (by rw [decide_eq_true d1]; rfl)] at S
            exact S
          · refine s_lcput S (by wtm_at "cg") yl fun H S => ?_
            rw [up (by rw [decide_eq_false d1]; rfl)] at S
            exact S
        · intro D H S
          rw [List.length_map, List.take_length] at S
          wtm_at "st"
          refine ⟨D, _, rfl, SqL.of (S.get (by wtm_at "pk")), ?_⟩
          rw [← eb]
          exact q H (by wtm_at "wk")
theorem ok_are_groups (T : Txt K mg ad) (c_are_figures : Cal P w K mg base 1 "are_figures" spFigs) (c_all_unlike : Cal P w K mg base 1 "all_unlike" spUnlike) (F : Fun K "are_groups" "are_groups" s_are_groups f fd) : FnOk P w K mg base (L2.CX P w) 2 f fd ["long", "groups"] spGroups := by
  refine F.okX sc_are_groups (fun vs H Q E h => len_groups h) (fun cdv A outer s H vs Q E hr h => ?_)
  have tk : Takes (cxOf (L2.CX P w) P w K mg base N_are_groups "are_groups" (defScope s_are_groups) f cdv A outer s H E) (fun cls d _ H => E cls d H) := takes_of rfl rfl rfl rfl
  have po_ : PassesOwn (model P w) (cxOf (L2.CX P w) P w K mg base N_are_groups "are_groups" (defScope s_are_groups) f cdv A outer s H E).A (cxOf (L2.CX P w) P w K mg base N_are_groups "are_groups" (defScope s_are_groups) f cdv A outer s H E).env (cxOf (L2.CX P w) P w K mg base N_are_groups "are_groups" (defScope s_are_groups) f cdv A outer s H E).xe := passes_of rfl
  refine ⟨_, (pss_cons (ps_if ((pw_or (pt_cmpR zo_gt (pe_callB (k_len (K := K) rfl) (by rfl) T.b_len (by decide +kernel) (pa_cons (pv 1) pa_nil)) (pe_glob (v := V.int 40) (by rfl) T.g_MOST_GROUPS ⟨_, rfl⟩) (nomark _)) (pw_or1 (pt_not (pt_val (z_call c_all_unlike tk hr (by decide) (by rfl) (pa_cons (pe_lc (own := [("prefix", 2), ("many", 3)])  (tt := tYes) rfl sc_are_groups.nd (k_list (K := K) rfl (pv 1)) (blkOk_by (N := N_are_groups) (sc := defScope s_are_groups) (by decide +kernel)) (fun _ _ _ _ _ => (k_gtup (K := K) (n := 2) rfl rfl (pgs_cons (pg_name (i := 2) sc_are_groups.nd rfl (Or.inl rfl)) (pgs_cons (pg_name (i := 3) sc_are_groups.nd rfl (Or.inl rfl)) pgs_nil)))) (fun _ _ _ _ _ => pts_nil) (fun _ _ _ _ _ => (pv 2))) pa_nil))))))).pt (pss_one (ps_ret pe_bl)) pss_nil)
  (pss_cons (ps_for (po_) rfl (k_list (K := K) rfl (pv 1)) (k_gtup (K := K) (n := 2) rfl rfl (pgs_cons (pg_name (i := 2) sc_are_groups.nd rfl (Or.inl rfl)) (pgs_cons (pg_name (i := 3) sc_are_groups.nd rfl (Or.inl rfl)) pgs_nil))) (pss_one (ps_if ((pw_or (pt_cmpR zo_gt (pe_callB (k_len (K := K) rfl) (by rfl) T.b_len (by decide +kernel) (pa_cons (pv 2) pa_nil)) (pe_op zo_sub (pv 0) pe_int) (nomark _)) (pw_or (pt_not (pt_val (z_call c_are_figures tk hr (by decide) (by rfl) (pa_cons (pv 2) pa_nil)))) (pw_or (pt_cmpR zo_lt (pv 3) pe_int (nomark _)) (pw_or1 (pt_cmpR zo_gt (pv 3) (pe_glob (v := V.int 10) (by rfl) T.g_MOST_SWITCHES ⟨_, rfl⟩) (nomark _))))))).pt (pss_one (ps_ret pe_bl)) pss_nil)))
  (pss_one (ps_ret pe_bl)))), ?_⟩
  obtain ⟨long, a, as, gs, F, rfl, hz, hzz, S, q⟩ := h
  have la : as.length = gs.length := by
    have := (S.tlGet (as := as) (by wtm_at "pk")).1
    rw [this]; unfold dg; rw [List.length_map]
  refine s_start (σ := [some (.int long), some (.ref a), none, none]) rfl ?_
  wtm_at "st"
  rw [List.length_map, la]
  refine s_ifd (fun c1 => ?_) (fun c1 => ?_)
  · wtm_at "st"
    have := q H S
    rw [show groupsB long gs = false by unfold groupsB; rw [decide_eq_false (show ¬ gs.length ≤ 40 by omega)]; rfl] at this
    exact this
  · wtm_at "st"
    refine ⟨a, rfl, ⟨_, SqL.of (S.get (by wtm_at "pk"))⟩, ?_⟩
    have tup_at : ∀ {cs es : List As} {H : Hp} (S : Sep cs H) (p : Pick (tl as (dg gs)) cs es) {i : Nat} {x : Addr} (hx : as[i]? = some x), ∃ g : PySem.Str × Int, gs[i]? = some g ∧ H x = some (.tup [.str g.1, .int g.2]) := by
      intro cs es H S p i x hx
      have hi : i < gs.length := by
        rw [← la]
        rcases Nat.lt_or_ge i as.length with h | h
        · exact h
        · rw [List.getElem?_eq_none h] at hx; cases hx
      refine ⟨gs[i], List.getElem?_eq_getElem hi, (S.tlGet p).2 i x _ hx ?_⟩
      unfold dg
      rw [List.getElem?_map, List.getElem?_eq_getElem hi]
      rfl
    refine s_lcL (xs := as.map V.ref) S (fun D i H' => Sep (pt D (.lst (((gs.take i).map (·.1)).map V.str)) :: pt a (.lst (as.map V.ref)) :: tl as (dg gs) :: F) H') (fun D H' S => S) (fun D i H' _ S => SqL.of (S.get (by wtm_at "pk"))) ?_ ?_
    · intro D i x H hx S
      rw [List.getElem?_map] at hx
      obtain ⟨t, ht, rfl⟩ := Option.map_eq_some_iff.mp hx
      obtain ⟨g, hg, hH⟩ := tup_at S (by wtm_at "pk") ht
      dsimp only [List.map, wipe, List.set]
      refine s_gtupT hH rfl ?_
      wtm_at "st"
      refine ⟨rfl, ?_⟩
      wtm_at "st"
      refine s_lcput S (by wtm_at "cg") ?_ fun H S => ?_
      · rw [List.length_map, List.length_map, List.length_take]
        exact Nat.lt_of_le_of_lt (Nat.le_trans (Nat.min_le_right _ _) hz) (by decide)
      · rw [List.take_succ, hg, List.map_append, List.map_append]
        exact S
    · intro D H S
      rw [List.length_map, la, List.take_length] at S
      wtm_at "st"
      refine ⟨D, gs.map (·.1), _, rfl, by rw [List.length_map]; exact hz, S, ?_⟩
      wtm_at "st"
      refine s_ifn (fun c3 => ?_) (fun c3 => ?_)
      · wtm_at "st"
        have := q H (by wtm_at "wk")
        rw [show groupsB long gs = false by unfold groupsB; rw [decide_eq_false c3]; simp] at this
        exact this
      · wtm_at "st"
        refine s_list S (by wtm_at "pk") (lp_list (xs := as.map V.ref) (fun i σ H => ∃ v2 v3, σ = [some (.int long), some (.ref a), v2, v3] ∧ ((gs.take i).all (oneG long)) = true ∧ Sep (pt a (.lst (as.map V.ref)) :: tl as (dg gs) :: F) H) ⟨none, none, rfl, rfl, by wtm_at "wk"⟩ ?_ ?_ ?_)
        · rintro i σ H _ ⟨v2, v3, rfl, _, S⟩
          exact SqL.of (S.get (by wtm_at "pk"))
        · rintro i x σ H hx ⟨v2, v3, rfl, hd, S⟩
          rw [List.getElem?_map] at hx
          obtain ⟨t, ht, rfl⟩ := Option.map_eq_some_iff.mp hx
          obtain ⟨g, hg, hH⟩ := tup_at S (by wtm_at "pk") ht
          have bad : oneG long g = false → Q (.bl false) H := fun e => by
            have := q H S
            rw [show groupsB long gs = false by
              unfold groupsB
              rw [Bool.and_eq_false_iff]
              right
              rw [List.all_eq_false]
              exact ⟨g, List.mem_of_getElem? hg, by rw [e]; decide⟩] at this
            exact this
          refine s_gtupT hH rfl ?_
          wtm_at "st"
          refine s_lenS (Nat.le_trans (hzz g (List.mem_of_getElem? hg)) (by decide)) ?_
          wtm_at "st"
          refine s_ifd (fun d1 => ?_) (fun d1 => ?_)
          · wtm_at "st"
            exact bad (by unfold oneG; rw [decide_eq_false (show ¬ (g.1.length : Int) ≤ long - 2 by omega)]; simp)
          · wtm_at "st"
            refine ⟨g.1, rfl, ?_⟩
            cases hb : figB g.1
            · wtm_at "st"
              exact bad (by unfold oneG; rw [hb]; simp)
            · wtm_at "st"
              refine s_ifd (fun d2 => ?_) (fun d2 => ?_)
              · wtm_at "st"
                exact bad (by unfold oneG; rw [decide_eq_false (show ¬ 0 ≤ g.2 by omega)]; simp)
              · wtm_at "st"
                refine s_ifd (fun d3 => ?_) (fun d3 => ?_)
                · wtm_at "st"
                  exact bad (by unfold oneG; rw [decide_eq_false (show ¬ g.2 ≤ 10 by omega)]; simp)
                · wtm_at "st"
                  refine ⟨_, _, rfl, ?_, S⟩
                  rw [List.take_succ, hg, List.all_append, hd]
                  show (true && (oneG long g && true)) = true
                  unfold oneG
                  rw [hb, decide_eq_true (show (g.1.length : Int) ≤ long - 2 by omega), decide_eq_true (show 0 ≤ g.2 by omega), decide_eq_true (show g.2 ≤ 10 by omega)]
                  rfl
        · rintro σ H ⟨v2, v3, rfl, hd, S⟩
          rw [List.length_map, la, List.take_length] at hd
          wtm_at "st"
          have := q H S
          rw [show groupsB long gs = true by unfold groupsB; rw [decide_eq_true (show gs.length ≤ 40 by omega), decide_eq_true c3, hd]; rfl] at this
          exact this

end
end L2.Zs
namespace L2.Zs
open PySem PySem.Spec PyProof.Rows
set_option hygiene false
local macro_rules | `(tactic| wtm_at "pk") => `(tactic| (repeat (first | with_reducible exact Pick.here | with_reducible apply Pick.there)))
local macro_rules | `(tactic| wtm_at "cg") => `(tactic| (repeat (first | with_reducible exact Chg.here | with_reducible apply Chg.there)))
local macro_rules | `(tactic| wtm_at "sa") => `(tactic| (repeat (first | with_reducible exact SetAt.here | with_reducible apply SetAt.there)))
local macro_rules | `(tactic| wtm_at "wk1") => `(tactic| (repeat (first | with_reducible exact Wk.refl | (with_reducible apply Wk.pick; focus (wtm_at "pk"; done)) | with_reducible apply Wk.drop)))
local macro_rules | `(tactic| wtm_at "wk") => `(tactic| (refine Wk.sep ?_ (by assumption); wtm_at "wk1"))
local macro_rules | `(tactic| wtm_at "sz") => `(tactic| first | exact Nat.le_of_ble_eq_true rfl | assumption | omega)
local macro_rules | `(tactic| wtm_at "s1") => `(tactic| first
  | refine Stp.go ?_
  | ((with_reducible show rMod _ _ _ _); (with_reducible refine s_mod (by first | decide | assumption | omega) ?_))
  | ((with_reducible show rMulZ _ _ _ _); (with_reducible refine s_mulI (by first | exact cmul_l (by decide) | exact cmul_r (by decide) | (exact cmul_l (by omega)) | (exact cmul_r (by omega))) ?_))
  | ((with_reducible show rDiv _ _ _ _); (with_reducible refine s_div (cdiv_of (by decide) (by decide)) ?_))
  | ((with_reducible show rPow _ _ _ _); (with_reducible refine s_pow (cpow_of (by decide) (by decide) (by decide)) ?_))
  | ((with_reducible show rLen _ _ _ _); (with_reducible refine s_lenL (by assumption) (by wtm_at "pk") ?_))
  | ((with_reducible show rLen _ _ _ _); (with_reducible refine s_lenQ (by assumption) (by wtm_at "pk") ?_))
  | ((with_reducible show rLen _ _ _ _); (with_reducible refine s_lenT (by assumption) (by wtm_at "pk") ?_))
  | ((with_reducible show tyV _ _ _ _ ∧ _); (with_reducible refine s_tyL (by assumption) (by wtm_at "pk") ?_))
  | ((with_reducible show FldGet _ _ _ _ _); (with_reducible refine s_fldA (by assumption) (by wtm_at "pk") (by assumption) (by decide +kernel) (by infer_instance) ?_))
  | ((with_reducible show MtGo _ _ _ _ _); (with_reducible refine s_mtA (by assumption) (by wtm_at "pk") (by first | assumption | exact List.mem_cons_self | exact List.mem_cons_of_mem _ List.mem_cons_self) (by infer_instance) (by decide +kernel) ?_))
  | ((with_reducible show DG _ _ _ _); (with_reducible refine s_dgetA (by assumption) (by wtm_at "pk") (by infer_instance) ?_))
  | ((with_reducible show DG _ _ _ _); (with_reducible refine s_dgetM (by assumption) (by wtm_at "pk") (by assumption) ?_))
  | ((with_reducible show rIx _ _ _ _ _); (with_reducible refine s_ixTA (by assumption) (by wtm_at "pk") (by infer_instance) ?_))
  | ((with_reducible show rIx _ _ _ _ _); (with_reducible refine s_ixLA (by assumption) (by wtm_at "pk") (by infer_instance) ?_))
  | ((with_reducible show FldSet _ _ _ _ _ _); (with_reducible refine s_sfldA (by assumption) (by wtm_at "pk") (by assumption) (by decide +kernel) (by infer_instance) (by wtm_at "cg") (fun H S => ?_)))
  | ((with_reducible show FAug _ _ _ _ _ _); (with_reducible refine s_faugA (by assumption) (by wtm_at "pk") (by assumption) (by decide +kernel) (by infer_instance) (by infer_instance) (by wtm_at "cg") (fun H S => ?_)))
  | ((with_reducible show DP _ _ _ _ _); (with_reducible refine s_dputA (by assumption) (by wtm_at "pk") (by infer_instance) (by wtm_at "cg") (fun H S => ?_)))
  | ((with_reducible show DP _ _ _ _ _); (with_reducible refine s_dputM (by assumption) (by wtm_at "cg") (by assumption) (by first | assumption | omega) (fun H S => ?_)))
  | ((with_reducible show DI _ _ _ _ _); (with_reducible refine s_dinM (by assumption) (by wtm_at "pk") ?_))
  | ((with_reducible show DI _ _ _ _ _); (with_reducible refine s_dniM (by assumption) (by wtm_at "pk") ?_)))
local macro_rules | `(tactic| wtm_at "st") => `(tactic| (repeat (first | wtm_at "s1" | with_reducible refine s_seq ?_)))
local macro_rules | `(tactic| wtm_at "stc") => `(tactic| (repeat wtm_at "s1"))
set_option hygiene true

section
variable {P : Program} {w : World} {K : PySem.W.Frag} {mg : PySem.Str → Option Value} {base : Heap} {ad : Ad} {Cs : List Addr} {C : Addr} {f : Addr} {fd : FuncData}
set_option maxHeartbeats 2000000
theorem ok_Plan_init (T : Txt K mg ad) (c_are_lines : Cal P w K mg base 2 "are_lines" spLines) (c_are_groups : Cal P w K mg base 2 "are_groups" spGroups) (F : Fun K "__init__" "Plan.__init__" s_PlanQ_initQ f fd) : FnOk P w K mg base (L2.CX P w) 3 f fd ["self", "long", "lines", "seekers", "groups"] (spPlan ad C) := by
  refine F.okX sc_PlanQ_initQ (fun vs H Q E h => len_plan h) (fun cdv A outer s H vs Q E hr h => ?_)
  have tk : Takes (cxOf (L2.CX P w) P w K mg base N_PlanQ_initQ "Plan.__init__" (defScope s_PlanQ_initQ) f cdv A outer s H E) (fun cls d _ H => E cls d H) := takes_of rfl rfl rfl rfl
  have po_ : PassesOwn (model P w) (cxOf (L2.CX P w) P w K mg base N_PlanQ_initQ "Plan.__init__" (defScope s_PlanQ_initQ) f cdv A outer s H E).A (cxOf (L2.CX P w) P w K mg base N_PlanQ_initQ "Plan.__init__" (defScope s_PlanQ_initQ) f cdv A outer s H E).env (cxOf (L2.CX P w) P w K mg base N_PlanQ_initQ "Plan.__init__" (defScope s_PlanQ_initQ) f cdv A outer s H E).xe := passes_of rfl
  refine ⟨_, (pss_cons (ps_if ((pw_or (pt_cmpR zo_lt (pv 1) pe_int (nomark _)) (pw_or (pt_cmpR zo_gt (pv 1) pe_int (nomark _)) (pw_or (pt_cmpR zo_lt (pv 3) pe_int (nomark _)) (pw_or1 (pt_cmpR zo_gt (pv 3) (pe_glob (v := V.int 60) (by rfl) T.g_MOST_LINES ⟨_, rfl⟩) (nomark _))))))).pt (pss_one (z_raise rfl tk T.x_BadPlan rfl)) pss_nil)
  (pss_cons (ps_if ((pw_or (pt_not (pt_val (z_call c_are_lines tk hr (by decide) (by rfl) (pa_cons (pv 1) (pa_cons (pv 2) pa_nil))))) (pw_or1 (pt_not (pt_val (z_call c_are_groups tk hr (by decide) (by rfl) (pa_cons (pv 1) (pa_cons (pv 4) pa_nil)))))))).pt (pss_one (z_raise rfl tk T.x_BadPlan rfl)) pss_nil)
  (pss_cons (k_sfld (K := K) rfl (pv 0) (pv 1) rfl)
  (pss_cons (k_sfld (K := K) rfl (pv 0) (k_tupleOfF (K := K) rfl (by rfl) T.b_tuple (pe_callB (k_sortedS (K := K) rfl) (by rfl) T.b_sorted (by decide +kernel) (pa_cons (pv 2) pa_nil))) rfl)
  (pss_cons (k_sfld (K := K) rfl (pv 0) (pv 3) rfl)
  (pss_one (k_sfld (K := K) rfl (pv 0) (k_tupleOfF (K := K) rfl (by rfl) T.b_tuple (pe_callB cr_sortedG (by rfl) T.b_sorted (by decide +kernel) (pa_cons (pe_lc (own := [("prefix", 5), ("many", 6)])  (tt := tYes) rfl sc_PlanQ_initQ.nd (k_list (K := K) rfl (pv 4)) (blkOk_by (N := N_PlanQ_initQ) (sc := defScope s_PlanQ_initQ) (by decide +kernel)) (fun _ _ _ _ _ => (k_gtup (K := K) (n := 2) rfl rfl (pgs_cons (pg_name (i := 5) sc_PlanQ_initQ.nd rfl (Or.inl rfl)) (pgs_cons (pg_name (i := 6) sc_PlanQ_initQ.nd rfl (Or.inl rfl)) pgs_nil)))) (fun _ _ _ _ _ => pts_nil) (fun _ _ _ _ _ => (pe_tup (pa_cons (pv 5) (pa_cons (pv 6) pa_nil))))) pa_nil))) rfl))))))), ?_⟩
  have fPlan := T.fPlan
  obtain ⟨p, dx, a, b, long, sk, ls, xs, gs, F, rfl, rfl, s1, s2, s3, s4, S, h1, h2⟩ := h
  refine s_start (σ := [some (.ref p), some (.int long), some (.ref a), some (.int sk), some (.ref b), none, none]) rfl ?_
  have S0 := S
  obtain ⟨as, ex, ht⟩ := ims_tl (S.imsGet (v := xs) (by wtm_at "pk"))
  have na : ∀ {x : PySem.Str}, x ∈ planFN → NoAttr K ad.Plan x := fun hx => fPlan.na _ hx
  wtm_at "stc"
  with_reducible refine s_cut (fun σ H' => H' = H ∧ σ = [some (.ref p), some (.int long), some (.ref a), some (.int sk), some (.ref b), none, none] ∧ 2 ≤ long ∧ long ≤ 4 ∧ 1 ≤ sk ∧ sk ≤ 60) ?_ (fun N go => ?_)
  rotate_left
  · wtm_at "st"
    refine s_ifd (fun c => ?_) (fun c => ?_)
    · wtm_at "st"
      exact h2 (by unfold planB; rw [decide_eq_false (show ¬ 2 ≤ long by omega)]; rfl) H S0
    wtm_at "st"
    refine s_ifd (fun c2 => ?_) (fun c2 => ?_)
    · wtm_at "st"
      exact h2 (by unfold planB; rw [decide_eq_false (show ¬ long ≤ 4 by omega)]; simp) H S0
    wtm_at "st"
    refine s_ifd (fun c3 => ?_) (fun c3 => ?_)
    · wtm_at "st"
      exact h2 (by unfold planB; rw [decide_eq_false (show ¬ 1 ≤ sk by omega)]; simp) H S0
    wtm_at "st"
    refine s_ifd (fun c4 => ?_) (fun c4 => ?_)
    · wtm_at "st"
      exact h2 (by unfold planB; rw [decide_eq_false (show ¬ sk ≤ 60 by omega)]; simp) H S0
    wtm_at "st"
    exact go _ _ ⟨rfl, rfl, by omega, by omega, by omega, by omega⟩
  rintro _ _ ⟨rfl, rfl, b1, b2, b3, b4⟩
  have pb : planB long ls sk gs = (linesB long ls && groupsB long gs) := by
    unfold planB
    rw [decide_eq_true b1, decide_eq_true b2, decide_eq_true b3, decide_eq_true b4]; rfl
  rw [pb] at h1 h2
  wtm_at "st"
  refine ⟨long, a, ls, _, rfl, s1, s2, (by wtm_at "wk"), fun H S => ?_⟩
  have fin : ∀ {H}, Sep (pt a (.lst (ls.map V.str)) :: pt p (.ins ad.Plan dx []) :: pt b (.lst xs) :: ims xs (gs.map gD) :: F) H → Sep (pt p (.ins ad.Plan dx []) :: pt a (.lst (ls.map V.str)) :: pt b (.lst xs) :: ims xs (gs.map gD) :: F) H := fun S => by wtm_at "wk"
  wtm_at "st"
  cases hb : linesB long ls with
  | false =>
    wtm_at "st"
    exact h2 (by rw [hb]; rfl) H (fin (by wtm_at "wk"))
  | true =>
    rw [hb, Bool.true_and] at h1 h2
    wtm_at "st"
    obtain ⟨as, ex, ht⟩ := ims_tl (S.imsGet (v := xs) (by wtm_at "pk"))
    have S := S.addP pers_tl ht
    subst ex
    refine ⟨long, b, as, gs, _, rfl, s3, s4, (by wtm_at "wk"), fun H S => ?_⟩
    wtm_at "st"
    cases hb2 : groupsB long gs with
    | false =>
      wtm_at "st"
      exact h2 hb2 H (by wtm_at "wk")
    | true =>
      wtm_at "st"
      refine s_sfldR S (by wtm_at "cg") fPlan.cls (na (by decide +kernel)) (by wtm_at "sz") fun H S => ?_
      wtm_at "st"
      refine s_sortedS S (by wtm_at "pk") (by unfold linesB at hb; simp at hb; omega) fun zs l1 H pm so S => ?_
      wtm_at "st"
      refine s_tupLF S (by wtm_at "pk") fun l2 o1 H od1 S => ?_
      wtm_at "st"
      refine s_sfldR S (by wtm_at "cg") fPlan.cls (na (by decide +kernel)) (by wtm_at "sz") fun H S => ?_
      wtm_at "st"
      refine s_sfldR S (by wtm_at "cg") fPlan.cls (na (by decide +kernel)) (by wtm_at "sz") fun H S => ?_
      wtm_at "st"
      refine ⟨b, rfl, ⟨_, SqL.of (S.get (by wtm_at "pk"))⟩, ?_⟩
      refine s_lcL (xs := as.map V.ref) S (fun D i H' => ∃ ys, Sep (pt D (.lst ys) :: ims ys ((gs.take i).map gD) :: pt p (.ins ad.Plan dx (putF "seekers" (V.int sk) (putF "lines" (V.ref l2) (putF "long" (V.int long) [])))) :: pt l2 (.frz o1 (.tup (zs.map V.str))) :: pt a (.lst (ls.map V.str)) :: pt b (.lst (as.map V.ref)) :: ims (as.map V.ref) (gs.map gD) :: F) H') (fun D H' S => ⟨[], (by
        have S := Sep.cons (fun _ h => h.ims0) S
        rw [List.take_zero, List.map_nil]
        wtm_at "wk")⟩) (fun D i H' _ ⟨ys, S⟩ => SqL.of (S.get (by wtm_at "pk"))) ?_ ?_
      · rintro D i x H hx ⟨ys, S⟩
        obtain ⟨d, hd, hI⟩ := (S.imsGet (v := as.map V.ref) (by wtm_at "pk")).at_ hx
        rw [List.getElem?_map] at hd
        obtain ⟨g, hg, rfl⟩ := Option.map_eq_some_iff.mp hd
        obtain ⟨t, rfl, htt⟩ := hI.tup2
        have hy := S.imsLen (xs := ys) (by wtm_at "pk")
        dsimp only [List.map, wipe, List.set]
        refine s_gtupH2 htt rfl ?_
        wtm_at "st"
        refine ⟨rfl, ?_⟩
        wtm_at "st"
        refine s_newT (by wtm_at "sz") S fun t2 H S => ?_
        have S : Sep (im (.ref t2) (gD g) :: _) H := Sep.imF S
        refine s_lcput S (by wtm_at "cg") (by rw [hy, List.length_map, List.length_take]; exact Nat.lt_of_le_of_lt (Nat.le_trans (Nat.min_le_right _ _) s3) (by decide)) fun H S => ?_
        refine ⟨ys ++ [.ref t2], ?_⟩
        have S := S.fr3 (pt D _) (ims ys _) (im (.ref t2) _)
        have S := Sep.cons (fun _ h => Sep.imsP h) S
        rw [show (gs.take i).map gD ++ [gD g] = (gs.take (i + 1)).map gD by rw [List.take_succ, hg, List.map_append]; rfl] at S
        exact S
      · rintro D H ⟨ys, S⟩
        rw [List.length_map, show as.length = gs.length by have := ht.1; unfold dg at this; rw [this, List.length_map], List.take_length] at S
        wtm_at "st"
        refine s_sortedG S (by wtm_at "pk") (by wtm_at "pk") fun ys2 gs2 l3 H pm2 so2 S => ?_
        wtm_at "st"
        refine s_tupLF S (by wtm_at "pk") fun l4 o2 H od2 S => ?_
        wtm_at "st"
        refine s_sfldR S (by wtm_at "cg") fPlan.cls (na (by decide +kernel)) (by wtm_at "sz") fun H S => ?_
        wtm_at "st"
        rw [putPlan] at S
        refine h1 hb2 ⟨⟨long.toNat, zs, sk.toNat, gs2⟩, p, dx, l2, o1, l4, o2, ys2⟩ H rfl rfl rfl pm so pm2 so2 od1 ?_
        have e1 : ((long.toNat : Nat) : Int) = long := Int.toNat_of_nonneg (by omega)
        have e2 : ((sk.toNat : Nat) : Int) = sk := Int.toNat_of_nonneg (by omega)
        show Sep (pt p (.ins ad.Plan dx (planF (long.toNat : Nat) l2 (sk.toNat : Nat) l4)) :: pt l2 (.frz o1 (.tup (zs.map V.str))) :: pt l4 (.frz o2 (.tup ys2)) :: ims ys2 (gs2.map gD) :: _) H
        rw [e1, e2]
        wtm_at "wk"
end
end L2.Zs
namespace L2.Zs
open PySem PySem.Spec PyProof.Rows
/-! # a comprehension over two lists; join -/
section
variable {K : PySem.W.Frag} {H : Hp} {σ : St} {Q : VK} {g : TG} {tt : TT} {te : TE} {tr : TA} {a b : Addr} {xs ys : List V} {vs : List Nat} {cs ds es : List As}
def ForZ (K : PySem.W.Frag) (R : It → Hp → Prop) (vs : List V) (H1 : Hp) : Prop := ∃ a b xs ys, vs = [.ref a, .ref b] ∧ SqL K H1 a xs ∧ SqL K H1 b ys ∧ R (Itz K a b) H1
instance {R : It → Hp → Prop} : Stp (iZip K tr σ H R) (tr σ H fun vs H1 => ForZ K R vs H1) := ⟨id⟩
theorem s_forZ {R : It → Hp → Prop} (S : Sep cs H) (p : Pick (pt a (.lst xs)) cs ds) (p2 : Pick (pt b (.lst ys)) cs es) (k : R (Itz K a b) H) : ForZ K R [.ref a, .ref b] H := ⟨a, b, xs, ys, rfl, SqL.of (S.get p), SqL.of (S.get p2), k⟩
theorem s_lcZ (S : Sep cs H) (hle : xs.length ≤ ys.length) (Pv : Addr → Nat → Hp → Prop) (h0 : ∀ D H', Sep (pt D (.lst []) :: cs) H' → Pv D 0 H') (hl : ∀ D i H', i ≤ xs.length → Pv D i H' → SqL K H' a xs ∧ SqL K H' b ys)
    (hs : ∀ D i x y T H', xs[i]? = some x → ys[i]? = some y → Pv D i H' → H' T = none → g (.ref T) (wipe σ vs) (upd H' T (.tup [x, y])) fun σ2 H2 => wipe σ2 vs = wipe σ vs ∧ tt σ2 H2 fun b H3 => if b = true then te σ2 H3 fun y H4 => LcPut D y (Pv D (i + 1)) H4 else Pv D (i + 1) H3)
    (hd : ∀ D H', Pv D xs.length H' → Q (.ref D) H') : LcGo (Itz K a b) g tt te vs σ Q H := by
  intro D hD
  refine ⟨fun i m H => m = xs.length - i ∧ i ≤ xs.length ∧ Pv D i H, ⟨xs.length, by simp, Nat.zero_le _, h0 D _ (S.new hD)⟩, ?_⟩
  rintro i m H ⟨rfl, hi, p⟩
  have q := hl D i H hi p
  by_cases hlt : i < xs.length
  · have hx : xs[i]? = some xs[i] := List.getElem?_eq_getElem hlt
    have hlt2 : i < ys.length := by omega
    have hy : ys[i]? = some ys[i] := List.getElem?_eq_getElem hlt2
    refine .inr ⟨⟨xs, ys, _, _, q.1, q.2, hx, hy⟩, Pv D (i + 1), fun H' p' => ⟨xs.length - (i + 1), by omega, rfl, hlt, p'⟩, fun v H' y => ?_⟩
    obtain ⟨T, x', y', rfl, hT, rfl, f1, f2⟩ := y
    exact hs D i x' y' T H (f1 xs q.1) (f2 ys q.2) p hT
  · have e : i = xs.length := by omega
    subst e
    exact .inl ⟨⟨xs, ys, q.1, q.2, Or.inl (Nat.le_refl _)⟩, hd D H p⟩
theorem s_slL {lo hi : Option Int} (S : Sep cs H) (p : Pick (pt a (.lst xs)) cs ds) (k : ∀ p H', Sep (pt p (.lst (cutV xs lo hi)) :: cs) H' → Q (.ref p) H') : rSlL K (.ref a) lo hi H Q := ⟨a, xs, rfl, SqL.of (S.get p), fun p n => k p _ (S.new n)⟩
end
/-- the kinds of the refusals -/
structure Kin (K : PySem.W.Frag) (ad : Ad) : Prop where
  ex : ∀ e : Er, PySem.W.exmOne K (.ref (erA ad e)) (.ref ad.HallError) = some true
  ei : ∀ e : Er, XI K (erA ad e)
  ek : ∀ e e' : Er, PySem.W.kitOne K (.ref (erA ad e)) (.ref (erA ad e')) = some (decide (e = e'))
  en : ∀ (e : Er), ∀ c ∈ [ad.BadPlan, ad.NoFigure, ad.NoRow, ad.NoText], PySem.W.kitOne K (.ref (erA ad e)) (.ref c) = some false
def spAnswer (ad : Ad) : Sp := fun vs H Q E => ∃ (B : HL) (h : Hs) (dv : V) (d : Dd) (F : List As), vs = [.ref B.p, dv] ∧ h.Ok ∧ h.done.length ≤ 100000 ∧ Gd B h ∧ Sep (im dv d.d :: HC ad B h F) H ∧
  (∀ ts h', h.step d = .ok (ts, h') → ∀ p H', Sep (lsI p (ts.map Tl.d) :: im dv d.d :: HC ad B h' F) H' → Q (.ref p) H') ∧ (∀ e, h.step d = .error e → ∀ H', Sep (im dv d.d :: HC ad B h F) H' → Q (.str e.s) H')
theorem len_answer {ad : Ad} {vs H Q E} (h : spAnswer ad vs H Q E) : vs.length = 2 := by obtain ⟨B, h, dv, d, F, rfl, _⟩ := h; rfl
def spWorld : Sp := fun vs H Q E => ∃ (t a b : Addr) (d : Pd) (ls : List PySem.Str) (xs : List V) (gs : List Pr) (F : List As), vs = [.ref t] ∧ PdOk d ∧ d.lines.Perm ls ∧ sortedS d.lines = true ∧ d.gs.Perm gs ∧
  Sep (pt t (.tup [.int d.long, .ref a, .int d.sk, .ref b]) :: pt a (.lst (ls.map V.str)) :: pt b (.lst xs) :: ims xs (gs.map gD) :: F) H ∧
  ∀ (M : WM) (H' : Hp), WK M (Hs.new d) → Sep (worC M (Hs.new d) (pt t (.tup [.int d.long, .ref a, .int d.sk, .ref b]) :: pt a (.lst (ls.map V.str)) :: pt b (.lst xs) :: ims xs (gs.map gD) :: F)) H' → Q (.ref M.p) H'
theorem len_world {vs H Q E} (h : spWorld vs H Q E) : vs.length = 1 := by obtain ⟨t, a, b, d, ls, xs, gs, F, rfl, _⟩ := h; rfl
/-- the nine words -/
def words9 : List PySem.Str := ["way", "figures", "many", "train", "end", "why", "held", "stuck", "shares"]
def keys9 (i : Nat) : List Key := ([.inr "long", .inr "lines", .inr "queue", .inr "mark", .inr "done"] : List Key) ++ (words9.take i).map Sum.inr
theorem keys9_nd : (keys9 9).Nodup := by decide +kernel
theorem keys9_succ {i : Nat} {z : PySem.Str} (h : words9[i]? = some z) : keys9 (i + 1) = keys9 i ++ [Sum.inr z] := by
  unfold keys9
  rw [List.take_succ, h, List.map_append, List.append_assoc]; rfl
theorem keys9_len {i : Nat} (h : i ≤ 9) : (keys9 i).length = 5 + i := by
  unfold keys9
  rw [List.length_append, List.length_map, List.length_take]
  show 5 + min i 9 = 5 + i
  omega
theorem keys9_at {i : Nat} {z : PySem.Str} (h : words9[i]? = some z) : (Sum.inr z : Key) ∉ keys9 i := by
  have hs : (keys9 (i + 1)).Sublist (keys9 9) := by
    unfold keys9
    refine List.Sublist.append (List.Sublist.refl _) (List.Sublist.map _ ?_)
    rw [show words9.take 9 = words9 from rfl]
    exact List.take_sublist _ _
  have nd := keys9_nd.sublist hs
  rw [keys9_succ h, List.nodup_append] at nd
  intro hm
  exact nd.2.2 _ hm _ (List.mem_singleton.mpr rfl) rfl
theorem putK_zip {k : Key} {v : V} : ∀ {ks : List Key} {vs : List V}, ks.length = vs.length → k ∉ ks → putK (ks.zip vs) k v = (ks ++ [k]).zip (vs ++ [v]) := by
  intro ks vs h n
  unfold putK
  have e : ((ks.zip vs).any fun kv => decide (kv.1 = k)) = false := by
    rw [List.any_eq_false]
    intro p hp
    have := (List.of_mem_zip (a := p.1) (b := p.2) hp).1
    simp only [decide_eq_true_eq]
    exact fun z => n (z ▸ this)
  rw [List.zip_append h]
  first
  | rw [e]; rfl
  | (simp only [e]; rfl)
end L2.Zs
namespace L2.Zs
open PySem PySem.Spec PyProof.Rows
/-! # what is told can be compared -/
/-- the text can be laid -/
def tz (z : PySem.Str) : Prop := PyData.canLay0 (.str z) = true
theorem lay_strs : ∀ {ps : List PySem.Str}, (∀ p ∈ ps, tz p) → PyData.canLayAll0 (ps.map PyData.str) = true
  | [], _ => rfl
  | p :: ps, h => by
    show (PyData.canLay0 (.str p) && PyData.canLayAll0 (ps.map PyData.str)) = true
    rw [h p List.mem_cons_self, lay_strs fun q hq => h q (List.mem_cons_of_mem _ hq)]; rfl
theorem tz_way (w : Way) : tz w.s := by cases w <;> (show PyData.canLay0 _ = true; decide +kernel)
/-- the texts of a reason -/
def Wy.tx : Wy → Prop
  | .over f => tz f
  | .none f => tz f
  | .group f ps => tz f ∧ ∀ p ∈ ps, tz p
  | .line f _ => tz f
theorem Wy.lay {y : Wy} (h : y.tx) : y.d.canLay0 = true := by
  have c1 : PyData.canLay0 (.str "over") = true := by decide +kernel
  have c2 : PyData.canLay0 (.str "none") = true := by decide +kernel
  have c3 : PyData.canLay0 (.str "group") = true := by decide +kernel
  have c4 : PyData.canLay0 (.str "line") = true := by decide +kernel
  cases y with
  | over f =>
    have h : PyData.canLay0 (.str f) = true := h
    show (PyData.canLay0 (.str "over") && (PyData.canLay0 (.str f) && true)) = true
    rw [c1, h]; rfl
  | none f =>
    have h : PyData.canLay0 (.str f) = true := h
    show (PyData.canLay0 (.str "none") && (PyData.canLay0 (.str f) && true)) = true
    rw [c2, h]; rfl
  | group f ps =>
    have h1 : PyData.canLay0 (.str f) = true := h.1
    show (PyData.canLay0 (.str "group") && (PyData.canLay0 (.str f) && (PyData.canLayAll0 (ps.map PyData.str) && true))) = true
    rw [c3, h1, lay_strs h.2]; rfl
  | line f w =>
    have h : PyData.canLay0 (.str f) = true := h
    have hw : PyData.canLay0 (.str w.s) = true := tz_way w
    show (PyData.canLay0 (.str "line") && (PyData.canLay0 (.str f) && (PyData.canLay0 (.str w.s) && true))) = true
    rw [c4, h, hw]; rfl
/-- the texts of what is told -/
def Tl.tx : Tl → Prop
  | .waits l => tz l
  | .tone l _ _ => tz l
  | .rests l => tz l
  | .quiet l => tz l
  | .talks o l => tz o ∧ tz l
  | .over l f => tz l ∧ tz f
  | .figure l f => tz l ∧ tz f
  | .takes l f _ => tz l ∧ tz f
  | .none l f => tz l ∧ tz f
  | .busy l w => tz l ∧ w.tx
  | .rings l f => tz l ∧ tz f
theorem Wy.depth (y : Wy) : y.d.depth ≤ 2 := by
  cases y with
  | over f => exact (by decide : (1 : Nat) ≤ 2)
  | none f => exact (by decide : (1 : Nat) ≤ 2)
  | line f w => exact (by decide : (1 : Nat) ≤ 2)
  | group f ps =>
    have : ∀ ps : List PySem.Str, PyData.depthAll (ps.map PyData.str) = 0 := fun ps => by
      induction ps with
      | nil => rfl
      | cons p ps ih => show max 0 (PyData.depthAll (ps.map PyData.str)) = 0; rw [ih]; rfl
    show max 0 (max 0 (max (PyData.depthAll (ps.map PyData.str) + 1) 0)) + 1 ≤ 2
    rw [this]; decide
theorem tz_dig {z : PySem.Str} (h : ∀ c ∈ z.cps.toList, 48 ≤ c ∧ c ≤ 57) : tz z := figs_ok (n := z.length) ⟨rfl, h⟩
theorem tz_nil : tz "" := by show PyData.canLay0 _ = true; decide +kernel
theorem lay_tup {ds : List PyData} (h : ∀ d ∈ ds, d.canLay0 = true) : PyData.canLay0 (.tuple ds) = true := by
  show PyData.canLayAll0 ds = true
  induction ds with
  | nil => rfl
  | cons d ds ih =>
    show (d.canLay0 && PyData.canLayAll0 ds) = true
    rw [h d List.mem_cons_self, ih fun q hq => h q (List.mem_cons_of_mem _ hq)]; rfl
theorem Tl.lay {t : Tl} (h : t.tx) : t.d.canLay0 = true := by
  have w : ∀ z : PySem.Str, z ∈ (["waits", "tone", "rests", "quiet", "talks", "over", "figure", "takes", "none", "busy", "rings"] : List PySem.Str) → PyData.canLay0 (.str z) = true := by
    intro z hz
    simp only [List.mem_cons, List.not_mem_nil, or_false] at hz
    rcases hz with rfl | rfl | rfl | rfl | rfl | rfl | rfl | rfl | rfl | rfl | rfl <;> decide +kernel
  cases t <;> refine lay_tup fun d hd => ?_ <;> simp only [List.mem_cons, List.not_mem_nil, or_false] at hd
  · rcases hd with rfl | rfl
    · exact w _ (by simp)
    · exact h
  · rcases hd with rfl | rfl | rfl | rfl
    · exact w _ (by simp)
    · exact h
    · rfl
    · rfl
  · rcases hd with rfl | rfl
    · exact w _ (by simp)
    · exact h
  · rcases hd with rfl | rfl
    · exact w _ (by simp)
    · exact h
  · rcases hd with rfl | rfl | rfl
    · exact w _ (by simp)
    · exact h.1
    · exact h.2
  · rcases hd with rfl | rfl | rfl
    · exact w _ (by simp)
    · exact h.1
    · exact h.2
  · rcases hd with rfl | rfl | rfl
    · exact w _ (by simp)
    · exact h.1
    · exact h.2
  · rcases hd with rfl | rfl | rfl | rfl
    · exact w _ (by simp)
    · exact h.1
    · exact h.2
    · rfl
  · rcases hd with rfl | rfl | rfl
    · exact w _ (by simp)
    · exact h.1
    · exact h.2
  · rcases hd with rfl | rfl | rfl
    · exact w _ (by simp)
    · exact h.1
    · exact Wy.lay h.2
  · rcases hd with rfl | rfl | rfl
    · exact w _ (by simp)
    · exact h.1
    · exact h.2
def Dd.tx : Dd → Prop
  | .ln _ l => tz l
  | .sw _ w _ => tz w
theorem Dd.lay {d : Dd} (h : d.tx) : d.d.canLay0 = true := by
  cases d with
  | ln w l =>
    have c : PyData.canLay0 (.str w.s) = true := by cases w <;> decide +kernel
    refine lay_tup fun d hd => ?_
    simp only [List.mem_cons, List.not_mem_nil, or_false] at hd
    rcases hd with rfl | rfl
    · exact c
    · exact h
  | sw b w k =>
    have c : PyData.canLay0 (.str (if b then "stick" else "mend")) = true := by cases b <;> decide +kernel
    refine lay_tup fun d hd => ?_
    simp only [List.mem_cons, List.not_mem_nil, or_false] at hd
    rcases hd with rfl | rfl | rfl
    · exact c
    · exact h
    · rfl
namespace Hs
structure Tx (h : Hs) : Prop where
  why : ∀ l ∈ h.lines, ∀ y, (h.ln l).why = some y → y.tx
  done : ∀ d ∈ h.done, d.tx
theorem Tx.up {h h' : Hs} {l : PySem.Str} {r : Ln} (t : h.Tx) (e1 : h'.lines = h.lines) (e2 : h'.done = h.done) (e3 : h'.ln = up h.ln l r) (hr : ∀ y, r.why = some y → y.tx) : h'.Tx := by
  refine ⟨fun x hx y hy => ?_, fun d hd => t.done d (e2 ▸ hd)⟩
  rw [e3] at hy
  by_cases e : x = l
  · rw [e, up_same] at hy; exact hr y hy
  · rw [up_ne e] at hy; exact t.why x (e1 ▸ hx) y hy
theorem Ok.tzl {h : Hs} (o : h.Ok) {l : PySem.Str} (hl : l ∈ h.lines) : tz l := figs_ok (o.sh.lf l hl)
theorem Ok.tzw {h : Hs} (o : h.Ok) {w : PySem.Str} (hw : w ∈ h.wheres) : tz w := tz_dig (o.sh.wl w hw).2
theorem Ok.tzf {h : Hs} (o : h.Ok) {l : PySem.Str} (hl : l ∈ h.lines) : tz (h.ln l).figs := by
  have p := o.per l hl
  generalize h.ln l = r at p
  cases p with
  | rests => exact tz_nil
  | waits => exact tz_nil
  | dials _ d _ _ => exact tz_dig d
  | rings ho _ _ => exact o.tzl ho
  | talksA ho _ _ => exact o.tzl ho
  | talksB _ _ _ _ => exact tz_nil
  | rung _ _ _ => exact tz_nil
  | told _ d _ => exact tz_dig d
theorem Ok.tzp {h : Hs} (o : h.Ok) {w : PySem.Str} (hw : w ∈ h.wheres) : ∀ p ∈ (h.rk w).paper, tz p := fun p hp => by
  unfold Rc.paper at hp
  obtain ⟨i, hi, rfl⟩ := List.mem_map.mp hp
  have hi := List.mem_range.mp hi
  unfold Rc.said
  rw [List.getD_eq_getElem?_getD, List.getElem?_eq_getElem hi, Option.getD_some]
  cases e : (h.rk w).held[i] with
  | some m => exact o.tzl ((o.hb.hold w hw i m).mp (by rw [List.getElem?_eq_getElem hi, e])).1
  | none => dsimp only; split <;> (show PyData.canLay0 _ = true; decide +kernel)
theorem Tx.freed {h : Hs} {l : PySem.Str} (t : h.Tx) (hl : l ∈ h.lines) : (h.freed l).Tx := by
  rw [freed_eq]
  exact t.up rfl rfl rfl fun y hy => t.why l hl y hy
theorem Tx.begin_ {h : Hs} {l : PySem.Str} {w : Way} (t : h.Tx) : (h.begin_ l w).Tx := t.up rfl rfl rfl fun y hy => by cases hy
theorem Tx.ended {h : Hs} {l : PySem.Str} {y : Wy} (t : h.Tx) (hy : y.tx) : (h.ended l y).Tx := by
  rw [ended_eq]
  exact t.up rfl rfl rfl fun y' e => by cases e; exact hy
theorem tx1 {x : Tl} (h : x.tx) : ∀ z ∈ [x], z.tx := fun z hz => by rw [List.mem_singleton.mp hz]; exact h
theorem lift_tx {h h' : Hs} (o : h.Ok) (t : h.Tx) {l : PySem.Str} {ts : List Tl} (hl : l ∈ h.lines) (e : h.lift l = .ok (ts, h')) : h'.Tx ∧ ∀ x ∈ ts, x.tx := by
  unfold lift at e
  cases hw : (h.ln l).way <;> rw [hw] at e <;> first | (cases e; done) | skip
  · cases e
    exact ⟨t.up rfl rfl rfl (fun y hy => by cases hy), tx1 (x := .waits l) (o.tzl hl)⟩
  · have pr := o.per l hl
    obtain ⟨p, ep⟩ : ∃ p, (h.ln l).en = some p := by
      generalize h.ln l = r at pr hw
      cases pr <;> first | exact ⟨_, rfl⟩ | cases hw
    have oe := o.en hl ep
    rw [ep] at e
    cases e
    refine ⟨?_, tx1 (x := .talks p l) ⟨o.tzl oe.1, o.tzl hl⟩⟩
    have t1 : (h.setLn l { h.ln l with way := .talks }).Tx := t.up rfl rfl rfl fun y hy => t.why l hl y hy
    exact t1.up rfl rfl rfl fun y hy => t.why p oe.1 y hy
theorem pulse_tx {h h' : Hs} (o : h.Ok) (t : h.Tx) {l : PySem.Str} {ts : List Tl} (hl : l ∈ h.lines) (e : h.pulse l = .ok (ts, h')) : h'.Tx ∧ ∀ x ∈ ts, x.tx := by
  unfold pulse at e
  cases hw : (h.ln l).way <;> rw [hw] at e <;> first | (cases e; done) | skip
  have t1 : (h.setLn l { h.ln l with many := (h.ln l).many + 1 }).Tx := t.up rfl rfl rfl fun y hy => t.why l hl y hy
  dsimp only at e
  split at e
  · cases e
    exact ⟨t1, fun x hx => nomatch hx⟩
  · cases e
    exact ⟨t1.ended (o.tzf hl), tx1 (x := .over l (h.ln l).figs) ⟨o.tzl hl, o.tzf hl⟩⟩
theorem hang_tx {h h' : Hs} (o : h.Ok) (t : h.Tx) {l : PySem.Str} {ts : List Tl} (hl : l ∈ h.lines) (e : h.hang l = .ok (ts, h')) : h'.Tx ∧ ∀ x ∈ ts, x.tx := by
  have d2 : (h.ln l).way ≠ .rests := fun z => by unfold Hs.hang at e; rw [z] at e; cases e
  have d3 : (h.ln l).way ≠ .rung := fun z => by unfold Hs.hang at e; rw [z] at e; cases e
  rw [hang_def d2 d3] at e
  have t0 : Tx { h with queue := if (h.ln l).way = .waits then h.queue.erase l else h.queue } := ⟨t.why, t.done⟩
  have t1 := Tx.freed (l := l) t0 hl
  generalize hg : Hs.freed { h with queue := if (h.ln l).way = .waits then h.queue.erase l else h.queue } l = g at e t1
  have gl : g.lines = h.lines := by rw [← hg, freed_eq]
  cases hen : (h.ln l).en with
  | none =>
    rw [hen] at e
    cases e
    exact ⟨t1.begin_, tx1 (x := .rests l) (o.tzl hl)⟩
  | some p =>
    have oe := o.en hl hen
    have t2 := Tx.freed (l := p) t1 (gl ▸ oe.1)
    rw [hen] at e
    dsimp only at e
    split at e
    · cases e
      refine ⟨t2.begin_.begin_, fun x hx => ?_⟩
      simp only [List.mem_cons, List.not_mem_nil, or_false] at hx
      rcases hx with rfl | rfl
      · exact o.tzl hl
      · exact o.tzl oe.1
    · cases e
      refine ⟨Tx.begin_ (t2.up rfl rfl rfl fun y hy => by cases hy), fun x hx => ?_⟩
      simp only [List.mem_cons, List.not_mem_nil, or_false] at hx
      rcases hx with rfl | rfl
      · exact o.tzl hl
      · exact o.tzl oe.1
theorem ledTo_tx {h : Hs} {l f : PySem.Str} (t : h.Tx) (hl : l ∈ h.lines) (zl : tz l) (zf : tz f) : (h.ledTo l f).2.Tx ∧ (h.ledTo l f).1.tx := by
  unfold ledTo
  split
  · exact ⟨t.ended zf, zl, zf⟩
  · rename_i c
    have c : f ∈ h.lines := Decidable.byContradiction c
    split
    · exact ⟨t.ended zf, zl, zf⟩
    · refine ⟨?_, zl, zf⟩
      have t1 : (h.setLn f { h.ln f with way := .rung, en := some l }).Tx := t.up rfl rfl rfl fun y hy => t.why f c y hy
      exact t1.up rfl rfl rfl fun y hy => t.why l hl y hy
theorem ledBy_tx {h : Hs} {l f : PySem.Str} (t : h.Tx) (hl : l ∈ h.lines) (zl : tz l) (zf : tz f) (zp : f ∈ h.wheres → ∀ p ∈ (h.rk f).paper, tz p) : (h.ledBy l f).2.Tx ∧ (h.ledBy l f).1.tx := by
  unfold ledBy
  split
  · exact ⟨t.ended zf, zl, zf⟩
  · rename_i c
    have c : f ∈ h.wheres := Decidable.byContradiction c
    split
    · have zy : (Wy.group f (h.rk f).paper).tx := ⟨zf, zp c⟩
      exact ⟨t.ended zy, zl, zy⟩
    · refine ⟨?_, zl, zf⟩
      have t1 : (h.setRk f ((h.rk f).give ‹Nat› l)).Tx := ⟨t.why, t.done⟩
      exact t1.up rfl rfl rfl fun y hy => t.why l hl y hy
theorem gap_tx {h h' : Hs} (o : h.Ok) (t : h.Tx) {l : PySem.Str} {ts : List Tl} (hl : l ∈ h.lines) (e : h.gap l = .ok (ts, h')) : h'.Tx ∧ ∀ x ∈ ts, x.tx := by
  unfold gap at e
  cases hw : (h.ln l).way <;> rw [hw] at e <;> first | (cases e; done) | skip
  obtain ⟨f, m, tn, er, l1, l2, l3, l4⟩ := o.dialsIs hl hw
  have zf : tz (h.figsOn l) := tz_dig (figsOn_dig (by rw [er]; exact l2))
  have t1 : (h.setLn l { h.ln l with figs := h.figsOn l, many := 0 }).Tx := t.up rfl rfl rfl fun y hy => t.why l hl y hy
  dsimp only at e
  split at e
  · cases e
  · split at e
    · cases e
      have := ledTo_tx t1 hl (o.tzl hl) zf
      exact ⟨this.1, tx1 this.2⟩
    · split at e
      · cases e
        exact ⟨t1, tx1 (x := .figure l (h.figsOn l)) ⟨o.tzl hl, zf⟩⟩
      · cases e
        have := ledBy_tx t1 hl (o.tzl hl) zf (fun c => o.tzp c)
        exact ⟨this.1, tx1 this.2⟩
theorem act_tx {h h' : Hs} (o : h.Ok) (t : h.Tx) {d : Dd} {ts : List Tl} (e : h.act d = .ok (ts, h')) : h'.Tx ∧ (∀ x ∈ ts, x.tx) ∧ d.tx := by
  cases d with
  | ln w l =>
    change h.atLine w l = _ at e
    unfold atLine at e
    split at e
    · cases e
    · rename_i c
      have c : l ∈ h.lines := Decidable.byContradiction c
      have zl : (Dd.ln w l).tx := o.tzl c
      cases w with
      | lift => have := lift_tx o t c e; exact ⟨this.1, this.2, zl⟩
      | hang => have := hang_tx o t c e; exact ⟨this.1, this.2, zl⟩
      | pulse => have := pulse_tx o t c e; exact ⟨this.1, this.2, zl⟩
      | gap => have := gap_tx o t c e; exact ⟨this.1, this.2, zl⟩
  | sw b w k =>
    change (if w ∈ h.wheres ∧ 0 ≤ k ∧ k < ((h.rk w).held.length : Int) then _ else _) = _ at e
    split at e
    · rename_i c
      cases e
      exact ⟨⟨t.why, t.done⟩, (fun x hx => nomatch hx), o.tzw c.1⟩
    · cases e
theorem tones_tx : ∀ (m : Nat) (h : Hs), h.Ok → h.Tx → (tones m h).2.Tx ∧ ∀ x ∈ (tones m h).1, x.tx
  | 0, h, _, t => ⟨t, fun x hx => nomatch hx⟩
  | m + 1, h, o, t => by
    cases hq : h.queue with
    | nil =>
      have : tones (m + 1) h = ([], h) := by
        show (match h.queue with | [] => ([], h) | l :: _ => match h.first with | none => ([], h) | some k => (Tl.tone l k (h.went l k) :: (tones m (h.tone1 l k)).1, (tones m (h.tone1 l k)).2)) = _
        rw [hq]
      rw [this]
      exact ⟨t, fun x hx => nomatch hx⟩
    | cons l qs =>
      cases hf : h.first with
      | none => rw [tones_none hf]; exact ⟨t, fun x hx => nomatch hx⟩
      | some k =>
        have hl := ((o.q l).mp (by rw [hq]; exact List.mem_cons_self)).1
        have t1 : (h.tone1 l k).Tx := t.up rfl rfl rfl fun y hy => t.why l hl y hy
        have ih := tones_tx m (h.tone1 l k) (o.tone1 hq hf) t1
        rw [tones_cons (m := m) hq hf]
        refine ⟨ih.1, fun x hx => ?_⟩
        rcases List.mem_cons.mp hx with rfl | hx
        · exact o.tzl hl
        · exact ih.2 x hx
theorem step_tx {h h' : Hs} (o : h.Ok) (t : h.Tx) {d : Dd} {ts : List Tl} (e : h.step d = .ok (ts, h')) : h'.Tx ∧ ∀ x ∈ ts, x.tx := by
  unfold step at e
  split at e
  · cases e
  · rename_i ts1 h1 e1
    cases e
    have a := act_tx o t e1
    have t1 : (h1.noted d).Tx := ⟨a.1.why, fun x hx => by
      rcases List.mem_append.mp hx with hx | hx
      · exact a.1.done x hx
      · rw [List.mem_singleton.mp hx]; exact a.2.2⟩
    have b := tones_tx h1.queue.length (h1.noted d) ((act_ok o e1).noted d) t1
    refine ⟨b.1, fun x hx => ?_⟩
    rcases List.mem_append.mp hx with hx | hx
    · exact a.2.1 x hx
    · exact b.2 x hx
theorem new_tx {d : Pd} : (Hs.new d).Tx := ⟨fun l _ y hy => (by cases hy), fun x (hx : x ∈ ([] : List Dd)) => absurd hx List.not_mem_nil⟩
end Hs
theorem Tl.depth (t : Tl) : t.d.depth ≤ 3 := by
  cases t with
  | busy l w =>
    have := Wy.depth w
    show max 0 (max 0 (max w.d.depth 0)) + 1 ≤ 3
    omega
  | _ => exact (by decide : (1 : Nat) ≤ 3)
theorem shaped_tls {ts : List Tl} (h : ∀ x ∈ ts, x.tx) : SeqAt.shaped (.list (ts.map Tl.d)) = true := by
  have a : PyData.canLayAll0 (ts.map Tl.d) = true := by
    induction ts with
    | nil => rfl
    | cons t ts ih =>
      show (t.d.canLay0 && PyData.canLayAll0 (ts.map Tl.d)) = true
      rw [Tl.lay (h t List.mem_cons_self), ih fun x hx => h x (List.mem_cons_of_mem _ hx)]; rfl
  have b : PyData.depthAll (ts.map Tl.d) ≤ 3 := by
    clear h a
    induction ts with
    | nil => exact Nat.zero_le _
    | cons t ts ih =>
      have := Tl.depth t
      show max t.d.depth (PyData.depthAll (ts.map Tl.d)) ≤ 3
      omega
  show (PyData.canLayAll0 (ts.map Tl.d) && decide (PyData.depthAll (ts.map Tl.d) + 1 ≤ 64)) = true
  rw [a, decide_eq_true (show PyData.depthAll (ts.map Tl.d) + 1 ≤ 64 by omega)]; rfl
end L2.Zs
namespace L2.Zs
open PySem PySem.Spec PyProof.Rows
/-! # deep data compared -/
section
variable {K : PySem.W.Frag} {H : Hp} {Q : VK} {a b : Addr} {ds : List PyData} {cs es F : List As}
theorem Sep.dpI (S : Sep cs H) (p : Pick (lsI a ds) cs es) : Dp K H (.ref a) (.list ds) := by
  obtain ⟨xs, S⟩ := Sep.lsO (S.pick p)
  exact .lst (SqL.of (S.get Pick.here)) (IsAll.dp (S.imsGet (Pick.there Pick.here)))
theorem s_neII (S : Sep cs H) {es2 : List As} (p : Pick (lsI a ds) cs es) (q : Pick (lsI b ds) cs es2) (h : SeqAt.shaped (.list ds) = true) (k : Q (.bl false) H) : rNeZ K (.ref a) (.ref b) H Q := by
  refine s_neD (S.dpI p) (S.dpI q) h h ?_
  rw [eqv_same h]
  exact k
end
/-! # sorted(d) -/
def rSortD (xs : List V) (H : Hp) (Q : VK) : Prop := ∃ (a : Addr) (kvs : List (Key × V)) (ks : List PySem.Str), xs = [.ref a] ∧ Rd H a (.dK kvs) ∧ kvs.map (·.1) = ks.map Sum.inr ∧ ks.length < 64 ∧
    ∀ ys p, ys.Perm ks → sortedS ys = true → H p = none → Q (.ref p) (upd H p (.lst (ys.map V.str)))
theorem k_sortedD {X : Cx} (hc : X.calm = true) : CallR X (.builtin "sorted") rSortD := call_sortedD hc
/-- what the law sees of both -/
def spShows (ad : Ad) : Sp := fun vs H Q E => ∃ (B : HL) (M : WM) (h : Hs) (F : List As), vs = [.ref B.p, .ref M.p] ∧ WK M h ∧ Gd B h ∧ h.Ok ∧ h.Tx ∧ Sep (HC ad B h (worC M h F)) H ∧ ∀ H', Sep (HC ad B h (worC M h F)) H' → Q (.bl true) H'
theorem len_shows {ad : Ad} {vs H Q E} (h : spShows ad vs H Q E) : vs.length = 2 := by obtain ⟨B, M, h, F, rfl, _⟩ := h; rfl
end L2.Zs
namespace L2.Zs
open PySem PySem.Spec PyProof.Rows
/-! # the law's plan -/
def spLPlan (K : PySem.W.Frag) : Sp := fun vs H Q E => ∃ (s : Addr) (ns : List Int) (at_ : Int) (F : List As), vs = [.ref s, .int at_] ∧ 0 ≤ at_ ∧ at_ < 900000 ∧ Sep (sq K s (ns.map V.int) :: F) H ∧
  ∀ (t a b : Addr) (long sk : Nat) (ls : List PySem.Str) (xs : List V) (gs : List Pr) (H' : Hp), planB (long : Nat) ls (sk : Nat) gs = true →
    Sep (pt t (.tup [.int (long : Nat), .ref a, .int (sk : Nat), .ref b]) :: pt a (.lst (ls.map V.str)) :: pt b (.lst xs) :: ims xs (gs.map gD) :: sq K s (ns.map V.int) :: F) H' → Q (.ref t) H'
theorem len_lplan {K vs H Q E} (h : spLPlan K vs H Q E) : vs.length = 2 := by obtain ⟨s, ns, a, F, rfl, _⟩ := h; rfl
/-- the first n of a list -/
theorem cutV_pre {xs : List V} {n : Nat} : cutV xs none (some (n : Int)) = xs.take n := by
  unfold cutV
  rw [HT.sIx_nat]
  show (xs.drop 0).take (min n xs.length - 0) = xs.take n
  rw [List.drop_zero, Nat.sub_zero, ← List.take_eq_take_min]
/-- the first n signs of a text -/
def prz (z : PySem.Str) (n : Nat) : PySem.Str := cutS z none (some (n : Int))
theorem prz_codes (z : PySem.Str) (n : Nat) : (prz z n).cps.toList = z.cps.toList.take n := by
  unfold prz cutS
  rw [HT.sIx_nat]
  show ((z.cps.toList.drop 0).take (min n z.length - 0)) = z.cps.toList.take n
  rw [List.drop_zero, Nat.sub_zero, show z.length = z.cps.toList.length from (Array.length_toList).symm, ← List.take_eq_take_min]
theorem prz_figs {z : PySem.Str} {m n : Nat} (h : figs m z) (hn : n ≤ m) : figs n (prz z n) := by
  refine ⟨?_, fun c hc => h.2 c ?_⟩
  · show (prz z n).cps.size = n
    rw [← Array.length_toList, prz_codes, List.length_take, Array.length_toList]
    have : z.cps.size = m := h.1
    omega
  · rw [prz_codes] at hc
    exact List.mem_of_mem_take hc
end L2.Zs
namespace L2.Zs
open PySem PySem.Spec PyProof.Rows
/-! # sorted rows there are -/
theorem pw_sortS : ∀ {zs : List PySem.Str}, zs.Pairwise leS → sortedS zs = true
  | [], _ => rfl
  | z :: zs, h => by
    have go : ∀ {zs : List PySem.Str} {p : PySem.Str}, (∀ x ∈ zs, leS p x) → zs.Pairwise leS → risingS p zs = true := by
      intro zs
      induction zs with
      | nil => intro p _ _; rfl
      | cons x r ih =>
        intro p h1 h2
        have a := List.pairwise_cons.mp h2
        have l : ltCps x.cps.toList p.cps.toList = false := by
          rw [ltCps_eq]
          exact h1 x List.mem_cons_self
        unfold risingS
        rw [l, ih a.1 a.2]; rfl
    have a := List.pairwise_cons.mp h
    exact go a.1 a.2
theorem ex_pw {α : Type} (le : α → α → Prop) (tr : ∀ a b c, le a b → le b c → le a c) (tot : ∀ a b, le a b ∨ le b a) : ∀ xs : List α, ∃ ys : List α, ys.Perm xs ∧ ys.Pairwise le
  | [] => ⟨[], List.Perm.refl _, .nil⟩
  | x :: xs => by
    obtain ⟨ys, p, s⟩ := ex_pw le tr tot xs
    have ins : ∀ ys : List α, ys.Pairwise le → ∃ zs : List α, zs.Perm (x :: ys) ∧ zs.Pairwise le := by
      intro ys
      induction ys with
      | nil => intro _; exact ⟨[x], List.Perm.refl _, List.pairwise_singleton _ _⟩
      | cons y r ih =>
        intro h
        have a := List.pairwise_cons.mp h
        rcases tot x y with c | c
        · refine ⟨x :: y :: r, List.Perm.refl _, List.pairwise_cons.mpr ⟨fun z hz => ?_, h⟩⟩
          rcases List.mem_cons.mp hz with rfl | hz
          · exact c
          · exact tr _ _ _ c (a.1 z hz)
        · obtain ⟨zs, p, s⟩ := ih a.2
          refine ⟨y :: zs, (List.Perm.cons y p).trans (List.Perm.swap x y r), List.pairwise_cons.mpr ⟨fun z hz => ?_, s⟩⟩
          rcases List.mem_cons.mp (p.mem_iff.mp hz) with rfl | hz
          · exact c
          · exact a.1 z hz
    obtain ⟨zs, q, t⟩ := ins ys s
    exact ⟨zs, q.trans (List.Perm.cons x p), t⟩
theorem ex_sortS (xs : List PySem.Str) : ∃ ys : List PySem.Str, ys.Perm xs ∧ sortedS ys = true := by
  obtain ⟨ys, p, s⟩ := ex_pw leS (fun a b c h1 h2 => KeyOrd.kle_trans (O := PyProof.Rows.strKind.toKeyOrd) h1 h2) (fun a b => by
    unfold leS
    by_cases h : PyProof.Rows.strKind.toKeyOrd.klt a.cps.toList b.cps.toList
    · exact .inl (KeyOrd.kle_of_klt h)
    · exact .inr (KeyOrd.kle_of_not_klt h)) xs
  exact ⟨ys, p, pw_sortS s⟩
theorem ex_sortG (xs : List Pr) : ∃ ys : List Pr, ys.Perm xs ∧ sortedG ys :=
  ex_pw leG (fun a b c h1 h2 => by
    unfold leG at *
    cases e : lexLt itemOrd (keyG c) (keyG a) with
    | false => rfl
    | true =>
      rcases lex_negTrans (O := itemOrd) (keyG c) (keyG b) (keyG a) e with q | q
      · rw [h2] at q; cases q
      · rw [h1] at q; cases q) (fun a b => by
    unfold leG
    cases e : lexLt itemOrd (keyG b) (keyG a) with
    | false => exact .inl rfl
    | true =>
      right
      cases e2 : lexLt itemOrd (keyG a) (keyG b) with
      | false => rfl
      | true =>
        have := lex_trans (O := itemOrd) _ _ _ e e2
        rw [lex_irrefl] at this; cases this) xs
/-- the plan that is made of these parts -/
theorem ex_pd {long sk : Nat} {ls : List PySem.Str} {gs : List Pr} (h : planB (long : Nat) ls (sk : Nat) gs = true) : ∃ d : Pd, d.long = long ∧ d.sk = sk ∧ d.lines.Perm ls ∧ sortedS d.lines = true ∧ d.gs.Perm gs ∧ sortedG d.gs ∧ PdOk d := by
  obtain ⟨l2, p1, s1⟩ := ex_sortS ls
  obtain ⟨g2, p2, s2⟩ := ex_sortG gs
  exact ⟨⟨long, l2, sk, g2⟩, rfl, rfl, p1, s1, p2, s2, PdOk.of h (by simp) (by simp) p1 p2⟩
theorem pd_eq {d e : Pd} (h1 : d.long = e.long) (h2 : d.sk = e.sk) {ls : List PySem.Str} {gs : List Pr} (p1 : d.lines.Perm ls) (q1 : e.lines.Perm ls) (s1 : sortedS d.lines = true) (t1 : sortedS e.lines = true) (p2 : d.gs.Perm gs) (q2 : e.gs.Perm gs) (s2 : sortedG d.gs) (t2 : sortedG e.gs) : d = e := by
  have a := sortS_eq (p1.trans q1.symm) s1 t1
  have b := sortedG_eq (p2.trans q2.symm) s2 t2
  obtain ⟨d1, d2, d3, d4⟩ := d
  obtain ⟨e1, e2, e3, e4⟩ := e
  dsimp only at *
  subst h1 h2 a b
  rfl
/-! # slices of texts -/
theorem s_slSx {z : PySem.Str} {n : Nat} {H : Hp} {Q : VK} (h : z.length ≤ 10000000) (k : Q (.str (prz z n)) H) : rSlS (.str z) none (some (n : Int)) H Q := ⟨z, rfl, Nat.le_trans h (by decide), k⟩
theorem figs_app {m n : Nat} {a b : PySem.Str} (h1 : figs m a) (h2 : figs n b) : figs (m + n) (a ++ b) := by
  refine ⟨by rw [app_len, h1.1, h2.1], fun c hc => ?_⟩
  rw [app_codes] at hc
  rcases List.mem_append.mp hc with hc | hc
  · exact h1.2 c hc
  · exact h2.2 c hc
theorem prz_len {z : PySem.Str} {n : Nat} (h : n ≤ z.length) : (prz z n).length = n := by
  show (prz z n).cps.size = n
  rw [← Array.length_toList, prz_codes, List.length_take, Array.length_toList]
  have : n ≤ z.cps.size := h
  omega
section
variable {tr : TA} {σ : St} {H : Hp} {R : It → Hp → Prop}
instance : Stp (iRng2 tr σ H R) (tr σ H fun vs H1 => ∃ i j : Int, vs = [.int i, .int j] ∧ (-(2 ^ 62) ≤ i ∧ i < 2 ^ 62 ∧ -(2 ^ 62) ≤ j ∧ j < 2 ^ 62) ∧ R (Itr i (j - i).toNat) H1) := ⟨id⟩
end
theorem map_snoc {α β : Type} (f : α → β) (xs : List α) (x : α) : xs.map f ++ [f x] = (xs ++ [x]).map f := by simp
instance {a0 a1 a2 a3 a4 : V} {xs : List V} : AtI (a0 :: a1 :: a2 :: a3 :: a4 :: xs) 4 a4 := ⟨atI_of (by decide) rfl⟩
instance {a0 a1 a2 a3 a4 a5 : V} {xs : List V} : AtI (a0 :: a1 :: a2 :: a3 :: a4 :: a5 :: xs) 5 a5 := ⟨atI_of (by decide) rfl⟩
instance {a0 a1 a2 a3 a4 a5 a6 : V} {xs : List V} : AtI (a0 :: a1 :: a2 :: a3 :: a4 :: a5 :: a6 :: xs) 6 a6 := ⟨atI_of (by decide) rfl⟩
instance {a0 a1 a2 a3 a4 a5 a6 a7 : V} {xs : List V} : AtI (a0 :: a1 :: a2 :: a3 :: a4 :: a5 :: a6 :: a7 :: xs) 7 a7 := ⟨atI_of (by decide) rfl⟩
/-- what came of a step is put behind all that was done -/
theorem Hs.step_done {h h' : Hs} {d : Dd} {ts : List Tl} (e : h.step d = .ok (ts, h')) : h'.done = h.done ++ [d] ∧ h'.long = h.long ∧ h'.lines = h.lines ∧ h'.wheres = h.wheres := by
  unfold Hs.step at e
  cases ea : h.act d with
  | error x => rw [ea] at e; cases e
  | ok p =>
    obtain ⟨t1, h1⟩ := p
    rw [ea] at e
    injection e with e
    injection e with e1 e2
    obtain ⟨k, _⟩ := Hs.act_like ea
    obtain ⟨s1, s2, s3, s4⟩ := Hs.tones_shape h1.queue.length (h1.noted d)
    rw [← e2, s1, s2, s3, s4]
    exact ⟨by show h1.done ++ [d] = _; rw [k.done], k.long, k.lines, k.wheres⟩
end L2.Zs
namespace L2.Zs
open PySem PySem.Spec PyProof.Rows
set_option hygiene false
local macro_rules | `(tactic| wtm_at "pk") => `(tactic| (repeat (first | with_reducible exact Pick.here | with_reducible apply Pick.there)))
local macro_rules | `(tactic| wtm_at "cg") => `(tactic| (repeat (first | with_reducible exact Chg.here | with_reducible apply Chg.there)))
local macro_rules | `(tactic| wtm_at "sa") => `(tactic| (repeat (first | with_reducible exact SetAt.here | with_reducible apply SetAt.there)))
local macro_rules | `(tactic| wtm_at "wk1") => `(tactic| (repeat (first | with_reducible exact Wk.refl | (with_reducible apply Wk.pick; focus (wtm_at "pk"; done)) | with_reducible apply Wk.drop)))
local macro_rules | `(tactic| wtm_at "wk") => `(tactic| (refine Wk.sep ?_ (by assumption); wtm_at "wk1"))
local macro_rules | `(tactic| wtm_at "sz") => `(tactic| first | exact Nat.le_of_ble_eq_true rfl | assumption | omega)
local macro_rules | `(tactic| wtm_at "s1") => `(tactic| first
  | refine Stp.go ?_
  | ((with_reducible show rMod _ _ _ _); (with_reducible refine s_mod (by first | decide | assumption | omega) ?_))
  | ((with_reducible show rMulZ _ _ _ _); (with_reducible refine s_mulI (by first | exact cmul_l (by decide) | exact cmul_r (by decide) | (exact cmul_l (by omega)) | (exact cmul_r (by omega))) ?_))
  | ((with_reducible show rDiv _ _ _ _); (with_reducible refine s_div (cdiv_of (by decide) (by decide)) ?_))
  | ((with_reducible show rPow _ _ _ _); (with_reducible refine s_pow (cpow_of (by decide) (by decide) (by decide)) ?_))
  | ((with_reducible show rLen _ _ _ _); (with_reducible refine s_lenL (by assumption) (by wtm_at "pk") ?_))
  | ((with_reducible show rLen _ _ _ _); (with_reducible refine s_lenQ (by assumption) (by wtm_at "pk") ?_))
  | ((with_reducible show rLen _ _ _ _); (with_reducible refine s_lenT (by assumption) (by wtm_at "pk") ?_))
  | ((with_reducible show tyV _ _ _ _ ∧ _); (with_reducible refine s_tyL (by assumption) (by wtm_at "pk") ?_))
  | ((with_reducible show FldGet _ _ _ _ _); (with_reducible refine s_fldA (by assumption) (by wtm_at "pk") (by assumption) (by decide +kernel) (by infer_instance) ?_))
  | ((with_reducible show MtGo _ _ _ _ _); (with_reducible refine s_mtA (by assumption) (by wtm_at "pk") (by first | assumption | exact List.mem_cons_self | exact List.mem_cons_of_mem _ List.mem_cons_self) (by infer_instance) (by decide +kernel) ?_))
  | ((with_reducible show DG _ _ _ _); (with_reducible refine s_dgetA (by assumption) (by wtm_at "pk") (by infer_instance) ?_))
  | ((with_reducible show DG _ _ _ _); (with_reducible refine s_dgetM (by assumption) (by wtm_at "pk") (by assumption) ?_))
  | ((with_reducible show rIx _ _ _ _ _); (with_reducible refine s_ixTA (by assumption) (by wtm_at "pk") (by infer_instance) ?_))
  | ((with_reducible show rIx _ _ _ _ _); (with_reducible refine s_ixLA (by assumption) (by wtm_at "pk") (by infer_instance) ?_))
  | ((with_reducible show FldSet _ _ _ _ _ _); (with_reducible refine s_sfldA (by assumption) (by wtm_at "pk") (by assumption) (by decide +kernel) (by infer_instance) (by wtm_at "cg") (fun H S => ?_)))
  | ((with_reducible show FAug _ _ _ _ _ _); (with_reducible refine s_faugA (by assumption) (by wtm_at "pk") (by assumption) (by decide +kernel) (by infer_instance) (by infer_instance) (by wtm_at "cg") (fun H S => ?_)))
  | ((with_reducible show DP _ _ _ _ _); (with_reducible refine s_dputA (by assumption) (by wtm_at "pk") (by infer_instance) (by wtm_at "cg") (fun H S => ?_)))
  | ((with_reducible show DP _ _ _ _ _); (with_reducible refine s_dputM (by assumption) (by wtm_at "cg") (by assumption) (by first | assumption | omega) (fun H S => ?_)))
  | ((with_reducible show DI _ _ _ _ _); (with_reducible refine s_dinM (by assumption) (by wtm_at "pk") ?_))
  | ((with_reducible show DI _ _ _ _ _); (with_reducible refine s_dniM (by assumption) (by wtm_at "pk") ?_)))
local macro_rules | `(tactic| wtm_at "st") => `(tactic| (repeat (first | wtm_at "s1" | with_reducible refine s_seq ?_)))
local macro_rules | `(tactic| wtm_at "stc") => `(tactic| (repeat wtm_at "s1"))
set_option hygiene true

section
variable {P : Program} {w : World} {K : PySem.W.Frag} {mg : PySem.Str → Option Value} {base : Heap} {ad : Ad} {Cs : List Addr} {C : Addr} {f : Addr} {fd : FuncData}
set_option maxHeartbeats 2000000
theorem ok_Lplan (T : Txt K mg ad) (c_Ldraws : Cal P w K mg base 2 "_law_draws" (spDraws K)) (c_Lnumber : Cal P w K mg base 1 "_law_number" spNumber) (F : Fun K "_law_plan" "_law_plan" s_Lplan f fd) : FnOk P w K mg base (L2.CX P w) 3 f fd ["script", "at"] (spLPlan K) := by
  refine F.okX sc_Lplan (fun vs H Q E h => len_lplan h) (fun cdv A outer s H vs Q E hr h => ?_)
  have tk : Takes (cxOf (L2.CX P w) P w K mg base N_Lplan "_law_plan" (defScope s_Lplan) f cdv A outer s H E) (fun cls d _ H => E cls d H) := takes_of rfl rfl rfl rfl
  have po_ : PassesOwn (model P w) (cxOf (L2.CX P w) P w K mg base N_Lplan "_law_plan" (defScope s_Lplan) f cdv A outer s H E).A (cxOf (L2.CX P w) P w K mg base N_Lplan "_law_plan" (defScope s_Lplan) f cdv A outer s H E).env (cxOf (L2.CX P w) P w K mg base N_Lplan "_law_plan" (defScope s_Lplan) f cdv A outer s H E).xe := passes_of rfl
  refine ⟨_, (pss_cons (ps_set (i := 2) sc_Lplan.nd rfl (Or.inl rfl) (z_call c_Ldraws tk hr (by decide) (by rfl) (pa_cons (pv 0) (pa_cons (pv 1) (pa_cons pe_int (pa_cons pe_int pa_nil))))))
  (pss_cons (ps_set (i := 3) sc_Lplan.nd rfl (Or.inr rfl) (pe_ix (k_ix (K := K) rfl) (pe_lst (pa_cons pe_int (pa_cons pe_int (pa_cons pe_int (pa_cons pe_int pa_nil))))) (pe_op zo_mod (pe_ix (k_ix (K := K) rfl) (pv 2) pe_int (fun _ _ => rfl)) pe_int) (fun _ _ => rfl)))
  (pss_cons (ps_set (i := 4) sc_Lplan.nd rfl (Or.inl rfl) (pe_ix (k_ix (K := K) rfl) (pe_lst (pa_cons (pe_op zo_add pe_int (pe_op zo_mod (pe_ix (k_ix (K := K) rfl) (pv 2) pe_int (fun _ _ => rfl)) pe_int)) (pa_cons (pe_op zo_add pe_int (pe_op zo_mod (pe_ix (k_ix (K := K) rfl) (pv 2) pe_int (fun _ _ => rfl)) pe_int)) (pa_cons pe_int (pa_cons (pe_op zo_add pe_int (pe_op zo_mod (pe_ix (k_ix (K := K) rfl) (pv 2) pe_int (fun _ _ => rfl)) pe_int)) pa_nil))))) (pe_op zo_mod (pe_ix (k_ix (K := K) rfl) (pv 2) pe_int (fun _ _ => rfl)) pe_int) (fun _ _ => rfl)))
  (pss_cons (ps_set (i := 5) sc_Lplan.nd rfl (Or.inl rfl) (z_call c_Ldraws tk hr (by decide) (by rfl) (pa_cons (pv 0) (pa_cons (pe_op zo_add (pv 1) pe_int) (pa_cons pe_int (pa_cons pe_int pa_nil))))))
  (pss_cons (ps_setLc (i := 7) (own := [("draw", 6)]) (g := gName 6) (tt := tYes) rfl sc_Lplan.nd rfl rfl (sw_true rfl rfl rfl (by decide +kernel)) (k_list (K := K) rfl (pe_slice (k_slL (K := K) rfl) (pv 5) po_none (po_some (pe_op zo_add pe_int (pe_op zo_mod (pe_ix (k_ix (K := K) rfl) (pv 2) pe_int (fun _ _ => rfl)) pe_int))))) (blkOk_by (N := N_Lplan) (sc := defScope s_Lplan) (by decide +kernel)) (fun _ _ _ _ _ => (pg_name (i := 6) sc_Lplan.nd rfl (Or.inl rfl))) (fun _ _ _ _ _ => pts_nil) (fun _ _ _ _ _ => (z_call c_Lnumber takes0 hr (by decide) (by rfl) (pa_cons (pv 6) (pa_cons (pv 3) pa_nil)))))
  (pss_cons (ps_set (i := 8) sc_Lplan.nd rfl (Or.inl rfl) (pe_lst pa_nil))
  (pss_cons (ps_for (po_) rfl (pi_range1 (by rfl) T.b_range (pa_cons (pv 4) pa_nil)) (pg_name (i := 9) sc_Lplan.nd rfl (Or.inl rfl)) (pss_cons (ps_set (i := 10) sc_Lplan.nd rfl (Or.inl rfl) (pe_ix (k_ix (K := K) rfl) (pe_lst (pa_cons (pe_op zo_sub (pv 3) pe_int) (pa_cons (pe_op zo_sub (pv 3) pe_int) (pa_cons (pe_op zo_sub (pv 3) pe_int) (pa_cons pe_int pa_nil))))) (pe_op zo_mod (pe_op zo_div (pe_ix (k_ix (K := K) rfl) (pv 5) (pv 9) (fun _ _ => rfl)) pe_int) pe_int) (fun _ _ => rfl)))
  (pss_cons (ps_set (i := 11) sc_Lplan.nd rfl (Or.inl rfl) (pe_slice sl_str (pe_ix (k_ix (K := K) rfl) (pv 7) (pe_op zo_mod (pe_ix (k_ix (K := K) rfl) (pv 5) (pv 9) (fun _ _ => rfl)) (pe_callB (k_len (K := K) rfl) (by rfl) T.b_len (by decide +kernel) (pa_cons (pv 7) pa_nil))) (fun _ _ => rfl)) po_none (po_some (pv 10))))
  (pss_cons (ps_set (i := 12) sc_Lplan.nd rfl (Or.inr rfl) (pe_op zo_add (pv 11) (z_call c_Lnumber tk hr (by decide) (by rfl) (pa_cons (pe_op zo_add (pe_op zo_mul (pe_op zo_div (pe_ix (k_ix (K := K) rfl) (pv 5) (pv 9) (fun _ _ => rfl)) pe_int) pe_int) (pe_op zo_mul (pv 9) (pv 9))) (pa_cons (pe_op zo_sub (pv 3) (pv 10)) pa_nil)))))
  (pss_one (ps_if (pt_cmpR (k_notInQ (K := K) rfl) (pv 12) (pv 8) (by with_unfolding_all rfl)) (pss_one (ps_expr (k_bm (K := K) rfl PySem.F.plainAttrs_list PySem.F.slot_list_append PySem.F.type_list_append z_append (pv 8) (pa_cons (pv 12) pa_nil)))) pss_nil))))))
  (pss_cons (ps_set (i := 13) sc_Lplan.nd rfl (Or.inr rfl) (pe_lst pa_nil))
  (pss_cons (ps_for (po_) rfl (k_list (K := K) rfl (pe_op zo_add (pv 8) (pe_lst (pa_cons (z_call c_Lnumber tk hr (by decide) (by rfl) (pa_cons (pe_ix (k_ix (K := K) rfl) (pv 2) pe_int (fun _ _ => rfl)) (pa_cons (pv 3) pa_nil))) pa_nil)))) (pg_name (i := 12) sc_Lplan.nd rfl (Or.inr rfl)) (pss_one (ps_expr (k_bm (K := K) rfl PySem.F.plainAttrs_list PySem.F.slot_list_extend PySem.F.type_list_extend z_extend (pv 13) (pa_cons (pe_lc (own := [("size", 14)]) (g := gName 14)  rfl sc_Lplan.nd (pi_range2 (by rfl) T.b_range (pa_cons pe_int (pa_cons (pe_op zo_sub (pv 3) pe_int) pa_nil))) (blkOk_by (N := N_Lplan) (sc := defScope s_Lplan) (by decide +kernel)) (fun _ _ _ _ _ => (pg_name (i := 14) sc_Lplan.nd rfl (Or.inl rfl))) (fun _ _ _ _ _ => (pts_one (pt_cmpR (k_notInQ (K := K) rfl) (pe_slice sl_str (pv 12) po_none (po_some (pv 14))) (pv 13) (by with_unfolding_all rfl)))) (fun _ _ _ _ _ => (pe_slice sl_str (pv 12) po_none (po_some (pv 14))))) pa_nil)))))
  (pss_cons (ps_set (i := 15) sc_Lplan.nd rfl (Or.inl rfl) (pe_lst pa_nil))
  (pss_cons (ps_for (po_) rfl (pi_range1 (by rfl) T.b_range (pa_cons (pe_callB (z_min2 rfl) (by rfl) T.b_min (by decide +kernel) (pa_cons pe_int (pa_cons (pe_callB (k_len (K := K) rfl) (by rfl) T.b_len (by decide +kernel) (pa_cons (pv 13) pa_nil)) pa_nil))) pa_nil)) (pg_name (i := 9) sc_Lplan.nd rfl (Or.inl rfl)) (pss_cons (ps_set (i := 6) sc_Lplan.nd rfl (Or.inl rfl) (pe_op zo_div (pe_ix (k_ix (K := K) rfl) (pv 5) (pe_op zo_sub pe_int (pv 9)) (fun _ _ => rfl)) pe_int))
  (pss_one (ps_if (pt_cmpR zo_gt (pe_op zo_mod (pv 6) pe_int) pe_int (nomark _)) (pss_one (ps_expr (k_bm (K := K) rfl PySem.F.plainAttrs_list PySem.F.slot_list_append PySem.F.type_list_append z_append (pv 15) (pa_cons (pe_tup (pa_cons (pe_ix (k_ix (K := K) rfl) (pv 13) (pv 9) (fun _ _ => rfl)) (pa_cons (pe_ix (k_ix (K := K) rfl) (pe_lst (pa_cons (pe_op zo_add pe_int (pe_op zo_mod (pe_op zo_div (pv 6) pe_int) pe_int)) (pa_cons (pe_op zo_mod (pe_op zo_div (pv 6) pe_int) pe_int) (pa_cons pe_int pa_nil)))) (pe_op zo_mod (pe_op zo_div (pv 6) pe_int) pe_int) (fun _ _ => rfl)) pa_nil))) pa_nil)))) pss_nil))))
  (pss_cons (ps_set (i := 16) sc_Lplan.nd rfl (Or.inl rfl) (pe_ix (k_ix (K := K) rfl) (pe_lst (pa_cons (pe_op zo_add pe_int (pe_op zo_mod (pe_ix (k_ix (K := K) rfl) (pv 2) pe_int (fun _ _ => rfl)) pe_int)) (pa_cons (pe_op zo_add pe_int (pe_op zo_mod (pe_ix (k_ix (K := K) rfl) (pv 2) pe_int (fun _ _ => rfl)) pe_int)) (pa_cons (pe_callB (k_len (K := K) rfl) (by rfl) T.b_len (by decide +kernel) (pa_cons (pv 8) pa_nil)) (pa_cons (pe_op zo_add pe_int (pe_op zo_mod (pe_ix (k_ix (K := K) rfl) (pv 2) pe_int (fun _ _ => rfl)) pe_int)) pa_nil))))) (pe_op zo_mod (pe_ix (k_ix (K := K) rfl) (pv 2) pe_int (fun _ _ => rfl)) pe_int) (fun _ _ => rfl)))
  (pss_one (ps_ret (pe_tup (pa_cons (pv 3) (pa_cons (pv 8) (pa_cons (pv 16) (pa_cons (pv 15) pa_nil))))))))))))))))))), ?_⟩
  have fPlan := T.fPlan
  obtain ⟨s, ns, at_, F, rfl, a0, a1, S, q⟩ := h
  refine s_start (σ := [some (.ref s), some (.int at_), none, none, none, none, none, none, none, none, none, none, none, none, none, none, none]) rfl ?_
  wtm_at "st"
  refine ⟨s, ns, at_, 8, 27720, F, rfl, S, a0, by omega, by decide, by decide, cdiv_of (by decide) (by decide), fun plan pp H pl pr S => ?_⟩
  obtain ⟨p0, p1, p2, p3, p4, p5, p6, p7, rfl⟩ : ∃ p0 p1 p2 p3 p4 p5 p6 p7, plan = [p0, p1, p2, p3, p4, p5, p6, p7] := by
    have pl : plan.length = 8 := by omega
    match plan, pl with
    | [p0, p1, p2, p3, p4, p5, p6, p7], _ => exact ⟨_, _, _, _, _, _, _, _, rfl⟩
  have S : Sep (pt pp (.lst [.int p0, .int p1, .int p2, .int p3, .int p4, .int p5, .int p6, .int p7]) :: sq K s (ns.map V.int) :: F) H := S
  simp only [List.mem_cons, List.not_mem_nil, or_false, forall_eq_or_imp, forall_eq] at pr
  wtm_at "st"
  refine s_newL (by wtm_at "sz") S fun l1 H S => ?_
  wtm_at "st"
  have m4 : ∀ p : Int, 0 ≤ p % 4 ∧ p % 4 < 4 := fun p => ⟨Int.emod_nonneg _ (by decide), Int.emod_lt_of_pos _ (by decide)⟩
  obtain ⟨v, hv, hm, _⟩ := atI_lt (xs := [V.int 3, .int 4, .int 2, .int 4]) (i := p0 % 4) (m4 p0).1 (m4 p0).2
  obtain ⟨long, rfl, lo2, lo4⟩ : ∃ n : Nat, v = .int n ∧ 2 ≤ n ∧ n ≤ 4 := by
    simp only [List.mem_cons, List.not_mem_nil, or_false] at hm
    rcases hm with rfl | rfl | rfl | rfl
    · exact ⟨3, rfl, by decide, by decide⟩
    · exact ⟨4, rfl, by decide, by decide⟩
    · exact ⟨2, rfl, by decide, by decide⟩
    · exact ⟨4, rfl, by decide, by decide⟩
  refine s_ixL S (by wtm_at "pk") hv ?_
  wtm_at "st"
  refine s_newL (by wtm_at "sz") S fun l2 H S => ?_
  wtm_at "st"
  obtain ⟨v, hv, hm, _⟩ := atI_lt (xs := [V.int (2 + p1 % 9), .int (1 + p1 % 60), .int 6, .int (1 + p1 % 24)]) (i := p2 % 4) (m4 p2).1 (m4 p2).2
  obtain ⟨many, rfl, ma1, ma60⟩ : ∃ n : Nat, v = .int n ∧ 1 ≤ n ∧ n ≤ 60 := by
    have k9 := emod_in p1 (p := 9) (by decide)
    have k60 := emod_in p1 (p := 60) (by decide)
    have k24 := emod_in p1 (p := 24) (by decide)
    simp only [List.mem_cons, List.not_mem_nil, or_false] at hm
    rcases hm with rfl | rfl | rfl | rfl
    · exact ⟨(2 + p1 % 9).toNat, by rw [Int.toNat_of_nonneg (by omega)], by omega, by omega⟩
    · exact ⟨(1 + p1 % 60).toNat, by rw [Int.toNat_of_nonneg (by omega)], by omega, by omega⟩
    · exact ⟨6, rfl, by decide, by decide⟩
    · exact ⟨(1 + p1 % 24).toNat, by rw [Int.toNat_of_nonneg (by omega)], by omega, by omega⟩
  refine s_ixL S (by wtm_at "pk") hv ?_
  wtm_at "st"
  refine ⟨s, ns, at_ + 1, 60, 10080, pt pp (.lst [.int p0, .int p1, .int p2, .int p3, .int p4, .int p5, .int p6, .int p7]) :: F, rfl, (by wtm_at "wk"), by omega, by omega, by decide, by decide, cdiv_of (by decide) (by decide), fun draws dp H dl dr S => ?_⟩
  have dl : draws.length = 60 := by omega
  wtm_at "st"
  obtain ⟨n6, en6, n61, n66⟩ : ∃ n : Nat, (1 + p3 % 6 : Int) = n ∧ 1 ≤ n ∧ n ≤ 6 := by
    have k6 := emod_in p3 (p := 6) (by decide)
    exact ⟨(1 + p3 % 6).toNat, by rw [Int.toNat_of_nonneg (by omega)], by omega, by omega⟩
  rw [en6]
  refine s_slL S (by wtm_at "pk") fun sp H S => ?_
  rw [cutV_pre, ← List.map_take] at S
  wtm_at "st"
  refine ⟨sp, rfl, ⟨_, SqL.of (S.get (by wtm_at "pk"))⟩, ?_⟩
  refine s_lcL (xs := (draws.take n6).map V.int) S (fun D i H' => ∃ stems : List PySem.Str, stems.length = i ∧ (∀ z ∈ stems, figs long z) ∧ Sep (pt D (.lst (stems.map V.str)) :: pt sp (.lst ((draws.take n6).map V.int)) :: pt dp (.lst (draws.map V.int)) :: sq K s (ns.map V.int) :: pt pp (.lst [.int p0, .int p1, .int p2, .int p3, .int p4, .int p5, .int p6, .int p7]) :: F) H')
    (fun D H' S => ⟨[], rfl, (fun z hz => nomatch hz), S⟩) (fun D i H' _ ⟨_, _, _, S⟩ => SqL.of (S.get (by wtm_at "pk"))) ?_ ?_
  · rintro D i x H hx ⟨stems, hl, hf, S⟩
    have hi : i < 6 := by
      rcases Nat.lt_or_ge i 6 with c | c
      · exact c
      · rw [List.getElem?_eq_none (by rw [List.length_map, List.length_take]; omega)] at hx; cases hx
    rw [List.getElem?_map] at hx
    obtain ⟨dr1, _, rfl⟩ := Option.map_eq_some_iff.mp hx
    dsimp only [List.map, wipe, List.set]
    wtm_at "st"
    refine ⟨rfl, ?_⟩
    wtm_at "st"
    refine ⟨dr1, long, rfl, by omega, by omega, fun z hz => ?_⟩
    refine s_lcput S (by wtm_at "cg") (by rw [List.length_map]; exact Nat.lt_of_lt_of_le (show stems.length < 6 by omega) (by decide)) fun H S => ?_
    refine ⟨stems ++ [z], by rw [List.length_append, hl]; rfl, fun y hy => ?_, by rw [List.map_append]; exact S⟩
    rcases List.mem_append.mp hy with hy | hy
    · exact hf y hy
    · rw [List.mem_singleton.mp hy]; exact hz
  rintro D H ⟨stems, hsl, hsf, S⟩
  have hsl : stems.length = n6 := by rw [hsl, List.length_map, List.length_take]; omega
  wtm_at "st"
  refine s_newL (by wtm_at "sz") S fun lp H S => ?_
  wtm_at "st"
  have m60 : (many : Int) ≤ 60 := by omega
  have dat : ∀ i : Nat, i < many → ∃ dk : Int, atI (draws.map V.int) (i : Int) = some (.int dk) := fun i hi => by
    obtain ⟨v, hv, hm, _⟩ := atI_lt (xs := draws.map V.int) (i := (i : Int)) (by omega) (by rw [List.length_map]; omega)
    obtain ⟨dk, _, rfl⟩ := List.mem_map.mp hm
    exact ⟨dk, hv⟩
  refine s_rng1 (by omega) (by omega) (lp_range (fun i σ H => ∃ (ls : List PySem.Str) (v9 v10 v11 v12 : Option V), σ = [some (.ref s), some (.int at_), some (.ref pp), some (.int long), some (.int many), some (.ref dp), none, some (.ref D), some (.ref lp), v9, v10, v11, v12, none, none, none, none] ∧ ls.Nodup ∧ (∀ z ∈ ls, figs long z) ∧ ls.length ≤ i ∧ (1 ≤ i → 1 ≤ ls.length) ∧
    Sep (pt lp (.lst (ls.map V.str)) :: pt D (.lst (stems.map V.str)) :: pt dp (.lst (draws.map V.int)) :: sq K s (ns.map V.int) :: pt pp (.lst [.int p0, .int p1, .int p2, .int p3, .int p4, .int p5, .int p6, .int p7]) :: F) H)
    ⟨[], none, none, none, none, rfl, List.nodup_nil, (fun z hz => nomatch hz), Nat.le_refl _, (fun h => by omega), (by have S : Sep (pt lp (.lst (([] : List PySem.Str).map V.str)) :: _) H := S; wtm_at "wk")⟩ ?_ ?_)
  · rintro i σ H hi ⟨ls, v9, v10, v11, v12, rfl, nd, lf, ll, l1, S⟩
    rw [Int.toNat_natCast] at hi
    obtain ⟨dk, hdk⟩ := dat i hi
    wtm_at "st"
    refine s_newL (by wtm_at "sz") S fun kl H S => ?_
    wtm_at "st"
    refine s_ixL S (by wtm_at "pk") hdk ?_
    wtm_at "st"
    obtain ⟨v, hv, hm, _⟩ := atI_lt (xs := [V.int ((long : Int) - 1), .int ((long : Int) - 2), .int ((long : Int) - 1), .int 0]) (i := dk / 6 % 4) (m4 _).1 (m4 _).2
    obtain ⟨keep, rfl, kle⟩ : ∃ n : Nat, v = .int n ∧ n ≤ long := by
      simp only [List.mem_cons, List.not_mem_nil, or_false] at hm
      rcases hm with rfl | rfl | rfl | rfl
      · exact ⟨long - 1, by congr 1; omega, by omega⟩
      · exact ⟨long - 2, by congr 1; omega, by omega⟩
      · exact ⟨long - 1, by congr 1; omega, by omega⟩
      · exact ⟨0, rfl, by omega⟩
    refine s_ixL S (by wtm_at "pk") hv ?_
    wtm_at "st"
    refine s_ixL S (by wtm_at "pk") hdk ?_
    have sl0 : (0 : Int) < ((stems.map V.str).length : Nat) := by rw [List.length_map, hsl]; omega
    wtm_at "st"
    obtain ⟨v, hv, hm, _⟩ := atI_lt (xs := stems.map V.str) (i := dk % ((stems.map V.str).length : Nat)) (Int.emod_nonneg _ (by omega)) (Int.emod_lt_of_pos _ sl0)
    obtain ⟨z0, hz0, rfl⟩ := List.mem_map.mp hm
    have f0 := hsf z0 hz0
    refine s_ixL S (by wtm_at "pk") hv ?_
    wtm_at "st"
    refine s_slSx (by rw [f0.1]; omega) ?_
    wtm_at "st"
    refine s_ixL S (by wtm_at "pk") hdk ?_
    wtm_at "st"
    refine ⟨_, ((long : Int) - keep), rfl, by omega, by omega, fun z1 hz1 => ?_⟩
    have f2 := figs_app (prz_figs f0 kle) hz1
    rw [show keep + ((long : Int) - keep).toNat = long by omega] at f2
    have l0 := (prz_figs f0 kle).1
    have l1' := hz1.1
    refine s_addS (by rw [l0, l1']; exact Nat.le_trans (show keep + ((long : Int) - keep).toNat ≤ 4 by omega) (by decide)) ?_
    generalize prz z0 keep ++ z1 = zl at f2 ⊢
    wtm_at "st"
    refine s_notInL S (by wtm_at "pk") rfl (flat_strs ls) ?_
    rw [inV_str]
    wtm_at "st"
    refine s_ifn (fun c => ?_) (fun c => ?_)
    · wtm_at "st"
      refine s_append S (by wtm_at "cg") (by rw [List.length_map]; exact Nat.lt_of_le_of_lt (show ls.length ≤ 60 by omega) (by decide)) fun H S => ?_
      wtm_at "st"
      refine ⟨ls ++ [zl], _, _, _, _, rfl, List.nodup_append.mpr ⟨nd, List.pairwise_singleton _ _, fun a ha b hb e => ?_⟩, fun z hz => ?_, by rw [List.length_append]; show ls.length + 1 ≤ i + 1; omega, fun _ => by rw [List.length_append]; show 1 ≤ ls.length + 1; omega, ?_⟩
      · rw [List.mem_singleton.mp hb] at e; exact c (e ▸ ha)
      · rcases List.mem_append.mp hz with hz | hz
        · exact lf z hz
        · rw [List.mem_singleton.mp hz]; exact f2
      · rw [map_snoc] at S
        wtm_at "wk"
    · wtm_at "st"
      refine ⟨ls, _, _, _, _, rfl, nd, lf, by omega, fun _ => ?_, by wtm_at "wk"⟩
      cases ls with
      | nil => cases c
      | cons _ _ => exact Nat.succ_le_succ (Nat.zero_le _)
  rintro σ H ⟨ls, v9, v10, v11, v12, rfl, nd, lf, ll, l1, S⟩
  rw [Int.toNat_natCast] at ll l1
  have l1 := l1 ma1
  wtm_at "st"
  refine s_newL (by wtm_at "sz") S fun hp H S => ?_
  wtm_at "st"
  refine ⟨p4, long, rfl, by omega, by omega, fun zx hzx => ?_⟩
  rw [Int.toNat_natCast] at hzx
  wtm_at "st"
  refine s_newL (by wtm_at "sz") S fun n1 H S => ?_
  wtm_at "st"
  refine s_addL S (by wtm_at "pk") (by wtm_at "pk") (by rw [List.length_map]; exact Nat.le_trans (show ls.length + 1 ≤ 61 by omega) (by decide)) fun l3 H S => ?_
  rw [show [V.str zx] = [zx].map V.str from rfl, ← List.map_append] at S
  have lf3 : ∀ z ∈ ls ++ [zx], figs long z := fun z hz => by
    rcases List.mem_append.mp hz with hz | hz
    · exact lf z hz
    · rw [List.mem_singleton.mp hz]; exact hzx
  have ll3 : (ls ++ [zx]).length ≤ 61 := by rw [List.length_append]; show ls.length + 1 ≤ 61; omega
  obtain ⟨l4, el4⟩ : ∃ l4, l4 = ls ++ [zx] := ⟨_, rfl⟩
  rw [← el4] at S lf3 ll3
  wtm_at "st"
  refine s_list S (by wtm_at "pk") ?_
  refine lp_list (xs := l4.map V.str) (fun i σ H => ∃ (hs : List PySem.Str) (v6 v12 v14 : Option V), σ = [some (.ref s), some (.int at_), some (.ref pp), some (.int long), some (.int many), some (.ref dp), v6, some (.ref D), some (.ref lp), v9, v10, v11, v12, some (.ref hp), v14, none, none] ∧ hs.Nodup ∧ (∀ z ∈ hs, 1 ≤ z.length ∧ z.length + 2 ≤ long ∧ ∀ c ∈ z.cps.toList, 48 ≤ c ∧ c ≤ 57) ∧ hs.length ≤ 2 * i ∧
    Sep (pt hp (.lst (hs.map V.str)) :: pt l3 (.lst (l4.map V.str)) :: pt lp (.lst (ls.map V.str)) :: pt dp (.lst (draws.map V.int)) :: pt pp (.lst [.int p0, .int p1, .int p2, .int p3, .int p4, .int p5, .int p6, .int p7]) :: sq K s (ns.map V.int) :: F) H)
    ⟨[], _, _, _, rfl, List.nodup_nil, (fun z hz => nomatch hz), Nat.zero_le _, (by have S : Sep (pt l3 (.lst (l4.map V.str)) :: pt n1 (.lst [.str zx]) :: pt hp (.lst (([] : List PySem.Str).map V.str)) :: _) H := S; wtm_at "wk")⟩ (fun i σ H _ ⟨_, _, _, _, _, _, _, _, S⟩ => SqL.of (S.get (by wtm_at "pk"))) ?_ ?_
  · rintro i x σ H hx ⟨hs, v6, v12, v14, rfl, hnd, hf, hl, S⟩
    have hi : i < 61 := by
      rcases Nat.lt_or_ge i 61 with c | c
      · exact c
      · rw [List.getElem?_eq_none (by rw [List.length_map]; omega)] at hx; cases hx
    rw [List.getElem?_map] at hx
    obtain ⟨zl, hzl, rfl⟩ := Option.map_eq_some_iff.mp hx
    have fl := lf3 zl (List.mem_of_getElem? hzl)
    wtm_at "st"
    refine ⟨1, (long : Int) - 1, rfl, ⟨by decide, by decide, by omega, by omega⟩, ?_⟩
    refine s_lcR S (fun D2 j H' => ∃ ys : List PySem.Str, ys.Nodup ∧ (∀ z ∈ ys, z ∉ hs ∧ 1 ≤ z.length ∧ z.length ≤ j ∧ ∀ c ∈ z.cps.toList, 48 ≤ c ∧ c ≤ 57) ∧ ys.length ≤ j ∧ Sep (pt D2 (.lst (ys.map V.str)) :: pt hp (.lst (hs.map V.str)) :: pt l3 (.lst (l4.map V.str)) :: pt lp (.lst (ls.map V.str)) :: pt dp (.lst (draws.map V.int)) :: pt pp (.lst [.int p0, .int p1, .int p2, .int p3, .int p4, .int p5, .int p6, .int p7]) :: sq K s (ns.map V.int) :: F) H')
      (fun D2 H' S => ⟨[], List.nodup_nil, (fun z hz => nomatch hz), Nat.le_refl _, S⟩) ?_ ?_
    · rintro D2 j H hj ⟨ys, ynd, yf, yl, S⟩
      have hj2 : j + 3 ≤ long := by omega
      dsimp only [List.map, wipe, List.set]
      wtm_at "st"
      refine ⟨rfl, ?_⟩
      rw [show (1 + (j : Int)) = ((j + 1 : Nat) : Int) by omega]
      wtm_at "st"
      refine s_slSx (by rw [fl.1]; omega) ?_
      have pf := prz_figs (n := j + 1) fl (by omega)
      obtain ⟨pz, epz⟩ : ∃ pz, pz = prz zl (j + 1) := ⟨_, rfl⟩
      rw [← epz] at pf ⊢
      wtm_at "st"
      refine s_notInL S (by wtm_at "pk") rfl (flat_strs hs) ?_
      rw [inV_str]
      wtm_at "st"
      refine s_ifn (fun c => ?_) (fun c => ?_)
      · wtm_at "st"
        refine s_slSx (by rw [fl.1]; omega) ?_
        rw [← epz]
        refine s_lcput S (by wtm_at "cg") (by rw [List.length_map]; exact Nat.lt_of_le_of_lt (show ys.length ≤ 4 by omega) (by decide)) fun H S => ?_
        refine ⟨ys ++ [pz], List.nodup_append.mpr ⟨ynd, List.pairwise_singleton _ _, fun a ha b hb e => ?_⟩, fun z hz => ?_, by rw [List.length_append]; show ys.length + 1 ≤ j + 1; omega, by rw [List.map_append]; exact S⟩
        · rw [List.mem_singleton.mp hb] at e
          have := (yf a ha).2.2.1
          rw [e, pf.1] at this
          omega
        · rcases List.mem_append.mp hz with hz | hz
          · have := yf z hz
            exact ⟨this.1, this.2.1, by omega, this.2.2.2⟩
          · rw [List.mem_singleton.mp hz]
            exact ⟨c, by rw [pf.1]; omega, by rw [pf.1]; exact Nat.le_refl _, pf.2⟩
      · exact ⟨ys, ynd, fun z hz => by have := yf z hz; exact ⟨this.1, this.2.1, by omega, this.2.2.2⟩, by omega, S⟩
    rintro D2 H ⟨ys, ynd, yf, yl, S⟩
    have yl2 : ys.length ≤ 2 := by omega
    wtm_at "st"
    refine s_extend S (by wtm_at "cg") (by wtm_at "pk") (by rw [List.length_map, List.length_map]; exact Nat.le_trans (show hs.length + ys.length ≤ 200 by omega) (by decide)) fun H S => ?_
    wtm_at "st"
    refine ⟨hs ++ ys, _, _, _, rfl, List.nodup_append.mpr ⟨hnd, ynd, fun a ha b hb e => (yf b hb).1 (e ▸ ha)⟩, fun z hz => ?_, by rw [List.length_append]; omega, ?_⟩
    · rcases List.mem_append.mp hz with hz | hz
      · exact hf z hz
      · have := yf z hz
        exact ⟨this.2.1, by omega, this.2.2.2⟩
    · rw [← List.map_append] at S
      wtm_at "wk"
  rintro σ H ⟨hs, v6, v12, v14, rfl, hnd, hf, hl, S⟩
  rw [List.length_map] at hl
  wtm_at "st"
  refine s_newL (by wtm_at "sz") S fun gp H S => ?_
  wtm_at "st"
  obtain ⟨gm, egm, gm40, gmh⟩ : ∃ gm : Nat, (if (((hs.map V.str).length : Nat) : Int) < 40 then (((hs.map V.str).length : Nat) : Int) else 40) = (gm : Int) ∧ gm ≤ 40 ∧ gm ≤ hs.length := by
    rw [List.length_map]
    by_cases c : ((hs.length : Nat) : Int) < 40
    · exact ⟨hs.length, if_pos c, by omega, Nat.le_refl _⟩
    · exact ⟨40, if_neg c, Nat.le_refl _, by omega⟩
  rw [egm]
  refine s_rng1 (by omega) (by omega) (lp_range (fun i σ H => ∃ (gs : List Pr) (xs : List V) (v6 v9 : Option V), σ = [some (.ref s), some (.int at_), some (.ref pp), some (.int long), some (.int many), some (.ref dp), v6, some (.ref D), some (.ref lp), v9, v10, v11, v12, some (.ref hp), v14, some (.ref gp), none] ∧ (gs.map (fun (g : Pr) => g.1)).Sublist (hs.take i) ∧ (∀ g ∈ gs, 0 ≤ g.2 ∧ g.2 ≤ 10) ∧
    Sep (pt gp (.lst xs) :: ims xs (gs.map gD) :: pt hp (.lst (hs.map V.str)) :: pt lp (.lst (ls.map V.str)) :: pt dp (.lst (draws.map V.int)) :: pt pp (.lst [.int p0, .int p1, .int p2, .int p3, .int p4, .int p5, .int p6, .int p7]) :: sq K s (ns.map V.int) :: F) H)
    ⟨[], [], _, _, rfl, List.Sublist.refl _, (fun z hz => nomatch hz), (by
      have S : Sep (ims [] (([] : List Pr).map gD) :: pt gp (.lst []) :: pt hp (.lst (hs.map V.str)) :: _) H := Sep.ims0 S
      wtm_at "wk")⟩ ?_ ?_)
  · rintro i σ H hi ⟨gs, xs, v6, v9, rfl, sl, gr, S⟩
    rw [Int.toNat_natCast] at hi
    wtm_at "st"
    obtain ⟨v, hv, hm, _⟩ := atI_lt (xs := draws.map V.int) (i := 59 - (i : Int)) (by omega) (by rw [List.length_map]; omega)
    obtain ⟨dk, _, rfl⟩ := List.mem_map.mp hm
    refine s_ixL S (by wtm_at "pk") hv ?_
    wtm_at "st"
    obtain ⟨zh, hzh⟩ : ∃ zh, hs[i]? = some zh := ⟨_, List.getElem?_eq_getElem (by omega)⟩
    have tk1 : hs.take (i + 1) = hs.take i ++ [zh] := by rw [List.take_succ, hzh]; rfl
    refine s_ifd (fun c => ?_) (fun c => ?_)
    · wtm_at "st"
      refine s_ixL S (by wtm_at "pk") (v := .str zh) (by rw [show ((i : Nat) : Int) = ((i : Nat) : Int) from rfl]; exact atI_of (by omega) (by rw [Int.toNat_natCast, List.getElem?_map, hzh]; rfl)) ?_
      wtm_at "st"
      refine s_newL (by wtm_at "sz") S fun q1 H S => ?_
      wtm_at "st"
      obtain ⟨v, hv, hm, _⟩ := atI_lt (xs := [V.int (1 + dk / 7 / 9 % 3), .int (dk / 7 / 9 % 11), .int 1]) (i := dk / 7 / 99 % 3) (Int.emod_nonneg _ (by decide)) (Int.emod_lt_of_pos _ (by decide))
      obtain ⟨cn, rfl, cn0, cn10⟩ : ∃ cn : Int, v = .int cn ∧ 0 ≤ cn ∧ cn ≤ 10 := by
        have k3 := emod_in (dk / 7 / 9) (p := 3) (by decide)
        have k11 := emod_in (dk / 7 / 9) (p := 11) (by decide)
        simp only [List.mem_cons, List.not_mem_nil, or_false] at hm
        rcases hm with rfl | rfl | rfl
        · exact ⟨_, rfl, by omega, by omega⟩
        · exact ⟨_, rfl, by omega, by omega⟩
        · exact ⟨_, rfl, by decide, by decide⟩
      refine s_ixL S (by wtm_at "pk") hv ?_
      wtm_at "st"
      refine s_newT (by wtm_at "sz") S fun tp H S => ?_
      have S := Sep.imF S
      have gl : gs.length ≤ 40 := by
        have := sl.length_le
        rw [List.length_map, List.length_take] at this
        omega
      have xl := S.imsLen (xs := xs) (by wtm_at "pk")
      rw [List.length_map] at xl
      wtm_at "st"
      refine s_append S (by wtm_at "cg") (by rw [xl]; exact Nat.lt_of_le_of_lt gl (by decide)) fun H S => ?_
      wtm_at "st"
      refine ⟨gs ++ [(zh, cn)], xs ++ [.ref tp], _, _, rfl, ?_, fun g hg => ?_, ?_⟩
      · rw [tk1, List.map_append]
        exact List.Sublist.append sl (List.Sublist.refl _)
      · rcases List.mem_append.mp hg with hg | hg
        · exact gr g hg
        · rw [List.mem_singleton.mp hg]; exact ⟨cn0, cn10⟩
      · have S := Sep.imsP (S.fr2 (ims xs _) (im (.ref tp) _))
        rw [show [PyData.tuple [.str zh, .int cn]] = [((zh, cn) : Pr)].map gD from rfl, ← List.map_append] at S
        wtm_at "wk"
    · wtm_at "st"
      refine ⟨gs, xs, _, _, rfl, ?_, gr, by wtm_at "wk"⟩
      rw [tk1]
      exact sl.trans (List.sublist_append_left _ _)
  rintro σ H ⟨gs, xs, v6, v9, rfl, sl, gr, S⟩
  wtm_at "st"
  refine s_newL (by wtm_at "sz") S fun q2 H S => ?_
  wtm_at "st"
  obtain ⟨v, hv, hm, _⟩ := atI_lt (xs := [V.int (1 + p5 % 4), .int (1 + p5 % 60), .int ((ls.map V.str).length : Nat), .int (1 + p5 % 8)]) (i := p6 % 4) (m4 _).1 (m4 _).2
  obtain ⟨sk, rfl, sk1, sk60⟩ : ∃ n : Nat, v = .int n ∧ 1 ≤ n ∧ n ≤ 60 := by
    have k4 := emod_in p5 (p := 4) (by decide)
    have k60 := emod_in p5 (p := 60) (by decide)
    have k8 := emod_in p5 (p := 8) (by decide)
    simp only [List.mem_cons, List.not_mem_nil, or_false] at hm
    rcases hm with rfl | rfl | rfl | rfl
    · exact ⟨(1 + p5 % 4).toNat, by rw [Int.toNat_of_nonneg (by omega)], by omega, by omega⟩
    · exact ⟨(1 + p5 % 60).toNat, by rw [Int.toNat_of_nonneg (by omega)], by omega, by omega⟩
    · exact ⟨ls.length, by rw [List.length_map], l1, by omega⟩
    · exact ⟨(1 + p5 % 8).toNat, by rw [Int.toNat_of_nonneg (by omega)], by omega, by omega⟩
  refine s_ixL S (by wtm_at "pk") hv ?_
  wtm_at "st"
  refine s_newT (by wtm_at "sz") S fun tt H S => ?_
  refine q tt lp gp long sk ls xs gs H ?_ (by wtm_at "wk")
  have sub := sl.trans (List.take_sublist _ _)
  unfold planB linesB groupsB
  simp only [Bool.and_eq_true, decide_eq_true_eq, List.all_eq_true]
  refine ⟨⟨⟨⟨⟨by omega, by omega⟩, by omega⟩, by omega⟩, ⟨⟨l1, by omega⟩, nd⟩, fun z hz => ?_⟩, ⟨?_, hnd.sublist sub⟩, fun g hg => ?_⟩
  · have := lf z hz
    exact ⟨by rw [this.1], figB_iff.mpr ⟨this.2, fun e => by
      have := this.1
      rw [e, show ("" : PySem.Str).length = 0 by decide +kernel] at this
      omega⟩⟩
  · have := sl.length_le
    rw [List.length_map, List.length_take] at this
    rw [Int.toNat_natCast] at this
    omega
  · have h1 := hf g.1 (sub.subset (List.mem_map_of_mem (f := fun (g : Pr) => g.1) hg))
    have h2 := gr g hg
    unfold oneG
    simp only [Bool.and_eq_true, decide_eq_true_eq]
    refine ⟨⟨⟨by omega, figB_iff.mpr ⟨h1.2.2, fun e => ?_⟩⟩, h2.1⟩, h2.2⟩
    have := h1.1
    rw [e, show ("" : PySem.Str).length = 0 by decide +kernel] at this
    omega
end
end L2.Zs
namespace L2.Zs
open PySem PySem.Spec PyProof.Rows
/-! # what the tellings say of the queue -/
def moved1 (q : List PySem.Str) : Tl → Option (List PySem.Str)
  | .waits l => if l ∈ q then none else some (q ++ [l])
  | .rests l => some (q.filter fun x => !decide (x = l))
  | .tone l _ _ => if q.take 1 = [l] then some q.tail else none
  | _ => some q
def moved : List PySem.Str → List Tl → Option (List PySem.Str)
  | q, [] => some q
  | q, t :: ts => match moved1 q t with
    | none => none
    | some q' => moved q' ts
theorem moved_cons {q q' : List PySem.Str} {t : Tl} {ts : List Tl} (e : moved1 q t = some q') : moved q (t :: ts) = moved q' ts := by
  show (match moved1 q t with | none => none | some q' => moved q' ts) = _
  rw [e]
theorem moved_app {ts us : List Tl} : ∀ {q q' : List PySem.Str}, moved q ts = some q' → moved q (ts ++ us) = moved q' us := by
  induction ts with
  | nil => intro q q' e; cases e; rfl
  | cons t ts ih =>
    intro q q' e
    cases h : moved1 q t with
    | none =>
      have e : (match moved1 q t with | none => none | some q' => moved q' ts) = some q' := e
      rw [h] at e; cases e
    | some q2 =>
      rw [moved_cons h] at e
      rw [List.cons_append, moved_cons h]
      exact ih e
theorem moved_one {q q' : List PySem.Str} {t : Tl} (e : moved1 q t = some q') : moved q [t] = some q' := by rw [moved_cons e]; rfl
theorem tones_nil {m : Nat} {h : Hs} (e : h.queue = []) : Hs.tones m h = ([], h) := by
  cases m with
  | zero => rfl
  | succ m => unfold Hs.tones; rw [e]
theorem tones_none {m : Nat} {h : Hs} (e : h.first = none) : Hs.tones m h = ([], h) := by
  cases m with
  | zero => rfl
  | succ m =>
    unfold Hs.tones
    cases q : h.queue with
    | nil => rfl
    | cons l qs => simp only; rw [e]
theorem tones_some {m : Nat} {h : Hs} {l : PySem.Str} {qs : List PySem.Str} {k : Nat} (q : h.queue = l :: qs) (e : h.first = some k) : Hs.tones (m + 1) h = (Tl.tone l k (h.went l k) :: (Hs.tones m (h.tone1 l k)).1, (Hs.tones m (h.tone1 l k)).2) := by
  rw [Hs.tones, q]
  simp only
  rw [e]
/-- a rule for what tones do -/
theorem tones_ind {Pr : Nat → Hs → List Tl × Hs → Prop} (h0 : ∀ m h, h.Ok → (m = 0 ∨ h.queue = [] ∨ h.first = none) → Pr m h ([], h))
    (h1 : ∀ m h l qs k r, h.Ok → h.queue = l :: qs → h.first = some k → Pr m (h.tone1 l k) r → Pr (m + 1) h (Tl.tone l k (h.went l k) :: r.1, r.2)) : ∀ (m : Nat) (h : Hs), h.Ok → Pr m h (Hs.tones m h)
  | 0, h, o => h0 0 h o (.inl rfl)
  | m + 1, h, o => by
    cases q : h.queue with
    | nil => rw [tones_nil q]; exact h0 _ _ o (.inr (.inl q))
    | cons l qs =>
      cases f : h.first with
      | none => rw [tones_none f]; exact h0 _ _ o (.inr (.inr f))
      | some k => rw [tones_some q f]; exact h1 m h l qs k _ o q f (tones_ind h0 h1 m (h.tone1 l k) (o.tone1 q f))
theorem moved_tones (m : Nat) (h : Hs) (o : h.Ok) : moved h.queue (Hs.tones m h).1 = some (Hs.tones m h).2.queue := by
  refine tones_ind (Pr := fun m h r => moved h.queue r.1 = some r.2.queue) (fun m h _ _ => rfl) (fun m h l qs k r o q f ih => ?_) m h o
  have e : moved1 h.queue (Tl.tone l k (h.went l k)) = some (h.tone1 l k).queue := by
    show (if h.queue.take 1 = [l] then some h.queue.tail else none) = some h.queue.tail
    rw [q]; simp
  rw [moved_cons e]; exact ih
theorem filter_ne {q : List PySem.Str} {l : PySem.Str} (h : l ∉ q) : (q.filter fun x => !decide (x = l)) = q := by
  rw [List.filter_eq_self]
  intro x hx
  have : x ≠ l := fun e => h (e ▸ hx)
  simp [this]
theorem filter_erase {q : List PySem.Str} {l : PySem.Str} (h : q.Nodup) : (q.filter fun x => !decide (x = l)) = q.erase l := by
  rw [h.erase_eq_filter]
  congr 1
theorem Hs.Ok.notIn {h : Hs} (o : h.Ok) {l : PySem.Str} (w : (h.ln l).way ≠ .waits) : l ∉ h.queue := fun z => w ((o.q l).mp z).2
theorem ended_queue (h : Hs) (l : PySem.Str) (y : Wy) : (h.ended l y).queue = h.queue := by rw [Hs.ended_eq]
theorem moved_lift {h h' : Hs} (o : h.Ok) {l : PySem.Str} {ts : List Tl} (e : h.lift l = .ok (ts, h')) : moved h.queue ts = some h'.queue := by
  unfold Hs.lift at e
  cases w : (h.ln l).way <;> rw [w] at e <;> first
    | (cases e; done)
    | (cases e
       refine moved_one ?_
       first
         | rfl
         | (show (if l ∈ h.queue then none else some (h.queue ++ [l])) = some (h.queue ++ [l])
            rw [if_neg (o.notIn (by rw [w]; decide))]))
theorem moved_pulse {h h' : Hs} {l : PySem.Str} {ts : List Tl} (e : h.pulse l = .ok (ts, h')) : moved h.queue ts = some h'.queue := by
  unfold Hs.pulse at e
  cases w : (h.ln l).way <;> rw [w] at e <;> first
    | (cases e; done)
    | (simp only at e
       split at e
       · cases e; rfl
       · cases e
         refine moved_one ?_
         rw [ended_queue]; rfl)
theorem moved_gap {h h' : Hs} {l : PySem.Str} {ts : List Tl} (e : h.gap l = .ok (ts, h')) : moved h.queue ts = some h'.queue := by
  have q1 : ∀ (g : Hs) (f : PySem.Str), moved g.queue [(g.ledTo l f).1] = some (g.ledTo l f).2.queue := fun g f => by
    unfold Hs.ledTo
    split
    · exact moved_one (by show some g.queue = _; rw [ended_queue])
    · split
      · exact moved_one (by show some g.queue = _; rw [ended_queue])
      · rfl
  have q2 : ∀ (g : Hs) (f : PySem.Str), moved g.queue [(g.ledBy l f).1] = some (g.ledBy l f).2.queue := fun g f => by
    unfold Hs.ledBy
    split
    · exact moved_one (by show some g.queue = _; rw [ended_queue])
    · split
      · exact moved_one (by show some g.queue = _; rw [ended_queue])
      · rfl
  unfold Hs.gap at e
  cases w : (h.ln l).way <;> rw [w] at e <;> first
    | (cases e; done)
    | (simp only at e
       split at e
       · cases e
       · split at e
         · cases e; exact q1 _ _
         · split at e
           · cases e; rfl
           · cases e; exact q2 _ _)
theorem freed_queue (h : Hs) (l : PySem.Str) : (h.freed l).queue = h.queue := by rw [Hs.freed_eq]
theorem moved_hang {h h' : Hs} (o : h.Ok) {l : PySem.Str} {ts : List Tl} (hl : l ∈ h.lines) (e : h.hang l = .ok (ts, h')) : moved h.queue ts = some h'.queue := by
  have w2 : (h.ln l).way ≠ .rests := fun w => by unfold Hs.hang at e; rw [w] at e; cases e
  have w3 : (h.ln l).way ≠ .rung := fun w => by unfold Hs.hang at e; rw [w] at e; cases e
  cases en : (h.ln l).en with
  | none =>
    rw [Hs.hang_alone en w2 w3] at e
    cases e
    refine moved_one ?_
    show some (h.queue.filter fun x => !decide (x = l)) = some (if (h.ln l).way = .waits then h.queue.erase l else h.queue)
    split
    · rw [filter_erase o.qnd]
    · next w => rw [filter_ne (o.notIn w)]
  | some p =>
    obtain ⟨hp, np, w1, wp⟩ := o.en hl en
    rw [Hs.hang_pair en np w1 w2 w3] at e
    have r1 : moved1 h.queue (.rests l) = some h.queue := by
      show some (h.queue.filter fun x => !decide (x = l)) = _
      rw [filter_ne (o.notIn w1)]
    split at e
    · cases e
      rw [moved_cons r1]; rfl
    · cases e
      rw [moved_cons r1]
      refine moved_one ?_
      show (if p ∈ h.queue then none else some (h.queue ++ [p])) = _
      rw [if_neg (o.notIn wp)]
theorem moved_act {h h' : Hs} (o : h.Ok) {d : Dd} {ts : List Tl} (e : h.act d = .ok (ts, h')) : moved h.queue ts = some h'.queue := by
  unfold Hs.act at e
  cases d with
  | ln w l =>
    dsimp only at e
    unfold Hs.atLine at e
    split at e
    · cases e
    · next hl =>
      have hl : l ∈ h.lines := Classical.not_not.mp hl
      cases w with
      | lift => exact moved_lift o e
      | hang => exact moved_hang o hl e
      | pulse => exact moved_pulse e
      | gap => exact moved_gap e
  | sw b w k =>
    dsimp only at e
    split at e
    · cases e; rfl
    · cases e
theorem moved_step {h h' : Hs} (o : h.Ok) {d : Dd} {ts : List Tl} (e : h.step d = .ok (ts, h')) : moved h.queue ts = some h'.queue := by
  unfold Hs.step at e
  split at e
  · cases e
  · next ts1 h1 e1 =>
    cases e
    rw [moved_app (moved_act o e1)]
    exact moved_tones _ (h1.noted d) ((Hs.act_ok o e1).noted d)
/-! # nobody waits beside a seeker that is free -/
def Hs.Idle (h : Hs) : Prop := h.queue = [] ∨ h.first = none
theorem idle_tones : ∀ (m : Nat) (h : Hs), h.Ok → h.queue.length ≤ m → (Hs.tones m h).2.Idle := fun m h o => by
  refine tones_ind (Pr := fun m h r => h.queue.length ≤ m → r.2.Idle) (fun m h _ c hm => ?_) (fun m h l qs k r o q f ih hm => ?_) m h o
  · rcases c with c | c | c
    · subst c
      exact .inl (List.length_eq_zero_iff.mp (Nat.le_zero.mp hm))
    · exact .inl c
    · exact .inr c
  · refine ih ?_
    show h.queue.tail.length ≤ m
    rw [q] at hm ⊢
    exact Nat.le_of_succ_le_succ hm
theorem idle_step {h h' : Hs} (o : h.Ok) {d : Dd} {ts : List Tl} (e : h.step d = .ok (ts, h')) : h'.Idle := by
  unfold Hs.step at e
  split at e
  · cases e
  · next ts1 h1 e1 =>
    cases e
    exact idle_tones _ (h1.noted d) ((Hs.act_ok o e1).noted d) (Nat.le_refl _)
/-- no seeker is free then: nothing that is free stands on the paper -/
theorem idle_paper {h : Hs} (o : h.Ok) (i : h.first = none) : ("free" : PySem.Str) ∉ (h.rk "").paper := by
  intro hf
  unfold Rc.paper at hf
  obtain ⟨k, hk, e⟩ := List.mem_map.mp hf
  have kl := List.mem_range.mp hk
  unfold Rc.said at e
  rw [List.getD_eq_getElem?_getD, List.getElem?_eq_getElem kl] at e
  cases hh : (h.rk "").held[k] with
  | some l =>
    rw [hh] at e
    have e : l = "free" := e
    subst e
    have hh2 : (h.rk "").held[k]? = some (some ("free" : PySem.Str)) := by rw [List.getElem?_eq_getElem kl, hh]
    have hl := ((o.hb.hold "" o.sh.w0 k "free").mp hh2).1
    have := (o.sh.lf _ hl).2 102 (by decide +kernel)
    omega
  | none =>
    rw [hh] at e
    have e : (if (h.rk "").brk.getD k false = true then ("stuck" : PySem.Str) else "free") = "free" := e
    have kb : k < (h.rk "").brk.length := by rw [(o.sh.rok _ o.sh.w0).b]; exact kl
    have hb : (h.rk "").brk[k] = false := by
      rw [List.getD_eq_getElem?_getD, List.getElem?_eq_getElem kb] at e
      cases c : (h.rk "").brk[k] with
      | false => rfl
      | true =>
        rw [c] at e
        exact absurd (show ("stuck" : PySem.Str) = "free" from e) (by decide +kernel)
    unfold Hs.first at i
    rw [List.find?_eq_none] at i
    have mr := o.sh.mr
    have hn : h.n = (h.rk "").held.length := rfl
    have ko : k ∈ h.ord := by
      unfold Hs.ord
      refine List.mem_map.mpr ⟨(k + (h.n - h.mark)) % h.n, List.mem_range.mpr (Nat.mod_lt _ (by omega)), ?_⟩
      show (h.mark + (k + (h.n - h.mark)) % h.n) % h.n = k
      rw [Nat.add_mod_mod, show h.mark + (k + (h.n - h.mark)) = k + h.n by omega, Nat.add_mod_right, Nat.mod_eq_of_lt (by omega)]
    refine i k ko ?_
    unfold Rc.rdy
    rw [List.getElem?_eq_getElem kl, hh, List.getD_eq_getElem?_getD, List.getElem?_eq_getElem kb, hb]
    rfl
/-! # what the tones tell -/
/-- a seeker's count and steps, with one tone more -/
def toned1 (p : List Int × List Int) : Tl → List Int × List Int
  | .tone _ k s => (p.1.set k (p.1.getD k 0 + 1), p.2.set k (p.2.getD k 0 + s))
  | _ => p
def toned (p : List Int × List Int) (ts : List Tl) : List Int × List Int := ts.foldl toned1 p
def Tl.isTone : Tl → Bool
  | .tone _ _ _ => true
  | _ => false
theorem toned_none {ts : List Tl} (h : ∀ t ∈ ts, t.isTone = false) : ∀ p, toned p ts = p := by
  induction ts with
  | nil => exact fun p => rfl
  | cons t ts ih =>
    intro p
    have h1 := h t List.mem_cons_self
    show toned (toned1 p t) ts = p
    rw [show toned1 p t = p by cases t <;> first | rfl | cases h1]
    exact ih (fun u hu => h u (List.mem_cons_of_mem _ hu)) p
theorem tones_toned (m : Nat) (h : Hs) (o : h.Ok) : toned ((h.rk "").tak, h.steps) (Hs.tones m h).1 = (((Hs.tones m h).2.rk "").tak, (Hs.tones m h).2.steps) := by
  refine tones_ind (Pr := fun m h r => toned ((h.rk "").tak, h.steps) r.1 = ((r.2.rk "").tak, r.2.steps)) (fun m h _ _ => rfl) (fun m h l qs k r o q f ih => ?_) m h o
  rw [← ih]
  show toned (toned1 ((h.rk "").tak, h.steps) (.tone l k (h.went l k))) r.1 = _
  rfl
theorem tones_mem (m : Nat) (h : Hs) (o : h.Ok) : ∀ t ∈ (Hs.tones m h).1, t.isTone = true := by
  refine tones_ind (Pr := fun m h r => ∀ t ∈ r.1, t.isTone = true) (fun m h _ _ t ht => nomatch ht) (fun m h l qs k r o q f ih t ht => ?_) m h o
  rcases List.mem_cons.mp ht with rfl | ht
  · rfl
  · exact ih t ht
/-- lines that do not wait stay as they are -/
theorem tones_ln (m : Nat) (h : Hs) (o : h.Ok) : ∀ l, l ∉ h.queue → (Hs.tones m h).2.ln l = h.ln l := by
  refine tones_ind (Pr := fun m h r => ∀ l, l ∉ h.queue → r.2.ln l = h.ln l) (fun m h _ _ l _ => rfl) (fun m h l qs k r o q f ih x hx => ?_) m h o
  rw [q] at hx
  have hx2 : x ≠ l ∧ x ∉ qs := ⟨fun e => hx (e ▸ List.mem_cons_self), fun e => hx (List.mem_cons_of_mem _ e)⟩
  refine (ih x (by show x ∉ h.queue.tail; rw [q]; exact hx2.2)).trans ?_
  exact up_ne hx2.1
theorem tones_brk (m : Nat) (h : Hs) (o : h.Ok) : ∀ w, ((Hs.tones m h).2.rk w).brk = (h.rk w).brk := by
  refine tones_ind (Pr := fun m h r => ∀ w, (r.2.rk w).brk = (h.rk w).brk) (fun m h _ _ w => rfl) (fun m h l qs k r o q f ih w => ?_) m h o
  refine (ih w).trans ?_
  show (up h.rk "" ((h.rk "").give k l) w).brk = _
  by_cases e : w = ""
  · subst e; rw [up_same]; rfl
  · rw [up_ne e]
/-- what holds of each tone told, when all is done -/
theorem tones_right (m : Nat) (h : Hs) (o : h.Ok) : ∀ l k s, Tl.tone l k s ∈ (Hs.tones m h).1 →
    l ∈ h.lines ∧ ((Hs.tones m h).2.ln l).train = [(("" : PySem.Str), k)] ∧ (h.rk "").brk[k]? = some false ∧ k < (h.rk "").held.length ∧ 0 ≤ s ∧ s < (h.lines.length : Int) := by
  refine tones_ind (Pr := fun m h r => r = Hs.tones m h → ∀ l k s, Tl.tone l k s ∈ r.1 →
    l ∈ h.lines ∧ (r.2.ln l).train = [(("" : PySem.Str), k)] ∧ (h.rk "").brk[k]? = some false ∧ k < (h.rk "").held.length ∧ 0 ≤ s ∧ s < (h.lines.length : Int)) (fun m h _ _ _ l k s ht => nomatch ht) (fun m h l qs k r o q f ih er x k2 s hx => ?_) m h o rfl
  rw [tones_some q f] at er
  have e1 := (Prod.ext_iff.mp er).1
  have e2 : r.2 = (Hs.tones m (h.tone1 l k)).2 := (Prod.ext_iff.mp er).2
  have e1 : r.1 = (Hs.tones m (h.tone1 l k)).1 := (List.cons.inj e1).2
  have hk := Hs.first_rdy o.sh f
  have nd := o.qnd
  rw [q] at nd
  rcases List.mem_cons.mp hx with hx | hx
  · cases hx
    refine ⟨((o.q l).mp (by rw [q]; exact List.mem_cons_self)).1, ?_, hk.2.2, hk.1, Int.emod_nonneg _ ?_, Int.emod_lt_of_pos _ ?_⟩
    · show (r.2.ln l).train = _
      rw [e2, tones_ln m (h.tone1 l k) (o.tone1 q f) l (by show l ∉ h.queue.tail; rw [q]; exact (List.nodup_cons.mp nd).1)]
      show (up h.ln l _ l).train = _
      rw [up_same]
    · have := o.sh.l1; omega
    · have := o.sh.l1; omega
  · obtain ⟨a1, a2, a3, a4, a5, a6⟩ := ih (Prod.ext e1 e2) x k2 s hx
    refine ⟨a1, a2, ?_, ?_, a5, a6⟩
    · have : ((up h.rk "" ((h.rk "").give k l)) "").brk[k2]? = some false := a3
      rw [up_same] at this
      exact this
    · have : k2 < ((up h.rk "" ((h.rk "").give k l)) "").held.length := a4
      rw [up_same] at this
      simpa [Rc.give] using this
/-! # deeds leave the seekers' counts alone -/
structure Hs.Akin (h g : Hs) : Prop where
  tak : (g.rk "").tak = (h.rk "").tak
  brk : (g.rk "").brk = (h.rk "").brk
  steps : g.steps = h.steps
theorem like_free {h g : Hs} {ps : List (PySem.Str × Nat)} (e : g.rk = freeRk h.rk ps) (e2 : g.steps = h.steps) : h.Akin g := by
  have := freeRk_len ps h.rk ""
  exact ⟨by rw [e]; exact this.2.2, by rw [e]; exact this.2.1, e2⟩
theorem like_ended (h : Hs) (l : PySem.Str) (y : Wy) : h.Akin (h.ended l y) := like_free (ps := (h.ln l).train) (by rw [Hs.ended_eq]) (by rw [Hs.ended_eq])
theorem like_lift {h h' : Hs} {l : PySem.Str} {ts : List Tl} (e : h.lift l = .ok (ts, h')) : h.Akin h' ∧ ∀ t ∈ ts, t.isTone = false := by
  unfold Hs.lift at e
  cases w : (h.ln l).way <;> rw [w] at e <;> first
    | (cases e; done)
    | (cases e
       exact ⟨⟨rfl, rfl, rfl⟩, fun t ht => by rw [List.mem_singleton.mp ht]; rfl⟩)
theorem like_pulse {h h' : Hs} {l : PySem.Str} {ts : List Tl} (e : h.pulse l = .ok (ts, h')) : h.Akin h' ∧ ∀ t ∈ ts, t.isTone = false := by
  unfold Hs.pulse at e
  cases w : (h.ln l).way <;> rw [w] at e <;> first
    | (cases e; done)
    | (simp only at e
       split at e
       · cases e; exact ⟨⟨rfl, rfl, rfl⟩, fun t ht => nomatch ht⟩
       · cases e
         have := like_ended (h.setLn l { h.ln l with many := (h.ln l).many + 1 }) l (.over (h.ln l).figs)
         exact ⟨⟨this.tak, this.brk, this.steps⟩, fun t ht => by rw [List.mem_singleton.mp ht]; rfl⟩)
theorem like_gap {h h' : Hs} {l : PySem.Str} {ts : List Tl} (e : h.gap l = .ok (ts, h')) : h.Akin h' ∧ ∀ t ∈ ts, t.isTone = false := by
  have q1 : ∀ (g : Hs) (f : PySem.Str), g.Akin (g.ledTo l f).2 ∧ (g.ledTo l f).1.isTone = false := fun g f => by
    unfold Hs.ledTo
    split
    · exact ⟨like_ended _ _ _, rfl⟩
    · split
      · exact ⟨like_ended _ _ _, rfl⟩
      · exact ⟨⟨rfl, rfl, rfl⟩, rfl⟩
  have q2 : ∀ (g : Hs) (f : PySem.Str), f ≠ "" → g.Akin (g.ledBy l f).2 ∧ (g.ledBy l f).1.isTone = false := fun g f nf => by
    unfold Hs.ledBy
    split
    · exact ⟨like_ended _ _ _, rfl⟩
    · split
      · exact ⟨like_ended _ _ _, rfl⟩
      · refine ⟨⟨?_, ?_, rfl⟩, rfl⟩
        · show (up g.rk f _ "").tak = _
          rw [up_ne (Ne.symm nf)]
        · show (up g.rk f _ "").brk = _
          rw [up_ne (Ne.symm nf)]
  have nf : h.figsOn l ≠ "" := fun z => by
    have := Hs.figsOn_len h l
    rw [z, show ("" : PySem.Str).length = 0 by decide +kernel] at this
    omega
  unfold Hs.gap at e
  cases w : (h.ln l).way <;> rw [w] at e <;> first
    | (cases e; done)
    | (simp only at e
       split at e
       · cases e
       · split at e
         · cases e
           obtain ⟨⟨a, b, c⟩, d⟩ := q1 (h.setLn l { h.ln l with figs := h.figsOn l, many := 0 }) (h.figsOn l)
           exact ⟨⟨a, b, c⟩, fun t ht => by rw [List.mem_singleton.mp ht]; exact d⟩
         · split at e
           · cases e; exact ⟨⟨rfl, rfl, rfl⟩, fun t ht => by rw [List.mem_singleton.mp ht]; rfl⟩
           · cases e
             obtain ⟨⟨a, b, c⟩, d⟩ := q2 (h.setLn l { h.ln l with figs := h.figsOn l, many := 0 }) (h.figsOn l) nf
             exact ⟨⟨a, b, c⟩, fun t ht => by rw [List.mem_singleton.mp ht]; exact d⟩)
theorem like_hang {h h' : Hs} (o : h.Ok) {l : PySem.Str} {ts : List Tl} (hl : l ∈ h.lines) (e : h.hang l = .ok (ts, h')) : h.Akin h' ∧ ∀ t ∈ ts, t.isTone = false := by
  have w2 : (h.ln l).way ≠ .rests := fun w => by unfold Hs.hang at e; rw [w] at e; cases e
  have w3 : (h.ln l).way ≠ .rung := fun w => by unfold Hs.hang at e; rw [w] at e; cases e
  cases en : (h.ln l).en with
  | none =>
    rw [Hs.hang_alone en w2 w3] at e
    cases e
    exact ⟨like_free rfl rfl, fun t ht => by rw [List.mem_singleton.mp ht]; rfl⟩
  | some p =>
    obtain ⟨hp, np, w1, wp⟩ := o.en hl en
    rw [Hs.hang_pair en np w1 w2 w3] at e
    have two : ∀ a b : PySem.Str, ∀ t ∈ [Tl.rests a, Tl.quiet b], t.isTone = false := fun a b t ht => by
      rcases List.mem_cons.mp ht with rfl | ht
      · rfl
      · rw [List.mem_singleton.mp ht]; rfl
    have two2 : ∀ a b : PySem.Str, ∀ t ∈ [Tl.rests a, Tl.waits b], t.isTone = false := fun a b t ht => by
      rcases List.mem_cons.mp ht with rfl | ht
      · rfl
      · rw [List.mem_singleton.mp ht]; rfl
    have f1 := freeRk_len (h.ln l).train h.rk ""
    have f2 := freeRk_len (h.ln p).train (freeRk h.rk (h.ln l).train) ""
    split at e
    · cases e
      exact ⟨⟨f2.2.2.trans f1.2.2, f2.2.1.trans f1.2.1, rfl⟩, two _ _⟩
    · cases e
      exact ⟨⟨f2.2.2.trans f1.2.2, f2.2.1.trans f1.2.1, rfl⟩, two2 _ _⟩
/-- the seekers' switches, after a deed -/
def brkTo (b : List Bool) : Dd → List Bool
  | .sw x w k => if w = "" then b.set k.toNat x else b
  | _ => b
theorem like_act {h h' : Hs} (o : h.Ok) {d : Dd} {ts : List Tl} (e : h.act d = .ok (ts, h')) :
    (h'.rk "").tak = (h.rk "").tak ∧ (h'.rk "").brk = brkTo (h.rk "").brk d ∧ h'.steps = h.steps ∧ ∀ t ∈ ts, t.isTone = false := by
  unfold Hs.act at e
  cases d with
  | ln w l =>
    dsimp only at e
    unfold Hs.atLine at e
    split at e
    · cases e
    · next hl =>
      have hl : l ∈ h.lines := Classical.not_not.mp hl
      have q : h.Akin h' ∧ ∀ t ∈ ts, t.isTone = false := by
        cases w with
        | lift => exact like_lift e
        | hang => exact like_hang o hl e
        | pulse => exact like_pulse e
        | gap => exact like_gap e
      exact ⟨q.1.tak, q.1.brk, q.1.steps, q.2⟩
  | sw b w k =>
    dsimp only at e
    split at e
    · cases e
      by_cases c : w = ""
      · subst c
        refine ⟨?_, ?_, rfl, fun t ht => nomatch ht⟩
        · show (up h.rk "" _ "").tak = _
          rw [up_same]; rfl
        · show (up h.rk "" ((h.rk "").brkAt k.toNat b) "").brk = if ("" : PySem.Str) = "" then (h.rk "").brk.set k.toNat b else (h.rk "").brk
          rw [up_same, if_pos rfl]; rfl
      · refine ⟨?_, ?_, rfl, fun t ht => nomatch ht⟩
        · show (up h.rk w _ "").tak = _
          rw [up_ne (Ne.symm c)]
        · show (up h.rk w ((h.rk w).brkAt k.toNat b) "").brk = if w = "" then (h.rk "").brk.set k.toNat b else (h.rk "").brk
          rw [up_ne (Ne.symm c), if_neg c]
    · cases e
theorem tones_lines (m : Nat) (h : Hs) (o : h.Ok) : (Hs.tones m h).2.lines = h.lines :=
  tones_ind (Pr := fun m h r => r.2.lines = h.lines) (fun m h _ _ => rfl) (fun m h l qs k r o q f ih => ih) m h o
/-- all of it, for a step -/
theorem step_seek {h h' : Hs} (o : h.Ok) {d : Dd} {ts : List Tl} (e : h.step d = .ok (ts, h')) :
    toned ((h.rk "").tak, h.steps) ts = ((h'.rk "").tak, h'.steps) ∧ (h'.rk "").brk = brkTo (h.rk "").brk d ∧
    ∀ l k s, Tl.tone l k s ∈ ts → l ∈ h'.lines ∧ (h'.ln l).train = [(("" : PySem.Str), k)] ∧ (h'.rk "").brk[k]? = some false ∧ 0 ≤ s ∧ s < (h'.lines.length : Int) := by
  unfold Hs.step at e
  split at e
  · cases e
  · next ts1 h1 e1 =>
    cases e
    obtain ⟨a1, a2, a3, a4⟩ := like_act o e1
    have o1 := (Hs.act_ok o e1).noted d
    have b1 := tones_toned h1.queue.length (h1.noted d) o1
    have b2 := tones_brk h1.queue.length (h1.noted d) o1 ""
    refine ⟨?_, b2.trans a2, fun l k s ht => ?_⟩
    · unfold toned
      rw [List.foldl_append]
      have z := toned_none a4 ((h.rk "").tak, h.steps)
      unfold toned at z b1
      rw [z, ← a1, ← a3]
      exact b1
    · rcases List.mem_append.mp ht with ht | ht
      · have := a4 _ ht; cases this
      · obtain ⟨c1, c2, c3, c4, c5, c6⟩ := tones_right h1.queue.length (h1.noted d) o1 l k s ht
        have ll := tones_lines h1.queue.length (h1.noted d) o1
        exact ⟨by rw [ll]; exact c1, c2, by rw [b2]; exact c3, c5, by rw [ll]; exact c6⟩
end L2.Zs
namespace L2.Zs
open PySem PySem.Spec PyProof.Rows
/-! # deeds by a world, and the queue as it is told -/
def spRows (K : PySem.W.Frag) : Sp := fun vs H Q E => ∃ (s : Addr) (ns : List Int) (at_ : Int) (M : WM) (h : Hs) (many : Nat) (F : List As), vs = [.ref s, .int at_, .ref M.p, .int (many : Nat)] ∧ 0 ≤ at_ ∧ at_ < 1000 ∧ WK M h ∧ h.Ok ∧ h.done.length = 0 ∧ 0 < many ∧ many ≤ 60 ∧ Sep (sq K s (ns.map V.int) :: worC M h F) H ∧
  ∀ (ds : List Dd) (q : Addr) (h' : Hs) (H' : Hp), ds.length ≤ 60 * many → (∀ d ∈ ds, d.tx) → Sep (lsI q (ds.map Dd.d) :: sq K s (ns.map V.int) :: worC M h' F) H' → Q (.ref q) H'
theorem len_rows {K vs H Q E} (h : spRows K vs H Q E) : vs.length = 4 := by obtain ⟨_, _, _, _, _, _, _, rfl, _⟩ := h; rfl
def spMoved : Sp := fun vs H Q E => ∃ (q p : Addr) (zs zs' : List PySem.Str) (ts : List Tl) (F : List As), vs = [.ref q, .ref p] ∧ moved zs ts = some zs' ∧ zs.length ≤ 1000 ∧ ts.length ≤ 1000 ∧ (∀ t ∈ ts, t.tx) ∧ Sep (pt q (.lst (zs.map V.str)) :: lsI p (ts.map Tl.d) :: F) H ∧
  ∀ (q' : Addr) (H' : Hp), Sep (pt q' (.lst (zs'.map V.str)) :: lsI p (ts.map Tl.d) :: F) H' → Q (.ref q') H'
theorem len_moved {vs H Q E} (h : spMoved vs H Q E) : vs.length = 2 := by obtain ⟨_, _, _, _, _, _, rfl, _⟩ := h; rfl
/-- the word of a telling, its line, and the rest -/
def Tl.word : Tl → PySem.Str
  | .waits _ => "waits" | .tone _ _ _ => "tone" | .rests _ => "rests" | .quiet _ => "quiet" | .talks _ _ => "talks" | .over _ _ => "over" | .figure _ _ => "figure"
  | .takes _ _ _ => "takes" | .none _ _ => "none" | .busy _ _ => "busy" | .rings _ _ => "rings"
def Tl.line : Tl → PySem.Str
  | .waits l => l | .tone l _ _ => l | .rests l => l | .quiet l => l | .talks o _ => o | .over l _ => l | .figure l _ => l
  | .takes l _ _ => l | .none l _ => l | .busy l _ => l | .rings l _ => l
def Tl.more : Tl → List PyData
  | .waits _ => [] | .tone _ k s => [.int k, .int s] | .rests _ => [] | .quiet _ => [] | .talks _ l => [.str l] | .over _ f => [.str f] | .figure _ f => [.str f]
  | .takes _ f k => [.str f, .int k] | .none _ f => [.str f] | .busy _ w => [w.d] | .rings _ f => [.str f]
theorem Tl.d_eq (t : Tl) : t.d = .tuple (.str t.word :: .str t.line :: t.more) := by cases t <;> rfl
theorem Sep.imTl {x : V} {t : Tl} {F : List As} {H : Hp} (S : Sep (im x t.d :: F) H) : ∃ a rest, x = .ref a ∧ Sep (pt a (.tup (.str t.word :: .str t.line :: rest)) :: ims rest t.more :: F) H := by
  rw [t.d_eq] at S
  obtain ⟨a, rfl⟩ : ∃ a, x = .ref a := by
    have := S.imGet Pick.here
    cases this; exact ⟨_, rfl⟩
  obtain ⟨xs, S⟩ := Sep.imO S
  obtain ⟨rest, rfl⟩ : ∃ rest, xs = .str t.word :: .str t.line :: rest := by
    have := S.imsGet (Pick.there Pick.here)
    cases this with
    | cons a r =>
      cases a
      cases r with
      | cons b r => cases b; exact ⟨_, rfl⟩
  refine ⟨a, rest, rfl, Sep.cons (fun _ h => h.imp fun H q => ?_) S⟩
  cases q with
  | cons a r => cases r with | cons b r => exact r
theorem Tl.tzLine {t : Tl} (h : t.tx) : tz t.line := by
  cases t <;> first | exact h | exact h.1
theorem cutV_suf1 {xs : List V} : cutV xs (some 1) none = xs.tail := by
  unfold cutV
  rw [show HT.sIx xs.length xs.length none = xs.length from rfl, show HT.sIx xs.length 0 (some (1 : Int)) = min 1 xs.length from HT.sIx_nat xs.length 0 1]
  cases xs with
  | nil => rfl
  | cons x xs =>
    rw [show min 1 (x :: xs).length = 1 by rw [List.length_cons]; omega]
    show xs.take ((x :: xs).length - 1) = xs
    rw [List.length_cons, Nat.add_sub_cancel, List.take_length]
theorem tw_waits {t : Tl} (h : t.word = "waits") : ∃ l, t = .waits l := by cases t <;> first | exact ⟨_, rfl⟩ | (simp only [Tl.word] at h; exact absurd h (by decide +kernel))
theorem tw_rests {t : Tl} (h : t.word = "rests") : ∃ l, t = .rests l := by cases t <;> first | exact ⟨_, rfl⟩ | (simp only [Tl.word] at h; exact absurd h (by decide +kernel))
theorem tw_tone {t : Tl} (h : t.word = "tone") : ∃ l k s, t = .tone l k s := by cases t <;> first | exact ⟨_, _, _, rfl⟩ | (simp only [Tl.word] at h; exact absurd h (by decide +kernel))
theorem tw_other {t : Tl} {q : List PySem.Str} (h1 : t.word ≠ "waits") (h2 : t.word ≠ "rests") (h3 : t.word ≠ "tone") : moved1 q t = some q := by cases t <;> first | rfl | exact absurd rfl h1 | exact absurd rfl h2 | exact absurd rfl h3
theorem flatS : ∀ zs : List PySem.Str, (zs.map V.str).all flatV = true
  | [] => rfl
  | _ :: zs => flatS zs
end L2.Zs
namespace L2.Zs
open PySem PySem.Spec PyProof.Rows
/-! # the deeds that come next -/
theorem isAll_rep {H : Hp} {v : V} {d : PyData} (q : Is H v d) : ∀ n : Nat, IsAll H (List.replicate n v) (List.replicate n d)
  | 0 => .nil
  | n + 1 => .cons q (isAll_rep q n)
theorem Sep.imsRep {v : V} {d : PyData} {F : List As} {H : Hp} (n : Nat) (h : Sep (im v d :: F) H) : Sep (ims (List.replicate n v) (List.replicate n d) :: F) H := h.imp fun _ q => isAll_rep q n
theorem rep_flat {n : Nat} {x : V} : (List.replicate n [x]).flatten = List.replicate n x := by simp
theorem Sep.lstFacts {a : Addr} {ks : List PySem.Str} {f : PySem.Str → List V} {cs ds : List As} {H : Hp} (S : Sep cs H) (p : Pick (mapV a ks (lstA f)) cs ds) :
    ∃ wv : PySem.Str → V, H a = some (.dK (dm ks wv)) ∧ ∀ l ∈ ks, ∃ p, wv l = .ref p ∧ H p = some (.lst (f l)) := by
  obtain ⟨wv, S1⟩ := Sep.ex (S.pick p)
  have S2 := Sep.flat S1
  refine ⟨wv, S2.hd, fun l hl => ?_⟩
  have S3 := Sep.bigO S2.tail hl
  obtain ⟨H1, H2, l1, _, _, ⟨q, e, h⟩, _⟩ := S3
  exact ⟨q, e, l1 _ _ h⟩
theorem int_fig : ∀ c : Nat, 48 ≤ c → c ≤ 57 → PySem.intText? ⟨#[c]⟩ = some ((c : Int) - 48) := by
  intro c h1 h2
  have : c = 48 ∨ c = 49 ∨ c = 50 ∨ c = 51 ∨ c = 52 ∨ c = 53 ∨ c = 54 ∨ c = 55 ∨ c = 56 ∨ c = 57 := by omega
  rcases this with rfl | rfl | rfl | rfl | rfl | rfl | rfl | rfl | rfl | rfl <;> decide +kernel
def pul (c : Nat) : Nat := if c = 48 then 10 else c - 48
theorem pul_le {c : Nat} (h : c ≤ 57) : pul c ≤ 10 := by unfold pul; split <;> omega
theorem pul_at {c : Nat} (h1 : 48 ≤ c) (h2 : c ≤ 57) : atI [V.int 10, .int 1, .int 2, .int 3, .int 4, .int 5, .int 6, .int 7, .int 8, .int 9] ((c : Int) - 48) = some (.int (pul c)) := by
  have : c = 48 ∨ c = 49 ∨ c = 50 ∨ c = 51 ∨ c = 52 ∨ c = 53 ∨ c = 54 ∨ c = 55 ∨ c = 56 ∨ c = 57 := by omega
  rcases this with rfl | rfl | rfl | rfl | rfl | rfl | rfl | rfl | rfl | rfl <;> exact atI_of (by decide) rfl
/-- a slice of a text, whatever it is -/
theorem s_slSm {z : PySem.Str} {lo hi : Option Int} {H : Hp} {Q : VK} (h : z.length ≤ 10000000) (k : ∀ z' : PySem.Str, z'.length ≤ z.length → (∀ c ∈ z'.cps.toList, c ∈ z.cps.toList) → Q (.str z') H) : rSlS (.str z) lo hi H Q :=
  ⟨z, rfl, Nat.le_trans h (by decide), k _ (cutS_length z lo hi) fun c hc => by
    have hc : c ∈ ((z.cps.toList.drop (HT.sIx z.length 0 lo)).take (HT.sIx z.length z.length hi - HT.sIx z.length 0 lo)).toArray.toList := hc
    rw [List.toList_toArray] at hc
    exact List.mem_of_mem_drop (List.mem_of_mem_take hc)⟩
def spSwitch : Sp := fun vs H Q E => ∃ (M : WM) (h : Hs) (rest : Int) (F : List As), vs = [.ref M.p, .int rest] ∧ WK M h ∧ h.Ok ∧ Sep (worC M h F) H ∧
  ∀ (d : Dd) (t : Addr) (H' : Hp), d.tx → Sep (im (.ref t) d.d :: worC M h F) H' → Q (.ref t) H'
theorem len_switch {vs H Q E} (h : spSwitch vs H Q E) : vs.length = 2 := by obtain ⟨M, h, r, F, rfl, _⟩ := h; rfl
def spDialling : Sp := fun vs H Q E => ∃ (M : WM) (h : Hs) (line goal : PySem.Str) (kind rest : Int) (F : List As), vs = [.ref M.p, .str line, .str goal, .int kind, .int rest] ∧ WK M h ∧ h.Ok ∧ line ∈ h.lines ∧ goal ∈ h.lines ∧ Sep (worC M h F) H ∧
  ∀ (ds : List Dd) (p : Addr) (H' : Hp), ds.length ≤ 60 → (∀ d ∈ ds, d.tx) → Sep (lsI p (ds.map Dd.d) :: worC M h F) H' → Q (.ref p) H'
theorem len_dialling {vs H Q E} (h : spDialling vs H Q E) : vs.length = 5 := by obtain ⟨M, h, r, _, _, _, F, rfl, _⟩ := h; rfl
def spNext : Sp := fun vs H Q E => ∃ (M : WM) (h : Hs) (draw : Int) (F : List As), vs = [.ref M.p, .int draw] ∧ WK M h ∧ h.Ok ∧ Sep (worC M h F) H ∧
  ∀ (ds : List Dd) (p : Addr) (H' : Hp), ds.length ≤ 60 → (∀ d ∈ ds, d.tx) → Sep (lsI p (ds.map Dd.d) :: worC M h F) H' → Q (.ref p) H'
theorem len_next {vs H Q E} (h : spNext vs H Q E) : vs.length = 2 := by obtain ⟨M, h, r, F, rfl, _⟩ := h; rfl
end L2.Zs
namespace L2.Zs
open PySem PySem.Spec PyProof.Rows
/-! # a hall of the law's parts; pairs of a hall and a world -/
/-- the parts of a plan, as the law has them -/
@[reducible] def partC (t a b : Addr) (d : Pd) (ls : List PySem.Str) (xs : List V) (gs : List Pr) (F : List As) : List As :=
  pt t (.tup [.int d.long, .ref a, .int d.sk, .ref b]) :: pt a (.lst (ls.map V.str)) :: pt b (.lst xs) :: ims xs (gs.map gD) :: F
/-- they are those of the plan d -/
structure PaOk (d : Pd) (ls : List PySem.Str) (gs : List Pr) : Prop where
  pb : planB (d.long : Nat) ls (d.sk : Nat) gs = true
  p1 : d.lines.Perm ls
  s1 : sortedS d.lines = true
  p2 : d.gs.Perm gs
  s2 : sortedG d.gs
  ok : PdOk d
theorem PaOk.of {long sk : Nat} {ls : List PySem.Str} {gs : List Pr} (h : planB (long : Nat) ls (sk : Nat) gs = true) : ∃ d : Pd, d.long = long ∧ d.sk = sk ∧ PaOk d ls gs := by
  obtain ⟨d, e1, e2, p1, s1, p2, s2, ok⟩ := ex_pd h
  subst e1 e2
  exact ⟨d, rfl, rfl, h, p1, s1, p2, s2, ok⟩
theorem PaOk.lz {d : Pd} {ls : List PySem.Str} {gs : List Pr} (o : PaOk d ls gs) : ∀ z ∈ ls, z.length ≤ 10000 := fun z hz => by
  have := (o.ok.lf z (o.p1.mem_iff.mpr hz)).1
  have := o.ok.g4
  omega
theorem PaOk.gz {d : Pd} {ls : List PySem.Str} {gs : List Pr} (o : PaOk d ls gs) : ∀ g ∈ gs, g.1.length ≤ 10000 := fun g hg => by
  have := (o.ok.gf g (o.p2.mem_iff.mpr hg)).2.1
  have := o.ok.g4
  omega
theorem PaOk.ll {d : Pd} {ls : List PySem.Str} {gs : List Pr} (o : PaOk d ls gs) : ls.length ≤ 60 := by rw [← o.p1.length_eq]; exact o.ok.l60
theorem PaOk.gl {d : Pd} {ls : List PySem.Str} {gs : List Pr} (o : PaOk d ls gs) : gs.length ≤ 40 := by rw [← o.p2.length_eq]; exact o.ok.gn
theorem PaOk.eq {d e : Pd} {ls : List PySem.Str} {gs : List Pr} (o : PaOk d ls gs) (h1 : e.long = ((d.long : Nat) : Int).toNat) (h2 : e.sk = ((d.sk : Nat) : Int).toNat) (q1 : e.lines.Perm ls) (t1 : sortedS e.lines = true) (q2 : e.gs.Perm gs) (t2 : sortedG e.gs) : e = d :=
  pd_eq (by rw [h1]; simp) (by rw [h2]; simp) q1 o.p1 t1 o.s1 q2 o.p2 t2 o.s2
def spLHall (ad : Ad) : Sp := fun vs H Q E => ∃ (t a b : Addr) (d : Pd) (ls : List PySem.Str) (xs : List V) (gs : List Pr) (F : List As), vs = [.ref t] ∧ PaOk d ls gs ∧ Sep (partC t a b d ls xs gs F) H ∧
  ∀ (B : HL) (H' : Hp), B.pl.d = d → Gd B (Hs.new d) → Sep (HC ad B (Hs.new d) (partC t a b d ls xs gs F)) H' → Q (.ref B.p) H'
theorem len_lhall {ad : Ad} {vs H Q E} (h : spLHall ad vs H Q E) : vs.length = 1 := by obtain ⟨t, a, b, d, ls, xs, gs, F, rfl, _⟩ := h; rfl
/-- a hall and a world that are the same -/
structure HW where
  t : Addr
  B : HL
  M : WM
  h : Hs
structure HWok (n : Nat) (p : HW) : Prop where
  wk : WK p.M p.h
  gd : Gd p.B p.h
  ok : p.h.Ok
  tx : p.h.Tx
  dn : p.h.done.length ≤ n
theorem HWok.new {t : Addr} {B : HL} {M : WM} {d : Pd} (ok : PdOk d) (wk : WK M (Hs.new d)) (gd : Gd B (Hs.new d)) : HWok 0 ⟨t, B, M, Hs.new d⟩ := ⟨wk, gd, Hs.new_ok ok, Hs.new_tx, Nat.le_refl _⟩
theorem HWok.le {n m : Nat} {p : HW} (k : HWok n p) (h : n ≤ m) : HWok m p := ⟨k.wk, k.gd, k.ok, k.tx, Nat.le_trans k.dn h⟩
theorem HWok.step {n : Nat} {t : Addr} {B : HL} {M : WM} {h h' : Hs} {d : Dd} {ts : List Tl} (k : HWok n ⟨t, B, M, h⟩) (e : h.step d = .ok (ts, h')) : HWok (n + 1) ⟨t, B, M, h'⟩ := by
  obtain ⟨d1, d2, d3, d4⟩ := Hs.step_done e
  refine ⟨k.wk.to d3 d4, k.gd.to d2 d3, Hs.step_ok k.ok e, (Hs.step_tx k.ok k.tx e).1, ?_⟩
  have := k.dn
  show h'.done.length ≤ n + 1
  rw [d1, List.length_append]
  exact Nat.succ_le_succ this
def hwC (ad : Ad) (p : HW) : As := star (pt p.t (.tup [.ref p.B.p, .ref p.M.p]) :: HC ad p.B p.h (worC p.M p.h []))
theorem Sep.hwO {ad : Ad} {p : HW} {F : List As} {H : Hp} (S : Sep (hwC ad p :: F) H) : Sep (pt p.t (.tup [.ref p.B.p, .ref p.M.p]) :: HC ad p.B p.h (worC p.M p.h F)) H := Sep.flat S
theorem Sep.hwI {ad : Ad} {p : HW} {F : List As} {H : Hp} (S : Sep (pt p.t (.tup [.ref p.B.p, .ref p.M.p]) :: HC ad p.B p.h (worC p.M p.h F)) H) : Sep (hwC ad p :: F) H :=
  Sep.unflat (ps := pt p.t (.tup [.ref p.B.p, .ref p.M.p]) :: HC ad p.B p.h (worC p.M p.h [])) S
def hws (ad : Ad) (ps : List HW) : As := star (ps.map (hwC ad))
theorem Sep.hws0 {ad : Ad} {F : List As} {H : Hp} (h : Sep F H) : Sep (hws ad [] :: F) H := h.unflat (ps := [])
theorem pick_mid {c : As} : ∀ {L F : List As}, Pick c (L ++ c :: F) (L ++ F)
  | [], _ => .here
  | _ :: _, _ => .there pick_mid
theorem Sep.hwsAdd {ad : Ad} {p : HW} {ps : List HW} {F : List As} {H : Hp} (h : Sep (hwC ad p :: hws ad ps :: F) H) : Sep (hws ad (ps ++ [p]) :: F) H := by
  have h1 : Sep (hwC ad p :: (ps.map (hwC ad) ++ F)) H := Sep.cons (fun _ h => Sep.flat h) h
  have h2 := Sep.unpick (pick_mid (L := ps.map (hwC ad))) h1
  refine Sep.unflat ?_
  rw [List.map_append, List.append_assoc]
  exact h2
theorem Sep.hws2 {ad : Ad} {p q : HW} {F : List As} {H : Hp} (h : Sep (hws ad [p, q] :: F) H) : Sep (hwC ad p :: hwC ad q :: F) H := Sep.flat h
theorem two_of {α : Type} : ∀ {ps : List α}, ps.length = 2 → ∃ a b, ps = [a, b]
  | [a, b], _ => ⟨a, b, rfl⟩
  | [], h => by cases h
  | [_], h => by cases h
  | _ :: _ :: _ :: _, h => by simp at h
end L2.Zs
namespace L2.Zs
open PySem PySem.Spec PyProof.Rows
theorem cdiv_small {i j : Int} (h : 0 < j) (h2 : j < 2 ^ 63) : CDivW i j := by
  refine cdiv_of h (Nat.lt_of_lt_of_le ((Nat.log2_lt (by omega)).mpr (show j.natAbs < 2 ^ 63 by omega)) (by decide))
section
variable {σ : St} {H : Hp} {tr : TA} {g : TG} {tB : TS} {D : Ends}
instance : Stp (tFor (iRng2 tr) g tB D σ H) (tr σ H fun vs H1 => ∃ i j : Int, vs = [.int i, .int j] ∧ (-(2 ^ 62) ≤ i ∧ i < 2 ^ 62 ∧ -(2 ^ 62) ≤ j ∧ j < 2 ^ 62) ∧ Lp (Itr i (j - i).toNat) g tB D σ H1) := ⟨id⟩
theorem lp_rangeL {lo : Int} {n : Nat} (Pv : Nat → St → Hp → Prop) (h0 : Pv 0 σ H) (hs : ∀ i σ H, i < n → Pv i σ H → g (.int (lo + (i : Nat))) σ H fun σ2 H2 => tB { D with nx := Pv (i + 1), ct := Pv (i + 1), bk := D.nx } σ2 H2) (hd : ∀ σ H, Pv n σ H → D.nx σ H) :
    Lp (Itr lo n) g tB D σ H := for_range Pv h0 (fun i σ H hi p => hs i σ H hi p) hd
end
/-- a plan's parts of a script -/
def spGreat (K : PySem.W.Frag) : Sp := fun vs H Q E => ∃ (s : Addr) (ns : List Int) (F : List As), vs = [.ref s] ∧ Sep (sq K s (ns.map V.int) :: F) H ∧
  ∀ (t a b : Addr) (long sk : Nat) (ls : List PySem.Str) (xs : List V) (gs : List Pr) (H' : Hp), planB (long : Nat) ls (sk : Nat) gs = true →
    Sep (pt t (.tup [.int (long : Nat), .ref a, .int (sk : Nat), .ref b]) :: pt a (.lst (ls.map V.str)) :: pt b (.lst xs) :: ims xs (gs.map gD) :: sq K s (ns.map V.int) :: F) H' → Q (.ref t) H'
theorem len_great {K vs H Q E} (h : spGreat K vs H Q E) : vs.length = 1 := by obtain ⟨s, ns, F, rfl, _⟩ := h; rfl
def spPulsed : Sp := fun vs H Q E => ∃ (M : WM) (h : Hs) (line goal : PySem.Str) (F : List As), vs = [.ref M.p, .str line, .str goal] ∧ WK M h ∧ h.Ok ∧ line ∈ h.lines ∧ goal ∈ h.lines ∧ Sep (worC M h F) H ∧
  ∀ (ds : List Dd) (p : Addr) (H' : Hp), ds.length ≤ 60 → (∀ d ∈ ds, d.tx) → Sep (lsI p (ds.map Dd.d) :: worC M h F) H' → Q (.ref p) H'
theorem len_pulsed {vs H Q E} (h : spPulsed vs H Q E) : vs.length = 3 := by obtain ⟨M, h, r, _, F, rfl, _⟩ := h; rfl
theorem oneG_of {long : Nat} {g : Pr} (h1 : 1 ≤ g.1.length) (h2 : g.1.length + 2 ≤ long) (h3 : ∀ c ∈ g.1.cps.toList, 48 ≤ c ∧ c ≤ 57) (h4 : 0 ≤ g.2) (h5 : g.2 ≤ 10) : oneG (long : Nat) g = true := by
  unfold oneG
  simp only [Bool.and_eq_true, decide_eq_true_eq]
  refine ⟨⟨⟨by omega, figB_iff.mpr ⟨h3, fun e => ?_⟩⟩, h4⟩, h5⟩
  rw [e, show ("" : PySem.Str).length = 0 by decide +kernel] at h1
  omega
theorem planB_of {long sk : Nat} {ls : List PySem.Str} {gs : List Pr} (h2 : 2 ≤ long) (h4 : long ≤ 4) (s1 : 1 ≤ sk) (s60 : sk ≤ 60) (l1 : 1 ≤ ls.length) (l60 : ls.length ≤ 60) (nd : ls.Nodup) (lf : ∀ z ∈ ls, figs long z) (g40 : gs.length ≤ 40)
    (gnd : (gs.map (fun (g : Pr) => g.1)).Nodup) (gf : ∀ g ∈ gs, oneG (long : Nat) g = true) : planB (long : Nat) ls (sk : Nat) gs = true := by
  unfold planB linesB groupsB
  simp only [Bool.and_eq_true, decide_eq_true_eq, List.all_eq_true]
  refine ⟨⟨⟨⟨⟨by omega, by omega⟩, by omega⟩, by omega⟩, ⟨⟨l1, l60⟩, nd⟩, fun z hz => ?_⟩, ⟨g40, gnd⟩, fun g hg => gf g hg⟩
  have := lf z hz
  exact ⟨by rw [this.1], figB_iff.mpr ⟨this.2, fun e => by
    have := this.1
    rw [e, show ("" : PySem.Str).length = 0 by decide +kernel] at this
    omega⟩⟩
theorem Hs.okHeld {h : Hs} (o : h.Ok) {w : PySem.Str} (hw : w ∈ h.wheres) : ∀ v ∈ (h.rk w).held.map oV, okV v = true := fun v hv => by
  obtain ⟨x, hx, rfl⟩ := List.mem_map.mp hv
  cases x with
  | none => rfl
  | some l =>
    obtain ⟨k, hk⟩ := List.getElem?_of_mem hx
    exact o.sh.okS ((o.hb.hold w hw k l).mp hk).1
theorem Sep.oneD {t p : Addr} {d : Dd} {F : List As} {H : Hp} (S : Sep (pt p (.lst [.ref t]) :: im (.ref t) d.d :: F) H) : Sep (lsI p ([d].map Dd.d) :: F) H :=
  Sep.lsC (Sep.cons (fun _ h => Sep.imsC (Sep.cons (fun _ h => h.ims0) h)) S)
theorem way_rr {wy : Way} : inV (.str wy.s) [.str "rests", .str "rung"] = decide (wy = .rests ∨ wy = .rung) := by cases wy <;> decide +kernel
theorem way_rw {wy : Way} : inV (.str wy.s) [.str "rings", .str "waits"] = decide (wy = .rings ∨ wy = .waits) := by cases wy <;> decide +kernel
theorem Hs.figs4 {h : Hs} (ok : h.Ok) {line : PySem.Str} (hl : line ∈ h.lines) : (h.ln line).figs.length ≤ h.long := by
  have e0 : ("" : PySem.Str).length = 0 := by decide +kernel
  have g2 := ok.sh.g2
  have := ok.per line hl
  generalize h.ln line = r at this
  cases this with
  | rests => show ("" : PySem.Str).length ≤ _; omega
  | waits => show ("" : PySem.Str).length ≤ _; omega
  | dials a => exact Nat.le_of_lt a
  | rings a => exact (ok.sh.lf _ a).1 ▸ Nat.le_refl _
  | talksA a => exact (ok.sh.lf _ a).1 ▸ Nat.le_refl _
  | talksB => show ("" : PySem.Str).length ≤ _; omega
  | rung => show ("" : PySem.Str).length ≤ _; omega
  | told a => exact a
instance {K : PySem.W.Frag} {H : Hp} {Q : VK} {z : PySem.Str} : Stp (rIsi K [.str z, .ty "list"] H Q) (Q (.bl false) H) := ⟨isi_b (.base (.str z)) (by decide +kernel)⟩
end L2.Zs
namespace L2.Zs
open PySem PySem.Spec PyProof.Rows
/-! # deep data, lists of lists too, that is only read -/
mutual
inductive Dq (H : Hp) : V → PyData → Prop
  | non : Dq H .non .none
  | bl (b : Bool) : Dq H (.bl b) (.bool b)
  | int (i : Int) : Dq H (.int i) (.int i)
  | str (z : PySem.Str) : Dq H (.str z) (.str z)
  | tup {a : Addr} {xs : List V} {ds : List PyData} : H a = some (.tup xs) → DqAll H xs ds → Dq H (.ref a) (.tuple ds)
  | lst {a : Addr} {xs : List V} {ds : List PyData} : H a = some (.lst xs) → DqAll H xs ds → Dq H (.ref a) (.list ds)
inductive DqAll (H : Hp) : List V → List PyData → Prop
  | nil : DqAll H [] []
  | cons {v : V} {d : PyData} {vs : List V} {ds : List PyData} : Dq H v d → DqAll H vs ds → DqAll H (v :: vs) (d :: ds)
end
mutual
theorem Dq.le {H H' : Hp} (l : Le H H') : ∀ {v : V} {d : PyData}, Dq H v d → Dq H' v d
  | _, _, .non => .non
  | _, _, .bl b => .bl b
  | _, _, .int i => .int i
  | _, _, .str z => .str z
  | _, _, .tup e r => .tup (l _ _ e) (DqAll.le l r)
  | _, _, .lst e r => .lst (l _ _ e) (DqAll.le l r)
theorem DqAll.le {H H' : Hp} (l : Le H H') : ∀ {vs : List V} {ds : List PyData}, DqAll H vs ds → DqAll H' vs ds
  | _, _, .nil => .nil
  | _, _, .cons a r => .cons (Dq.le l a) (DqAll.le l r)
end
mutual
theorem Is.dq {H : Hp} : ∀ {v : V} {d : PyData}, Is H v d → Dq H v d
  | _, _, .non => .non
  | _, _, .bl b => .bl b
  | _, _, .int i => .int i
  | _, _, .str z => .str z
  | _, _, .tup e r => .tup e (IsAll.dq r)
theorem IsAll.dq {H : Hp} : ∀ {vs : List V} {ds : List PyData}, IsAll H vs ds → DqAll H vs ds
  | _, _, .nil => .nil
  | _, _, .cons a r => .cons (Is.dq a) (IsAll.dq r)
end
mutual
theorem Dq.dp {K : PySem.W.Frag} {H : Hp} : ∀ {v : V} {d : PyData}, Dq H v d → Dp K H v d
  | _, _, .non => .non
  | _, _, .bl b => .bl b
  | _, _, .int i => .int i
  | _, _, .str z => .str z
  | _, _, .tup e r => .tup (SqT.of e) (DqAll.dp r)
  | _, _, .lst e r => .lst (SqL.of e) (DqAll.dp r)
theorem DqAll.dp {K : PySem.W.Frag} {H : Hp} : ∀ {vs : List V} {ds : List PyData}, DqAll H vs ds → DpAll K H vs ds
  | _, _, .nil => .nil
  | _, _, .cons a r => .cons (Dq.dp a) (DqAll.dp r)
end
theorem DqAll.length {H : Hp} : ∀ {vs : List V} {ds : List PyData}, DqAll H vs ds → vs.length = ds.length
  | _, _, .nil => rfl
  | _, _, .cons _ r => by rw [List.length_cons, List.length_cons, r.length]
theorem DqAll.app {H : Hp} : ∀ {vs us : List V} {ds es : List PyData}, DqAll H vs ds → DqAll H us es → DqAll H (vs ++ us) (ds ++ es)
  | _, _, _, _, .nil, r => r
  | _, _, _, _, .cons a r, r' => .cons a (r.app r')
def dq (v : V) (d : PyData) : As := fun H => Dq H v d
def dqs (vs : List V) (ds : List PyData) : As := fun H => DqAll H vs ds
theorem Sep.dqGet {v : V} {d : PyData} {cs es : List As} {H : Hp} (h : Sep cs H) (p : Pick (dq v d) cs es) : Dq H v d := by
  obtain ⟨H1, H2, l, _, _, q, _⟩ := h.pick p
  exact Dq.le l q
theorem Sep.dqsGet {v : List V} {d : List PyData} {cs es : List As} {H : Hp} (h : Sep cs H) (p : Pick (dqs v d) cs es) : DqAll H v d := by
  obtain ⟨H1, H2, l, _, _, q, _⟩ := h.pick p
  exact DqAll.le l q
theorem Sep.dqsLen {xs : List V} {ds : List PyData} {cs es : List As} {H : Hp} (h : Sep cs H) (p : Pick (dqs xs ds) cs es) : xs.length = ds.length := (h.dqsGet p).length
theorem Sep.dqI {v : V} {d : PyData} {F : List As} {H : Hp} (h : Sep (im v d :: F) H) : Sep (dq v d :: F) H := h.imp fun _ q => q.dq
theorem Sep.dqLI {a : Addr} {ds : List PyData} {F : List As} {H : Hp} (h : Sep (lsI a ds :: F) H) : Sep (dq (.ref a) (.list ds) :: F) H := h.imp fun _ ⟨xs, e, r⟩ => .lst e r.dq
theorem Sep.dqL {a : Addr} {xs : List V} {ds : List PyData} {F : List As} {H : Hp} (h : Sep (pt a (.lst xs) :: dqs xs ds :: F) H) : Sep (dq (.ref a) (.list ds) :: F) H :=
  h.join fun H1 H2 H' a b q r => .lst (a _ _ q) (DqAll.le b r)
theorem Sep.dqT {a : Addr} {xs : List V} {ds : List PyData} {F : List As} {H : Hp} (h : Sep (pt a (.tup xs) :: dqs xs ds :: F) H) : Sep (dq (.ref a) (.tuple ds) :: F) H :=
  h.join fun H1 H2 H' a b q r => .tup (a _ _ q) (DqAll.le b r)
theorem Sep.dqs0 {F : List As} {H : Hp} (h : Sep F H) : Sep (dqs [] [] :: F) H := h.free .nil
theorem Sep.dqS {z : PySem.Str} {F : List As} {H : Hp} (h : Sep F H) : Sep (dq (.str z) (.str z) :: F) H := h.free (.str z)
theorem Sep.dqOV {o : Option PySem.Str} {F : List As} {H : Hp} (h : Sep F H) : Sep (dq (oV o) (match o with | some z => .str z | none => .none) :: F) H := h.free (by cases o; exact .non; exact .str _)
theorem Sep.dqsC {x : V} {d : PyData} {xs : List V} {ds : List PyData} {F : List As} {H : Hp} (h : Sep (dq x d :: dqs xs ds :: F) H) : Sep (dqs (x :: xs) (d :: ds) :: F) H :=
  h.join fun H1 H2 H' a b q r => .cons (Dq.le a q) (DqAll.le b r)
theorem Sep.dqsP {x : V} {d : PyData} {xs : List V} {ds : List PyData} {F : List As} {H : Hp} (h : Sep (dqs xs ds :: dq x d :: F) H) : Sep (dqs (xs ++ [x]) (ds ++ [d]) :: F) H :=
  h.join fun H1 H2 H' a b q r => (DqAll.le a q).app (.cons (Dq.le b r) .nil)
theorem Sep.dqs1 {x : V} {a : PyData} {F : List As} {H : Hp} (S : Sep (dq x a :: F) H) : Sep (dqs [x] [a] :: F) H := Sep.dqsC (Sep.cons (fun _ h => Sep.dqs0 h) S)
theorem Sep.dqs2 {x y : V} {a b : PyData} {F : List As} {H : Hp} (S : Sep (dq x a :: dq y b :: F) H) : Sep (dqs [x, y] [a, b] :: F) H := Sep.dqsC (Sep.cons (fun _ h => Sep.dqs1 h) S)
theorem Sep.dqs3 {x y z : V} {a b c : PyData} {F : List As} {H : Hp} (S : Sep (dq x a :: dq y b :: dq z c :: F) H) : Sep (dqs [x, y, z] [a, b, c] :: F) H := Sep.dqsC (Sep.cons (fun _ h => Sep.dqs2 h) S)
theorem Sep.dqs4 {x y z u : V} {a b c d : PyData} {F : List As} {H : Hp} (S : Sep (dq x a :: dq y b :: dq z c :: dq u d :: F) H) : Sep (dqs [x, y, z, u] [a, b, c, d] :: F) H := Sep.dqsC (Sep.cons (fun _ h => Sep.dqs3 h) S)
theorem Sep.dqs5 {x y z u v : V} {a b c d e : PyData} {F : List As} {H : Hp} (S : Sep (dq x a :: dq y b :: dq z c :: dq u d :: dq v e :: F) H) : Sep (dqs [x, y, z, u, v] [a, b, c, d, e] :: F) H := Sep.dqsC (Sep.cons (fun _ h => Sep.dqs4 h) S)
theorem dqAll_flat {H : Hp} : ∀ {xs : List V}, (∀ v ∈ xs, okV v = true) → DqAll H xs (xs.map dV)
  | [], _ => .nil
  | x :: xs, h => by
    refine .cons ?_ (dqAll_flat fun v hv => h v (List.mem_cons_of_mem _ hv))
    have := h x List.mem_cons_self
    cases x with
    | non => exact .non
    | bl b => exact .bl b
    | int i => exact .int i
    | str z => exact .str z
    | _ => cases this
theorem Sep.dqF {a : Addr} {xs : List V} {F : List As} {H : Hp} (h : Sep (pt a (.lst xs) :: F) H) (f : ∀ v ∈ xs, okV v = true) : Sep (dq (.ref a) (.list (xs.map dV)) :: F) H := h.imp fun _ q => .lst q (dqAll_flat f)
/-! # all that a hall tells -/
def oD : Option PySem.Str → PyData
  | some z => .str z
  | none => .none
theorem Sep.dqO {o : Option PySem.Str} {F : List As} {H : Hp} (h : Sep F H) : Sep (dq (oV o) (oD o) :: F) H := h.free (by cases o; exact .non; exact .str _)
def lnD (h : Hs) (l : PySem.Str) : PyData := .list [.str (h.ln l).way.s, .str (h.ln l).figs, .list ((h.ln l).train.map trD), oD (h.ln l).en, oW (h.ln l).why]
def whD (h : Hs) (w : PySem.Str) : PyData := .list [.tuple ((h.rk w).paper.map .str), .list (((h.rk w).tak.map V.int).map dV)]
def allD (h : Hs) (ls ws : List PySem.Str) : List PyData := [.list ((h.queue.map V.str).map dV), .list ((h.steps.map V.int).map dV), .list (h.done.map Dd.d)] ++ ls.map (lnD h) ++ ws.map (whD h)
theorem depthAll_le {n : Nat} : ∀ {ds : List PyData}, (∀ d ∈ ds, d.depth ≤ n) → PyData.depthAll ds ≤ n
  | [], _ => Nat.zero_le _
  | d :: ds, h => by
    show max d.depth (PyData.depthAll ds) ≤ n
    have := h d List.mem_cons_self
    have := depthAll_le (n := n) (ds := ds) fun x hx => h x (List.mem_cons_of_mem _ hx)
    omega
theorem lay_lst {ds : List PyData} (h : ∀ d ∈ ds, d.canLay0 = true) : PyData.canLay0 (.list ds) = true := lay_tup h
theorem lnD_lay {h : Hs} (o : h.Ok) (tx : h.Tx) {l : PySem.Str} (hl : l ∈ h.lines) : (lnD h l).canLay0 = true := by
  refine lay_lst fun d hd => ?_
  simp only [List.mem_cons, List.not_mem_nil, or_false] at hd
  rcases hd with rfl | rfl | rfl | rfl | rfl
  · exact tz_way _
  · exact o.tzf hl
  · refine lay_lst fun d hd => ?_
    obtain ⟨p, hp, rfl⟩ := List.mem_map.mp hd
    have hw : PyData.canLay0 (.str p.1) = true := o.tzw (o.hb.trw l hl p hp)
    show (PyData.canLay0 (.str p.1) && true) = true
    rw [hw]; rfl
  · cases e : (h.ln l).en with
    | none => rfl
    | some z => exact o.tzl (o.en hl e).1
  · cases e : (h.ln l).why with
    | none => rfl
    | some y => exact Wy.lay (tx.why l hl y e)
theorem whD_lay {h : Hs} (o : h.Ok) {w : PySem.Str} (hw : w ∈ h.wheres) : (whD h w).canLay0 = true := by
  refine lay_lst fun d hd => ?_
  simp only [List.mem_cons, List.not_mem_nil, or_false] at hd
  rcases hd with rfl | rfl
  · exact lay_strs (o.tzp hw)
  · exact canAll_flat fun v hv => by obtain ⟨j, _, rfl⟩ := List.mem_map.mp hv; rfl
theorem lnD_depth (h : Hs) (l : PySem.Str) : (lnD h l).depth ≤ 4 := by
  have d : ∀ tr : List (PySem.Str × Nat), PyData.depthAll (tr.map trD) ≤ 1 := fun tr => depthAll_le fun d hd => by
    obtain ⟨p, hp, rfl⟩ := List.mem_map.mp hd
    exact Nat.le_refl _
  have b : PyData.depth (oW (h.ln l).why) ≤ 2 := by
    cases (h.ln l).why with
    | none => exact Nat.zero_le _
    | some y => exact Wy.depth y
  have c : PyData.depth (oD (h.ln l).en) = 0 := by cases (h.ln l).en <;> rfl
  have d1 := d (h.ln l).train
  show max 0 (max 0 (max (PyData.depthAll ((h.ln l).train.map trD) + 1) (max (PyData.depth _) (max (PyData.depth _) 0)))) + 1 ≤ 4
  rw [c]; omega
theorem whD_depth (h : Hs) (w : PySem.Str) : (whD h w).depth ≤ 4 := by
  have d : PyData.depthAll ((h.rk w).paper.map PyData.str) ≤ 0 := depthAll_le fun d hd => by
    obtain ⟨p, hp, rfl⟩ := List.mem_map.mp hd
    exact Nat.le_refl _
  show max (PyData.depthAll ((h.rk w).paper.map PyData.str) + 1) (max (PyData.depthAll (((h.rk w).tak.map V.int).map dV) + 1) 0) + 1 ≤ 4
  rw [depAll_flat]; omega
theorem allD_shaped {h : Hs} (o : h.Ok) (tx : h.Tx) {ls ws : List PySem.Str} (hl : ∀ l ∈ ls, l ∈ h.lines) (hw : ∀ w ∈ ws, w ∈ h.wheres) : SeqAt.shaped (.list (allD h ls ws)) = true := by
  have fs : ∀ v ∈ h.steps.map V.int, okV v = true := fun v hv => by obtain ⟨j, _, rfl⟩ := List.mem_map.mp hv; rfl
  have a : PyData.canLay0 (.list (allD h ls ws)) = true := lay_lst fun d hd => by
    unfold allD at hd
    rcases List.mem_append.mp hd with hd | hd
    · rcases List.mem_append.mp hd with hd | hd
      · simp only [List.mem_cons, List.not_mem_nil, or_false] at hd
        rcases hd with rfl | rfl | rfl
        · exact canAll_flat o.okQ
        · exact canAll_flat fs
        · refine lay_lst fun d hd => ?_
          obtain ⟨x, hx, rfl⟩ := List.mem_map.mp hd
          exact Dd.lay (tx.done x hx)
      · obtain ⟨l, hl', rfl⟩ := List.mem_map.mp hd
        exact lnD_lay o tx (hl l hl')
    · obtain ⟨w, hw', rfl⟩ := List.mem_map.mp hd
      exact whD_lay o (hw w hw')
  have b : PyData.depth (.list (allD h ls ws)) ≤ 64 := by
    have : PyData.depthAll (allD h ls ws) ≤ 4 := depthAll_le fun d hd => by
      unfold allD at hd
      rcases List.mem_append.mp hd with hd | hd
      · rcases List.mem_append.mp hd with hd | hd
        · simp only [List.mem_cons, List.not_mem_nil, or_false] at hd
          rcases hd with rfl | rfl | rfl
          · show PyData.depthAll _ + 1 ≤ 4; rw [depAll_flat]; decide
          · show PyData.depthAll _ + 1 ≤ 4; rw [depAll_flat]; decide
          · have : PyData.depthAll (h.done.map Dd.d) ≤ 1 := depthAll_le fun d hd => by
              obtain ⟨x, hx, rfl⟩ := List.mem_map.mp hd
              cases x <;> exact (by decide : (1 : Nat) ≤ 1)
            show PyData.depthAll _ + 1 ≤ 4; omega
        · obtain ⟨l, _, rfl⟩ := List.mem_map.mp hd
          exact lnD_depth h l
      · obtain ⟨w, _, rfl⟩ := List.mem_map.mp hd
        exact whD_depth h w
    show PyData.depthAll (allD h ls ws) + 1 ≤ 64
    omega
  unfold SeqAt.shaped
  rw [a, decide_eq_true b]; rfl
end L2.Zs
namespace L2.Zs
open PySem PySem.Spec PyProof.Rows
def spAllTold (ad : Ad) : Sp := fun vs H Q E => ∃ (B : HL) (M : WM) (h : Hs) (F : List As), vs = [.ref B.p, .ref M.p] ∧ WK M h ∧ Gd B h ∧ h.Ok ∧ Sep (HC ad B h (worC M h F)) H ∧
  ∀ (ys : List PySem.Str) (p : Addr) (H' : Hp), ys.Perm M.kh → sortedS ys = true → Sep (dq (.ref p) (.list (allD h h.lines ys)) :: HC ad B h (worC M h F)) H' → Q (.ref p) H'
theorem len_alltold {ad : Ad} {vs H Q E} (h : spAllTold ad vs H Q E) : vs.length = 2 := by obtain ⟨B, M, h, F, rfl, _⟩ := h; rfl
/-- the name that the law gives a deed that is refused -/
def Hs.nm (h : Hs) : Dd → PySem.Str
  | .sw _ _ _ => "NoSwitch"
  | .ln _ l => if l ∈ h.lines then "NotSo" else "NoLine"
def Hs.bad (h : Hs) (d : Dd) : Prop := ∃ e, h.act d = .error e ∧ h.nm d = e.s
theorem Hs.bad_step {h : Hs} {d : Dd} (b : h.bad d) : ∃ e, h.step d = .error e ∧ h.nm d = e.s := by
  obtain ⟨e, h1, h2⟩ := b
  exact ⟨e, by unfold Hs.step; rw [h1], h2⟩
theorem Hs.bad_lift {h : Hs} {l : PySem.Str} (hl : l ∈ h.lines) (w : ¬ ((h.ln l).way = .rests ∨ (h.ln l).way = .rung)) : h.bad (.ln .lift l) := by
  refine ⟨.notso, ?_, if_pos hl⟩
  show h.atLine .lift l = _
  unfold Hs.atLine
  rw [if_neg (fun z => z hl)]
  show h.lift l = _
  unfold Hs.lift
  cases e : (h.ln l).way with
  | rests => exact absurd (.inl e) w
  | rung => exact absurd (.inr e) w
  | _ => rfl
theorem Hs.bad_hang {h : Hs} {l : PySem.Str} (hl : l ∈ h.lines) (w : (h.ln l).way = .rests ∨ (h.ln l).way = .rung) : h.bad (.ln .hang l) := by
  refine ⟨.notso, ?_, if_pos hl⟩
  show h.atLine .hang l = _
  unfold Hs.atLine
  rw [if_neg (fun z => z hl)]
  show h.hang l = _
  unfold Hs.hang
  rcases w with e | e <;> rw [e]
theorem Hs.bad_pulse {h : Hs} {l : PySem.Str} (hl : l ∈ h.lines) (w : (h.ln l).way ≠ .dials) : h.bad (.ln .pulse l) := by
  refine ⟨.notso, ?_, if_pos hl⟩
  show h.atLine .pulse l = _
  unfold Hs.atLine
  rw [if_neg (fun z => z hl)]
  show h.pulse l = _
  unfold Hs.pulse
  cases e : (h.ln l).way with
  | dials => exact absurd e w
  | _ => rfl
theorem Hs.bad_gap {h : Hs} {l : PySem.Str} (hl : l ∈ h.lines) (w : (h.ln l).way ≠ .dials ∨ (h.ln l).many = 0) : h.bad (.ln .gap l) := by
  refine ⟨.notso, ?_, if_pos hl⟩
  show h.atLine .gap l = _
  unfold Hs.atLine
  rw [if_neg (fun z => z hl)]
  show h.gap l = _
  unfold Hs.gap
  rcases w with w | w
  · cases e : (h.ln l).way with
    | dials => exact absurd e w
    | _ => rfl
  · cases e : (h.ln l).way with
    | dials => exact if_pos w
    | _ => rfl
theorem Hs.bad_unknown {h : Hs} {l : PySem.Str} {wd : Wd} (hl : l ∉ h.lines) : h.bad (.ln wd l) := by
  refine ⟨.line, ?_, if_neg hl⟩
  show h.atLine wd l = _
  unfold Hs.atLine
  rw [if_pos hl]
theorem Hs.bad_sw {h : Hs} {b : Bool} {w : PySem.Str} {k : Int} (hk : ¬ (w ∈ h.wheres ∧ 0 ≤ k ∧ k < ((h.rk w).held.length : Int))) : h.bad (.sw b w k) := ⟨.switch, if_neg hk, rfl⟩
theorem z_in2 : ∀ d : Dd, inV (.str d.z) [.str "stick", .str "mend"] = (match d with | .sw .. => true | .ln .. => false)
  | .sw true _ _ => (show inV (.str ("stick" : PySem.Str)) [.str "stick", .str "mend"] = true by decide +kernel)
  | .sw false _ _ => (show inV (.str ("mend" : PySem.Str)) [.str "stick", .str "mend"] = true by decide +kernel)
  | .ln .lift _ => (show inV (.str ("lift" : PySem.Str)) [.str "stick", .str "mend"] = false by decide +kernel)
  | .ln .hang _ => (show inV (.str ("hang" : PySem.Str)) [.str "stick", .str "mend"] = false by decide +kernel)
  | .ln .pulse _ => (show inV (.str ("pulse" : PySem.Str)) [.str "stick", .str "mend"] = false by decide +kernel)
  | .ln .gap _ => (show inV (.str ("gap" : PySem.Str)) [.str "stick", .str "mend"] = false by decide +kernel)
/-- a row of deeds in a list, one put to it -/
def ddl (p : Addr) (ds : List Dd) : As := lsI p (ds.map Dd.d)
theorem s_ddPut {p t : Addr} {ds : List Dd} {d : Dd} {F cs : List As} {H : Hp} {Q : VK} (S : Sep cs H) (k1 : Wk cs (lsI p (ds.map Dd.d) :: im (.ref t) d.d :: F)) (h : ds.length ≤ 10000) (k : ∀ H', Sep (lsI p ((ds ++ [d]).map Dd.d) :: F) H' → Q .non H') : rAppend (.ref p) [.ref t] H Q := by
  obtain ⟨xs, S⟩ := Sep.lsO (k1.sep S)
  have xl := S.imsLen (xs := xs) (Pick.there Pick.here)
  rw [List.length_map] at xl
  refine s_append S Chg.here (by rw [xl]; exact Nat.lt_of_le_of_lt h (by decide)) fun H S => k H ?_
  have S := Sep.cons (fun _ h => Sep.imsP h) S
  rw [show ds.map Dd.d ++ [d.d] = (ds ++ [d]).map Dd.d by simp] at S
  exact Sep.lsC S
def spMisfits : Sp := fun vs H Q E => ∃ (M : WM) (h : Hs) (draw : Int) (F : List As), vs = [.ref M.p, .int draw] ∧ WK M h ∧ h.Ok ∧ Sep (worC M h F) H ∧
  ∀ (ds : List Dd) (p : Addr) (H' : Hp), (∀ d ∈ ds, h.bad d) → Sep (lsI p (ds.map Dd.d) :: worC M h F) H' → Q (.ref p) H'
theorem len_misfits {vs H Q E} (h : spMisfits vs H Q E) : vs.length = 2 := by obtain ⟨M, h, r, F, rfl, _⟩ := h; rfl
def spDueName : Sp := fun vs H Q E => ∃ (M : WM) (h : Hs) (dv : V) (d : Dd) (F : List As), vs = [.ref M.p, dv] ∧ Sep (im dv d.d :: worC M h F) H ∧ ∀ H', Sep (im dv d.d :: worC M h F) H' → Q (.str (h.nm d)) H'
theorem len_duename {vs H Q E} (h : spDueName vs H Q E) : vs.length = 2 := by obtain ⟨M, h, r, d, F, rfl, _⟩ := h; rfl
def spPutQ (ad : Ad) : Sp := fun vs H Q E => ∃ (B : HL) (h : Hs) (i : Nat) (z : PySem.Str) (F : List As), vs = [.ref B.p, .int (i : Nat), .str z] ∧ i < 7 ∧ z ∉ h.lines ∧ z ∉ h.wheres ∧ h.Ok ∧ Gd B h ∧ Sep (HC ad B h F) H ∧
  ∀ H', Sep (HC ad B h F) H' → E (.ref (erA ad (if i < 5 then .line else .switch))) none H'
theorem len_putq {ad : Ad} {vs H Q E} (h : spPutQ ad vs H Q E) : vs.length = 3 := by obtain ⟨B, h, i, z, F, rfl, _⟩ := h; rfl
def spQsRef (ad : Ad) : Sp := fun vs H Q E => ∃ (B : HL) (h : Hs) (z : PySem.Str) (F : List As), vs = [.ref B.p, .str z] ∧ z ∉ h.lines ∧ z ∉ h.wheres ∧ h.Ok ∧ Gd B h ∧ Sep (HC ad B h F) H ∧ ∀ H', Sep (HC ad B h F) H' → Q (.bl true) H'
theorem len_qsref {ad : Ad} {vs H Q E} (h : spQsRef ad vs H Q E) : vs.length = 2 := by obtain ⟨B, h, z, F, rfl, _⟩ := h; rfl
theorem atI_m1 {xs : List V} (h : xs ≠ []) : ∃ v, atI xs (-1) = some v ∧ v ∈ xs := by
  have e := List.dropLast_concat_getLast h
  refine ⟨xs.getLast h, ?_, List.getLast_mem h⟩
  have := atI_last xs.dropLast (xs.getLast h)
  rwa [e] at this
/-- a text that is no line and no where -/
theorem Hs.odd_len {h : Hs} (ok : h.Ok) {z : PySem.Str} (hz : z.length = h.long + 1) : z ∉ h.lines ∧ z ∉ h.wheres :=
  ⟨fun m => by have := (ok.sh.lf z m).1; omega, fun m => by have := (ok.sh.wl z m).1; omega⟩
theorem Hs.odd_sign {h : Hs} (ok : h.Ok) {z : PySem.Str} {c : Nat} (hc : c ∈ z.cps.toList) (n : ¬ (48 ≤ c ∧ c ≤ 57)) : z ∉ h.lines ∧ z ∉ h.wheres :=
  ⟨fun m => n ((ok.sh.lf z m).2 c hc), fun m => n ((ok.sh.wl z m).2 c hc)⟩
end L2.Zs
namespace L2.Zs
open PySem PySem.Spec PyProof.Rows
/-- a text's join, K by name -/
theorem k_join {X : Cx} {K : PySem.W.Frag} {o e : Expr} {to te : TE} {apos pos : Pos} (hK : X.K = K) (ho : PE X o to) (he : PE X e te) (hs : starEach [e] X.env = [(false, eval e X.env)] := by rfl) (hbase : attributeBase o "join" X.env (eval o X.env) = eval o X.env := by rfl) (hline : (apos.endLine == pos.line) = true := by rfl) :
    PE X (.Call (.Attribute o "join" apos) [e] [] pos) (tM1 (fun x xs H Q => ∃ a p, ∃ ys : List PySem.Str, x = .str a ∧ xs = [.ref p] ∧ (SqL K H p (ys.map V.str) ∨ SqT K H p (ys.map V.str)) ∧ (ys.map (·.length)).sum + ys.length * a.length ≤ 16777216 ∧ Q (.str (PySem.Txt.join a ys)) H) to te) := hK ▸ pe_join ho he hs hbase hline
/-! # rows of deeds, from the beginning -/
namespace Hs
def runs : Hs → List Dd → Except Er Hs
  | h, [] => .ok h
  | h, d :: ds => match h.step d with
    | .error e => .error e
    | .ok (_, h') => h'.runs ds
theorem runs_ok {h h' : Hs} {d : Dd} {ts : List Tl} {ds : List Dd} (e : h.step d = .ok (ts, h')) : h.runs (d :: ds) = h'.runs ds := by
  rw [runs, e]
theorem runs_err {h : Hs} {d : Dd} {x : Er} {ds : List Dd} (e : h.step d = .error x) : h.runs (d :: ds) = .error x := by
  rw [runs, e]
theorem runs_app {h h' : Hs} {ds es : List Dd} (e : h.runs ds = .ok h') : h.runs (ds ++ es) = h'.runs es := by
  induction ds generalizing h with
  | nil => cases e; rfl
  | cons d ds ih =>
    cases s : h.step d with
    | error x => rw [runs_err s] at e; cases e
    | ok p =>
      obtain ⟨ts, g⟩ := p
      rw [runs_ok s] at e
      rw [List.cons_append, runs_ok s]
      exact ih e
theorem runs_split {h h' : Hs} {ds es : List Dd} (e : h.runs (ds ++ es) = .ok h') : ∃ g, h.runs ds = .ok g ∧ g.runs es = .ok h' := by
  induction ds generalizing h with
  | nil => exact ⟨h, rfl, e⟩
  | cons d ds ih =>
    cases s : h.step d with
    | error x => rw [List.cons_append, runs_err s] at e; cases e
    | ok p =>
      obtain ⟨ts, g⟩ := p
      rw [List.cons_append, runs_ok s] at e
      rw [runs_ok s]
      exact ih e
theorem runs_one {h h' : Hs} {d : Dd} {ts : List Tl} (e : h.step d = .ok (ts, h')) : h.runs [d] = .ok h' := by rw [runs_ok e]; rfl
theorem runs_one' {h h' : Hs} {d : Dd} (e : h.runs [d] = .ok h') : ∃ ts, h.step d = .ok (ts, h') := by
  cases s : h.step d with
  | error x => rw [runs_err s] at e; cases e
  | ok p =>
    obtain ⟨ts, g⟩ := p
    rw [runs_ok s] at e
    cases e
    exact ⟨ts, rfl⟩
theorem runs_bad {h g : Hs} {ds es : List Dd} {d : Dd} {x : Er} (e : h.runs ds = .ok g) (s : g.step d = .error x) : h.runs (ds ++ d :: es) = .error x := by rw [runs_app e, runs_err s]
/-- refused ones are gone by -/
def goes : Hs → List Dd → Hs
  | h, [] => h
  | h, d :: ds => match h.step d with
    | .error _ => h.goes ds
    | .ok (_, h') => h'.goes ds
theorem goes_ok {h h' : Hs} {d : Dd} {ts : List Tl} {ds : List Dd} (e : h.step d = .ok (ts, h')) : h.goes (d :: ds) = h'.goes ds := by
  rw [goes, e]
theorem goes_err {h : Hs} {d : Dd} {x : Er} {ds : List Dd} (e : h.step d = .error x) : h.goes (d :: ds) = h.goes ds := by
  rw [goes, e]
theorem goes_app (h : Hs) (ds es : List Dd) : h.goes (ds ++ es) = (h.goes ds).goes es := by
  induction ds generalizing h with
  | nil => rfl
  | cons d ds ih =>
    rw [List.cons_append]
    cases s : h.step d with
    | error x => rw [goes_err s, goes_err s]; exact ih h
    | ok p =>
      obtain ⟨ts, g⟩ := p
      rw [goes_ok s, goes_ok s]; exact ih g
end Hs
/-- a hall of the plan d, led by at most n deeds -/
structure Good (d : Pd) (n : Nat) (h : Hs) : Prop where
  ok : h.Ok
  tx : h.Tx
  dn : h.done.length ≤ n
  led : (Hs.new d).runs h.done = .ok h
  long : h.long = d.long
  lines : h.lines = d.lines
  wheres : h.wheres = (Hs.new d).wheres
theorem Good.new {d : Pd} (o : PdOk d) : Good d 0 (Hs.new d) := ⟨Hs.new_ok o, Hs.new_tx, Nat.le_refl _, rfl, rfl, rfl, rfl⟩
theorem Good.le {d : Pd} {n m : Nat} {h : Hs} (g : Good d n h) (l : n ≤ m) : Good d m h := ⟨g.ok, g.tx, Nat.le_trans g.dn l, g.led, g.long, g.lines, g.wheres⟩
theorem Good.step {d : Pd} {n : Nat} {h h' : Hs} {x : Dd} {ts : List Tl} (g : Good d n h) (e : h.step x = .ok (ts, h')) : Good d (n + 1) h' := by
  obtain ⟨d1, d2, d3, d4⟩ := Hs.step_done e
  refine ⟨Hs.step_ok g.ok e, (Hs.step_tx g.ok g.tx e).1, ?_, ?_, d2.trans g.long, d3.trans g.lines, d4.trans g.wheres⟩
  · rw [d1, List.length_append]; exact Nat.succ_le_succ g.dn
  · rw [d1, Hs.runs_app g.led, Hs.runs_one e]
theorem Good.runs {d : Pd} {ds : List Dd} : ∀ {n : Nat} {h h' : Hs}, Good d n h → h.runs ds = .ok h' → Good d (n + ds.length) h' := by
  induction ds with
  | nil => intro n h h' g e; cases e; exact g
  | cons x ds ih =>
    intro n h h' g e
    cases s : h.step x with
    | error y => rw [Hs.runs_err s] at e; cases e
    | ok p =>
      obtain ⟨ts, k⟩ := p
      rw [Hs.runs_ok s] at e
      have := ih (g.step s) e
      rw [List.length_cons, show n + (ds.length + 1) = n + 1 + ds.length by omega]
      exact this
theorem Good.goes {d : Pd} {ds : List Dd} : ∀ {n : Nat} {h : Hs}, Good d n h → Good d (n + ds.length) (h.goes ds) := by
  induction ds with
  | nil => intro n h g; exact g
  | cons x ds ih =>
    intro n h g
    rw [List.length_cons, show n + (ds.length + 1) = n + 1 + ds.length by omega]
    cases s : h.step x with
    | error y => rw [Hs.goes_err s]; exact ih (g.le (Nat.le_succ _))
    | ok p =>
      obtain ⟨ts, k⟩ := p
      rw [Hs.goes_ok s]; exact ih (g.step s)
theorem Good.wk {d : Pd} {n : Nat} {h : Hs} {M : WM} (g : Good d n h) (wk : WK M (Hs.new d)) : WK M h := wk.to g.lines g.wheres
theorem Good.gd {d : Pd} {n : Nat} {h : Hs} {B : HL} (g : Good d n h) (gd : Gd B (Hs.new d)) : Gd B h := gd.to g.long g.lines
/-- of a plan and a row of deeds, a hall -/
def spAgain (ad : Ad) : Sp := fun vs H Q E => ∃ (PP : PL) (dp : Addr) (ds : List Dd) (F : List As), vs = [.ref PP.p, .ref dp] ∧ PdOk PP.d ∧ PP.o.dict = none ∧ ds.length ≤ 100000 ∧ Sep (lsI dp (ds.map Dd.d) :: planC ad PP F) H ∧
  (∀ (B : HL) (h : Hs) (H' : Hp), B.pl = PP → Gd B (Hs.new PP.d) → (Hs.new PP.d).runs ds = .ok h → Sep (hallC ad B h (lsI dp (ds.map Dd.d) :: planC ad PP F)) H' → Q (.ref B.p) H') ∧
  (∀ e H', (Hs.new PP.d).runs ds = .error e → Sep (lsI dp (ds.map Dd.d) :: planC ad PP F) H' → E (.ref (erA ad e)) none H')
theorem len_again {ad : Ad} {vs H Q E} (h : spAgain ad vs H Q E) : vs.length = 2 := by obtain ⟨PP, dp, ds, F, rfl, _⟩ := h; rfl
def spManyRows (K : PySem.W.Frag) : Sp := fun vs H Q E => ∃ (s : Addr) (ns : List Int) (M : WM) (d : Pd) (h : Hs) (F : List As), vs = [.ref s, .ref M.p] ∧ WK M (Hs.new d) ∧ Good d 0 h ∧ Sep (sq K s (ns.map V.int) :: worC M h F) H ∧
  ∀ (ds : List Dd) (p : Addr) (H' : Hp), ds.length ≤ 2000 → Sep (lsI p (ds.map Dd.d) :: sq K s (ns.map V.int) :: worC M (h.goes ds) F) H' → Q (.ref p) H'
theorem len_manyrows {K vs H Q E} (h : spManyRows K vs H Q E) : vs.length = 2 := by obtain ⟨s, ns, M, d, h, F, rfl, _⟩ := h; rfl
def spAllToldP (ad : Ad) : Sp := fun vs H Q E => ∃ (B : HL) (t a b : Addr) (d : Pd) (n : Nat) (h : Hs) (ls : List PySem.Str) (xs : List V) (gs : List Pr) (F : List As), vs = [.ref B.p, .ref t] ∧ PaOk d ls gs ∧ Good d n h ∧ Gd B h ∧ Sep (HC ad B h (partC t a b d ls xs gs F)) H ∧
  ∀ (p : Addr) (H' : Hp), Sep (dq (.ref p) (.list (allD h ls (("" : PySem.Str) :: gs.map (fun (g : Pr) => g.1)))) :: HC ad B h (partC t a b d ls xs gs F)) H' → Q (.ref p) H'
theorem len_alltoldp {ad vs H Q E} (h : spAllToldP ad vs H Q E) : vs.length = 2 := by obtain ⟨B, t, a, b, d, n, h, ls, xs, gs, F, rfl, _⟩ := h; rfl
def spLAgain (ad : Ad) : Sp := fun vs H Q E => ∃ (t a b dp : Addr) (d : Pd) (ls : List PySem.Str) (xs : List V) (gs : List Pr) (ds : List Dd) (F : List As), vs = [.ref t, .ref dp] ∧ PaOk d ls gs ∧ ds.length ≤ 100000 ∧ Sep (lsI dp (ds.map Dd.d) :: partC t a b d ls xs gs F) H ∧
  (∀ (B : HL) (h : Hs) (tt : Addr) (H' : Hp), Gd B h → (Hs.new d).runs ds = .ok h → Sep (pt tt (.tup [.ref B.p, .str ""]) :: HC ad B h (lsI dp (ds.map Dd.d) :: partC t a b d ls xs gs F)) H' → Q (.ref tt) H') ∧
  (∀ (e : Er) (tt : Addr) (H' : Hp), (Hs.new d).runs ds = .error e → Sep (pt tt (.tup [.non, .str e.s]) :: lsI dp (ds.map Dd.d) :: partC t a b d ls xs gs F) H' → Q (.ref tt) H')
theorem len_lagain {ad vs H Q E} (h : spLAgain ad vs H Q E) : vs.length = 2 := by obtain ⟨t, a, b, dp, d, ls, xs, gs, ds, F, rfl, _⟩ := h; rfl
theorem PaOk.whs {d : Pd} {ls : List PySem.Str} {gs : List Pr} (o : PaOk d ls gs) : ∀ w, w ∈ (("" : PySem.Str) :: gs.map (fun (g : Pr) => g.1)) ↔ w ∈ (Hs.new d).wheres := fun w => by
  show w ∈ ("" : PySem.Str) :: _ ↔ w ∈ ("" : PySem.Str) :: d.gs.map (fun (g : Pr) => g.1)
  rw [List.mem_cons, List.mem_cons, (o.p2.map (fun (g : Pr) => g.1)).mem_iff]
end L2.Zs
namespace L2.Zs
open PySem PySem.Spec PyProof.Rows
/-! # keepers -/
def keepF (a : Addr) (b : Addr) (c : Addr) : List (PySem.Str × V) := [("kept_plan", .ref a), ("now", .ref b), ("back_ones", .ref c)]
section
variable {a : Addr} {b : Addr} {c : Addr}
def keepFN : List PySem.Str := ["kept_plan", "now", "back_ones"]
instance : Nms (keepF a b c) keepFN := ⟨rfl⟩
instance : Lk (keepF a b c) "kept_plan" (.ref a) := ⟨lk_hd⟩
instance {a' : Addr} : Pf (keepF a b c) "kept_plan" (.ref a') (keepF a' b c) := ⟨pf_hd, by show 3 < 1000; decide⟩
instance : Lk (keepF a b c) "now" (.ref b) := ⟨lk_tl (by decide +kernel) (lk_hd)⟩
instance {b' : Addr} : Pf (keepF a b c) "now" (.ref b') (keepF a b' c) := ⟨pf_tl (by decide +kernel) (pf_hd), by show 3 < 1000; decide⟩
instance : Lk (keepF a b c) "back_ones" (.ref c) := ⟨lk_tl (by decide +kernel) (lk_tl (by decide +kernel) (lk_hd))⟩
instance {c' : Addr} : Pf (keepF a b c) "back_ones" (.ref c') (keepF a b c') := ⟨pf_tl (by decide +kernel) (pf_tl (by decide +kernel) (pf_hd)), by show 3 < 1000; decide⟩
end
structure Ak where
  Keeper : Addr
  NothingLeft : Addr
structure TxK (K : PySem.W.Frag) (mg : PySem.Str → Option Value) (ak : Ak) : Prop where
  x_NothingLeft : XC K mg "NothingLeft" ak.NothingLeft
  fKeeper : FT K ak.Keeper keepFN
theorem putKeep {a b c : Addr} : putF "back_ones" (V.ref c) (putF "now" (V.ref b) (putF "kept_plan" (V.ref a) [])) = keepF a b c := by
  rw [pf_nil, pf_tl (by decide +kernel) pf_nil, pf_tl (by decide +kernel) (pf_tl (by decide +kernel) pf_nil)]
  rfl
theorem Hs.runs_done {ds : List Dd} : ∀ {h h' : Hs}, h.runs ds = .ok h' → h'.done = h.done ++ ds := by
  induction ds with
  | nil => intro h h' e; cases e; rw [List.append_nil]
  | cons d ds ih =>
    intro h h' e
    cases s : h.step d with
    | error x => rw [Hs.runs_err s] at e; cases e
    | ok p =>
      obtain ⟨ts, g⟩ := p
      rw [Hs.runs_ok s] at e
      rw [ih e, (Hs.step_done s).1, List.append_assoc]; rfl
/-- a keeper: its hall, and what was taken back, the last one first to be done again -/
structure Kp where
  h : Hs
  back : List Dd
structure KOk (d : Pd) (n : Nat) (k : Kp) : Prop where
  g : Good d n k.h
  top : ∃ ht, (Hs.new d).runs (k.h.done ++ k.back.reverse) = .ok ht
  bn : k.h.done.length + k.back.length ≤ n
  btx : ∀ x ∈ k.back, x.tx
theorem KOk.new {d : Pd} (o : PdOk d) : KOk d 0 ⟨Hs.new d, []⟩ := ⟨Good.new o, ⟨_, rfl⟩, Nat.le_refl _, fun x hx => nomatch hx⟩
theorem KOk.le {d : Pd} {n m : Nat} {k : Kp} (o : KOk d n k) (h : n ≤ m) : KOk d m k := ⟨o.g.le h, o.top, Nat.le_trans o.bn h, o.btx⟩
theorem KOk.do {d : Pd} {n : Nat} {k : Kp} {h' : Hs} {x : Dd} {ts : List Tl} (o : KOk d n k) (e : k.h.step x = .ok (ts, h')) : KOk d (n + 1) ⟨h', []⟩ := by
  have g := o.g.step e
  refine ⟨g, ⟨h', ?_⟩, ?_, fun x hx => nomatch hx⟩
  · show (Hs.new d).runs (h'.done ++ []) = _
    rw [List.append_nil]; exact g.led
  · show h'.done.length + 0 ≤ n + 1
    exact g.dn
theorem KOk.back {d : Pd} {n : Nat} {k : Kp} {ds : List Dd} {x : Dd} (o : KOk d n k) (pd : PdOk d) (e : k.h.done = ds ++ [x]) : ∃ h', (Hs.new d).runs ds = .ok h' ∧ KOk d n ⟨h', k.back ++ [x]⟩ ∧ ∃ ts, h'.step x = .ok (ts, k.h) := by
  have l := o.g.led
  rw [e] at l
  obtain ⟨h', r1, r2⟩ := Hs.runs_split l
  obtain ⟨ts, r3⟩ := Hs.runs_one' r2
  have dn : h'.done = ds := by rw [Hs.runs_done r1]; rfl
  have g : Good d (0 + ds.length) h' := (Good.new pd).runs r1
  have bn := o.bn
  rw [e, List.length_append] at bn
  have bn : ds.length + 1 + k.back.length ≤ n := bn
  refine ⟨h', r1, ⟨g.le (by omega), ?_, ?_, fun y hy => ?_⟩, ts, r3⟩
  · obtain ⟨ht, t⟩ := o.top
    refine ⟨ht, ?_⟩
    show (Hs.new d).runs (h'.done ++ (k.back ++ [x]).reverse) = _
    rw [dn, List.reverse_append]
    rw [e, List.append_assoc] at t
    exact t
  · show h'.done.length + (k.back ++ [x]).length ≤ n
    rw [dn, List.length_append]
    show ds.length + (k.back.length + 1) ≤ n
    omega
  · rcases List.mem_append.mp hy with hy | hy
    · exact o.btx y hy
    · rw [List.mem_singleton.mp hy]
      exact o.g.tx.done x (by rw [e]; exact List.mem_append_right _ List.mem_cons_self)
theorem KOk.again {d : Pd} {n : Nat} {k : Kp} {bs : List Dd} {x : Dd} (o : KOk d n k) (e : k.back = bs ++ [x]) : ∃ ts h', k.h.step x = .ok (ts, h') ∧ KOk d n ⟨h', bs⟩ := by
  obtain ⟨ht, t⟩ := o.top
  rw [e, List.reverse_append] at t
  have t : (Hs.new d).runs (k.h.done ++ ([x] ++ bs.reverse)) = .ok ht := t
  have t2 := t
  rw [Hs.runs_app o.g.led] at t2
  obtain ⟨h', r1, r2⟩ := Hs.runs_split t2
  obtain ⟨ts, r3⟩ := Hs.runs_one' r1
  have g := o.g.step r3
  have dn := (Hs.step_done r3).1
  have bn := o.bn
  rw [e, List.length_append] at bn
  have bn : k.h.done.length + (bs.length + 1) ≤ n := bn
  refine ⟨ts, h', r3, ⟨⟨g.ok, g.tx, by rw [dn, List.length_append]; show k.h.done.length + 1 ≤ n; omega, g.led, g.long, g.lines, g.wheres⟩, ⟨ht, ?_⟩, ?_, fun y hy => o.btx y (by rw [e]; exact List.mem_append_left _ hy)⟩⟩
  · show (Hs.new d).runs (h'.done ++ bs.reverse) = _
    rw [dn, List.append_assoc]; exact t
  · show h'.done.length + bs.length ≤ n
    rw [dn, List.length_append]
    show k.h.done.length + 1 + bs.length ≤ n
    omega
/-! ## its chunk -/
def kpC (ak : Ak) (ad : Ad) (p : Addr) (PP : PL) (k : Kp) : As := ex fun x : Addr × Addr × HL => star (pu (x.2.2.pl = PP ∧ Gd x.2.2 k.h) :: pt p (.ins ak.Keeper x.1 (keepF PP.p x.2.2.p x.2.1)) :: lsI x.2.1 (k.back.map Dd.d) :: hallC ad x.2.2 k.h [])
theorem Sep.kpO {ak : Ak} {ad : Ad} {p : Addr} {PP : PL} {k : Kp} {F : List As} {H : Hp} (S : Sep (kpC ak ad p PP k :: F) H) : ∃ (dx bp : Addr) (B : HL), B.pl = PP ∧ Gd B k.h ∧ Sep (pt p (.ins ak.Keeper dx (keepF PP.p B.p bp)) :: lsI bp (k.back.map Dd.d) :: hallC ad B k.h F) H := by
  obtain ⟨⟨dx, bp, B⟩, S⟩ := Sep.ex S
  obtain ⟨⟨e, g⟩, S⟩ := Sep.pu (Sep.flat S)
  exact ⟨dx, bp, B, e, g, S⟩
theorem Sep.kpI {ak : Ak} {ad : Ad} {p dx bp : Addr} {PP : PL} {B : HL} {k : Kp} {F : List As} {H : Hp} (e : B.pl = PP) (g : Gd B k.h) (S : Sep (pt p (.ins ak.Keeper dx (keepF PP.p B.p bp)) :: lsI bp (k.back.map Dd.d) :: hallC ad B k.h F) H) : Sep (kpC ak ad p PP k :: F) H := by
  refine Sep.exI (dx, bp, B) (Sep.unflat (ps := Zs.pu (B.pl = PP ∧ Gd B k.h) :: pt p (.ins ak.Keeper dx (keepF PP.p B.p bp)) :: lsI bp (k.back.map Dd.d) :: hallC ad B k.h []) (Sep.puI ⟨e, g⟩ S))
/-! ## what it promises -/
section
variable (ak : Ak) (ad : Ad)
def spKInit (C : Addr) : Sp := fun vs H Q E => ∃ (p dx : Addr) (PP : PL) (F : List As), vs = [.ref p, .ref PP.p] ∧ C = ak.Keeper ∧ PdOk PP.d ∧ PP.o.dict = none ∧ Sep (pt p (.ins C dx []) :: planC ad PP F) H ∧
  ∀ H', Sep (kpC ak ad p PP ⟨Hs.new PP.d, []⟩ :: planC ad PP F) H' → Q .non H'
def spKDo (C : Addr) : Sp := fun vs H Q E => ∃ (p : Addr) (PP : PL) (n : Nat) (k : Kp) (dv : V) (x : Dd) (F : List As), vs = [.ref p, dv] ∧ C = ak.Keeper ∧ KOk PP.d n k ∧ n ≤ 100000 ∧ Sep (im dv x.d :: kpC ak ad p PP k :: planC ad PP F) H ∧
  (∀ ts h', k.h.step x = .ok (ts, h') → ∀ q H', Sep (lsI q (ts.map Tl.d) :: im dv x.d :: kpC ak ad p PP ⟨h', []⟩ :: planC ad PP F) H' → Q (.ref q) H') ∧ (∀ e, k.h.step x = .error e → ∀ H', Sep (im dv x.d :: kpC ak ad p PP k :: planC ad PP F) H' → E (.ref (erA ad e)) none H')
def spKBack (C : Addr) : Sp := fun vs H Q E => ∃ (p : Addr) (PP : PL) (n : Nat) (k : Kp) (F : List As), vs = [.ref p] ∧ C = ak.Keeper ∧ PdOk PP.d ∧ PP.o.dict = none ∧ KOk PP.d n k ∧ n ≤ 10000 ∧ Sep (kpC ak ad p PP k :: planC ad PP F) H ∧
  (k.h.done = [] → ∀ H', Sep (kpC ak ad p PP k :: planC ad PP F) H' → E (.ref ak.NothingLeft) none H') ∧
  (∀ ds x h', k.h.done = ds ++ [x] → (Hs.new PP.d).runs ds = .ok h' → ∀ H', Sep (kpC ak ad p PP ⟨h', k.back ++ [x]⟩ :: planC ad PP F) H' → Q .non H')
def spKAgain (C : Addr) : Sp := fun vs H Q E => ∃ (p : Addr) (PP : PL) (n : Nat) (k : Kp) (F : List As), vs = [.ref p] ∧ C = ak.Keeper ∧ KOk PP.d n k ∧ n ≤ 10000 ∧ Sep (kpC ak ad p PP k :: planC ad PP F) H ∧
  (k.back = [] → ∀ H', Sep (kpC ak ad p PP k :: planC ad PP F) H' → E (.ref ak.NothingLeft) none H') ∧
  (∀ bs x ts h', k.back = bs ++ [x] → k.h.step x = .ok (ts, h') → ∀ q H', Sep (lsI q (ts.map Tl.d) :: kpC ak ad p PP ⟨h', bs⟩ :: planC ad PP F) H' → Q (.ref q) H')
def spKDeeds (C : Addr) : Sp := fun vs H Q E => ∃ (p : Addr) (PP : PL) (k : Kp) (F : List As), vs = [.ref p] ∧ C = ak.Keeper ∧ Sep (kpC ak ad p PP k :: planC ad PP F) H ∧ ∀ q H', Sep (lsI q (k.h.done.map Dd.d) :: kpC ak ad p PP k :: planC ad PP F) H' → Q (.ref q) H'
def spKLeft (C : Addr) : Sp := fun vs H Q E => ∃ (p : Addr) (PP : PL) (k : Kp) (F : List As), vs = [.ref p] ∧ C = ak.Keeper ∧ Sep (kpC ak ad p PP k :: planC ad PP F) H ∧ ∀ q H', Sep (pt q (.tup [.int (k.h.done.length : Nat), .int (k.back.length : Nat)]) :: kpC ak ad p PP k :: planC ad PP F) H' → Q (.ref q) H'
def spKHall (C : Addr) : Sp := fun vs H Q E => ∃ (p : Addr) (PP : PL) (n : Nat) (k : Kp) (F : List As), vs = [.ref p] ∧ C = ak.Keeper ∧ PdOk PP.d ∧ PP.o.dict = none ∧ KOk PP.d n k ∧ n ≤ 10000 ∧ Sep (kpC ak ad p PP k :: planC ad PP F) H ∧
  ∀ (B : HL) H', B.pl = PP → Gd B k.h → Sep (hallC ad B k.h (kpC ak ad p PP k :: planC ad PP F)) H' → Q (.ref B.p) H'
end
section
variable {ak : Ak} {ad : Ad} {C : Addr} {vs : List V} {H : Hp} {Q : VK} {E : XK}
theorem len_kinit (h : spKInit ak ad C vs H Q E) : vs.length = 2 := by obtain ⟨_, _, _, _, rfl, _⟩ := h; rfl
theorem len_kdo (h : spKDo ak ad C vs H Q E) : vs.length = 2 := by obtain ⟨_, _, _, _, _, _, _, rfl, _⟩ := h; rfl
theorem len_kback (h : spKBack ak ad C vs H Q E) : vs.length = 1 := by obtain ⟨_, _, _, _, _, rfl, _⟩ := h; rfl
theorem len_kagain (h : spKAgain ak ad C vs H Q E) : vs.length = 1 := by obtain ⟨_, _, _, _, _, rfl, _⟩ := h; rfl
theorem len_kdeeds (h : spKDeeds ak ad C vs H Q E) : vs.length = 1 := by obtain ⟨_, _, _, _, rfl, _⟩ := h; rfl
theorem len_kleft (h : spKLeft ak ad C vs H Q E) : vs.length = 1 := by obtain ⟨_, _, _, _, rfl, _⟩ := h; rfl
theorem len_khall (h : spKHall ak ad C vs H Q E) : vs.length = 1 := by obtain ⟨_, _, _, _, _, rfl, _⟩ := h; rfl
end
/-! ## lists of data, at their ends -/
theorem cutV_init {xs : List V} : cutV xs none (some (-1)) = xs.dropLast := by
  unfold cutV
  rw [show HT.sIx xs.length xs.length (some (-1)) = xs.length - 1 from ?_]
  · show (xs.drop 0).take (xs.length - 1 - 0) = xs.dropLast
    rw [List.drop_zero, Nat.sub_zero, List.dropLast_eq_take]
  · show (if (-1 : Int) < 0 then ((-1 : Int) + (xs.length : Int)).toNat else min (-1 : Int).toNat xs.length) = xs.length - 1
    rw [if_pos (by decide)]; omega
theorem shaped_dds {ds : List Dd} (h : ∀ x ∈ ds, x.tx) : SeqAt.shaped (.list (ds.map Dd.d)) = true := by
  have a : PyData.canLay0 (.list (ds.map Dd.d)) = true := lay_lst fun d hd => by
    obtain ⟨x, hx, rfl⟩ := List.mem_map.mp hd
    exact Dd.lay (h x hx)
  have b : PyData.depth (.list (ds.map Dd.d)) ≤ 64 := by
    have : PyData.depthAll (ds.map Dd.d) ≤ 1 := depthAll_le fun d hd => by
      obtain ⟨x, hx, rfl⟩ := List.mem_map.mp hd
      cases x <;> exact (by decide : (1 : Nat) ≤ 1)
    show PyData.depthAll _ + 1 ≤ 64
    omega
  unfold SeqAt.shaped
  rw [a, decide_eq_true b]; rfl
theorem eqv_nil (ds : List PyData) : PyData.eqv (.list ds) (.list []) = decide (ds = []) := by
  cases ds with
  | nil => rfl
  | cons d ds => rw [decide_eq_false (fun z => nomatch z)]; first | rfl | simp [PyData.eqv]
section
variable {K : PySem.W.Frag} {H : Hp} {Q : VK} {a b : Addr} {ds : List Dd} {cs es F : List As}
theorem s_eqNilD (S : Sep cs H) (p : Pick (lsI a (ds.map Dd.d)) cs es) {es2 : List As} (q : Pick (pt b (.lst [])) cs es2) (h : ∀ x ∈ ds, x.tx) (k : Q (.bl (decide (ds = []))) H) : rEqZ K (.ref a) (.ref b) H Q := by
  refine s_eqD (S.dpI p) (.lst (SqL.of (S.get q)) .nil) (shaped_dds h) rfl ?_
  rw [eqv_nil]
  have : decide (ds.map Dd.d = []) = decide (ds = []) := by cases ds <;> rfl
  rw [this]; exact k
theorem s_neNilD (S : Sep cs H) (p : Pick (lsI a (ds.map Dd.d)) cs es) {es2 : List As} (q : Pick (pt b (.lst [])) cs es2) (h : ∀ x ∈ ds, x.tx) (k : Q (.bl (!decide (ds = []))) H) : rNeZ K (.ref a) (.ref b) H Q := by
  refine s_neD (S.dpI p) (.lst (SqL.of (S.get q)) .nil) (shaped_dds h) rfl ?_
  rw [eqv_nil]
  have : decide (ds.map Dd.d = []) = decide (ds = []) := by cases ds <;> rfl
  rw [this]; exact k
theorem s_lenI {ps : List PyData} (S : Sep cs H) (p : Pick (lsI a ps) cs es) (k : Q (.int (ps.length : Nat)) H) : rLen K [.ref a] H Q := by
  obtain ⟨xs, S1⟩ := Sep.lsO (S.pick p)
  have := S1.imsLen (xs := xs) (Pick.there Pick.here)
  refine s_lenL S1 Pick.here ?_
  rw [this]; exact k
theorem s_tyI {ps : List PyData} {R : Prop} (S : Sep cs H) (p : Pick (lsI a ps) cs es) (k : R) : tyV K "list" (.ref a) H ∧ R := by
  obtain ⟨xs, S1⟩ := Sep.lsO (S.pick p)
  exact s_tyL S1 Pick.here k
/-- the list but its last -/
theorem s_initD {ps : List PyData} {y : PyData} (S : Sep cs H) (w : Wk cs (lsI a (ps ++ [y]) :: F)) (k : ∀ p H', Sep (lsI p ps :: lsI a (ps ++ [y]) :: F) H' → Q (.ref p) H') : rSlL K (.ref a) none (some (-1)) H Q := by
  obtain ⟨xs, S⟩ := Sep.lsO (w.sep S)
  refine s_slL S Pick.here fun p H S => ?_
  rw [cutV_init] at S
  have hl := S.imsLen (xs := xs) (Pick.there (Pick.there Pick.here))
  rw [List.length_append] at hl
  have hl : xs.length = ps.length + 1 := hl
  refine k p H ?_
  have S : Sep (ims xs (ps ++ [y]) :: pt p (.lst xs.dropLast) :: pt a (.lst xs) :: F) H := S.pick (Pick.there (Pick.there Pick.here))
  have S := Sep.out (c := ims xs (ps ++ [y])) (d := ims xs.dropLast ps) pers_ims (fun H q => by
    have := q.take ps.length
    rw [List.take_left] at this
    rw [List.dropLast_eq_take, hl]
    exact this) S
  have S : Sep (pt p (.lst xs.dropLast) :: ims xs.dropLast ps :: pt a (.lst xs) :: ims xs (ps ++ [y]) :: F) H :=
    Wk.sep (.pick (.there (.there .here)) (.pick .here (.pick (.there .here) (.pick .here .refl)))) S
  exact Sep.lsC (Sep.cons (fun _ h => Sep.cons (fun _ h => Sep.lsC h) h) S)
end
theorem s_popD {p : Addr} {ds : List PyData} {y : PyData} {F cs : List As} {H : Hp} {Q : VK} (S : Sep cs H) (w : Wk cs (lsI p (ds ++ [y]) :: F)) (k : ∀ v H', Sep (im v y :: lsI p ds :: F) H' → Q v H') : rPop (.ref p) [] H Q := by
  obtain ⟨xs, S⟩ := Sep.lsO (w.sep S)
  have hl := S.imsLen (xs := xs) (Pick.there Pick.here)
  rw [List.length_append] at hl
  have hl : xs.length = ds.length + 1 := hl
  obtain ⟨ys, v, rfl⟩ : ∃ ys v, xs = ys ++ [v] := by
    have hne : xs ≠ [] := fun e => by rw [e] at hl; cases hl
    exact ⟨_, _, (List.dropLast_concat_getLast hne).symm⟩
  have hy : ys.length = ds.length := by rw [List.length_append] at hl; exact Nat.succ.inj hl
  refine ⟨p, ys ++ [v], v, rfl, rfl, S.get Pick.here, by rw [List.length_append]; simp, ?_⟩
  rw [List.dropLast_concat]
  have S := S.set (o' := .lst ys) Chg.here rfl
  refine k v _ ?_
  have S : Sep (pt p (.lst ys) :: im v y :: ims ys ds :: F) _ := Sep.cons (fun H h => by
    have a : ∀ H, IsAll H (ys ++ [v]) (ds ++ [y]) → IsAll H ys ds ∧ Is H v y := fun H q => by
      have q1 := q.take ys.length
      have q2 := q.drop ys.length
      rw [List.take_left, hy, List.take_left] at q1
      rw [List.drop_left, hy, List.drop_left] at q2
      cases q2 with | cons b _ => exact ⟨q1, b⟩
    exact Sep.cons (fun H h => h.imp fun H q => (a H q).1) (Sep.out (c := ims (ys ++ [v]) (ds ++ [y])) pers_im (fun H q => (a H q).2) h)) S
  exact Sep.cons (fun _ h => Sep.lsC h) S.swap
theorem s_lastD {K : PySem.W.Frag} {p : Addr} {ds : List PyData} {y : PyData} {F cs : List As} {H : Hp} {Q : VK} (S : Sep cs H) (w : Wk cs (lsI p (ds ++ [y]) :: F)) (k : ∀ v, Sep (im v y :: lsI p (ds ++ [y]) :: F) H → Q v H) : rIx K (.ref p) (.int (-1)) H Q := by
  obtain ⟨xs, S⟩ := Sep.lsO (w.sep S)
  have hl := S.imsLen (xs := xs) (Pick.there Pick.here)
  rw [List.length_append] at hl
  have hl : xs.length = ds.length + 1 := hl
  obtain ⟨ys, v, rfl⟩ : ∃ ys v, xs = ys ++ [v] := by
    have hne : xs ≠ [] := fun e => by rw [e] at hl; cases hl
    exact ⟨_, _, (List.dropLast_concat_getLast hne).symm⟩
  have hy : ys.length = ds.length := by rw [List.length_append] at hl; exact Nat.succ.inj hl
  refine s_ixL S Pick.here (atI_last ys v) (k v ?_)
  have S1 : Sep (ims (ys ++ [v]) (ds ++ [y]) :: pt p (.lst (ys ++ [v])) :: F) H := S.swap
  obtain ⟨d, hd, S2⟩ := Sep.imsAt S1 (i := ys.length) (x := v) (by simp)
  rw [hy] at hd
  have hd : d = y := by simpa using hd.symm
  subst hd
  exact Sep.cons (fun _ h => Sep.lsC h.swap) S2
end L2.Zs
namespace L2.Zs
open PySem PySem.Spec PyProof.Rows
/-! # a plan of the parts; a world, gone through -/
def spPlanOf (ad : Ad) : Sp := fun vs H Q E => ∃ (t a b : Addr) (d : Pd) (ls : List PySem.Str) (xs : List V) (gs : List Pr) (F : List As), vs = [.ref t] ∧ PaOk d ls gs ∧ Sep (partC t a b d ls xs gs F) H ∧
  ∀ (PP : PL) (H' : Hp), PP.d = d → PP.o.dict = none → Sep (planC ad PP (partC t a b d ls xs gs F)) H' → Q (.ref PP.p) H'
theorem len_planof {ad : Ad} {vs H Q E} (h : spPlanOf ad vs H Q E) : vs.length = 1 := by obtain ⟨t, a, b, d, ls, xs, gs, F, rfl, _⟩ := h; rfl
def Due := Option (Except Er (List Tl))
def dueD : Option (Except Er (List Tl)) → PyData
  | none => .none
  | some (.ok ts) => .list (ts.map Tl.d)
  | some (.error e) => .str e.s
/-- what comes of the last deed -/
def Hs.lastD : Hs → List Dd → Option (Except Er (List Tl)) → Option (Except Er (List Tl))
  | _, [], o => o
  | h, x :: ds, _ => match h.step x with
    | .error e => h.lastD ds (some (.error e))
    | .ok (ts, h') => h'.lastD ds (some (.ok ts))
theorem Hs.lastD_ok {h h' : Hs} {x : Dd} {ts : List Tl} {ds : List Dd} {o} (e : h.step x = .ok (ts, h')) : h.lastD (x :: ds) o = h'.lastD ds (some (.ok ts)) := by rw [lastD, e]
theorem Hs.lastD_err {h : Hs} {x : Dd} {e : Er} {ds : List Dd} {o} (s : h.step x = .error e) : h.lastD (x :: ds) o = h.lastD ds (some (.error e)) := by rw [lastD, s]
theorem Hs.lastD_snoc (ds : List Dd) (x : Dd) : ∀ (h : Hs) (o : Option (Except Er (List Tl))), h.lastD (ds ++ [x]) o = (match (h.goes ds).step x with | .error e => some (.error e) | .ok (ts, _) => some (.ok ts)) := by
  induction ds with
  | nil =>
    intro h o
    show h.lastD [x] o = (match h.step x with | .error e => some (.error e) | .ok (ts, _) => some (.ok ts))
    cases s : h.step x with
    | error e => rw [Hs.lastD_err s]; rfl
    | ok p => obtain ⟨ts, g⟩ := p; rw [Hs.lastD_ok s]; rfl
  | cons y ds ih =>
    intro h o
    rw [List.cons_append]
    cases s : h.step y with
    | error e => rw [Hs.lastD_err s, Hs.goes_err s]; exact ih _ _
    | ok p => obtain ⟨ts, g⟩ := p; rw [Hs.lastD_ok s, Hs.goes_ok s]; exact ih _ _
theorem Hs.goes_runs {ds : List Dd} : ∀ {h h' : Hs}, h.runs ds = .ok h' → h.goes ds = h' := by
  induction ds with
  | nil => intro h h' e; cases e; rfl
  | cons d ds ih =>
    intro h h' e
    cases s : h.step d with
    | error x => rw [Hs.runs_err s] at e; cases e
    | ok p =>
      obtain ⟨ts, g⟩ := p
      rw [Hs.runs_ok s] at e
      rw [Hs.goes_ok s]; exact ih e
def spGone (ad : Ad) : Sp := fun vs H Q E => ∃ (t a b dp : Addr) (d : Pd) (ls : List PySem.Str) (xs : List V) (gs : List Pr) (ds : List Dd) (F : List As), vs = [.ref t, .ref dp] ∧ PaOk d ls gs ∧ ds.length ≤ 100000 ∧ Sep (lsI dp (ds.map Dd.d) :: partC t a b d ls xs gs F) H ∧
  ∀ (M : WM) (v : V) (tt : Addr) (H' : Hp), WK M (Hs.new d) → Sep (pt tt (.tup [.ref M.p, v]) :: dq v (dueD ((Hs.new d).lastD ds none)) :: worC M ((Hs.new d).goes ds) (lsI dp (ds.map Dd.d) :: partC t a b d ls xs gs F)) H' → Q (.ref tt) H'
theorem len_gone {ad : Ad} {vs H Q E} (h : spGone ad vs H Q E) : vs.length = 2 := by obtain ⟨t, a, b, dp, d, ls, xs, gs, ds, F, rfl, _⟩ := h; rfl
/-! # what a keeper tells -/
inductive E4 | line | switch | notso | left
  deriving DecidableEq
def E4.of : Er → E4
  | .line => .line | .switch => .switch | .notso => .notso
def E4.s : E4 → PySem.Str
  | .line => "NoLine" | .switch => "NoSwitch" | .notso => "NotSo" | .left => "NothingLeft"
theorem E4.of_s (e : Er) : (E4.of e).s = e.s := by cases e <;> rfl
def E4.ix : E4 → Nat
  | .line => 0 | .switch => 1 | .notso => 2 | .left => 3
def e4A (ad : Ad) (ak : Ak) : E4 → Addr
  | .line => ad.NoLine | .switch => ad.NoSwitch | .notso => ad.NotSo | .left => ak.NothingLeft
theorem e4A_of (ad : Ad) (ak : Ak) (e : Er) : e4A ad ak (E4.of e) = erA ad e := by cases e <;> rfl
structure Kin4 (K : PySem.W.Frag) (ad : Ad) (ak : Ak) : Prop where
  ex : ∀ e : E4, PySem.W.exmOne K (.ref (e4A ad ak e)) (.ref ad.HallError) = some true
  ei : ∀ e : E4, XI K (e4A ad ak e)
  ek : ∀ e e' : E4, PySem.W.kitOne K (.ref (e4A ad ak e)) (.ref (e4A ad ak e')) = some (decide (e = e'))
  en : ∀ (e : E4), ∀ c ∈ [ad.BadPlan, ad.NoFigure, ad.NoRow, ad.NoText], PySem.W.kitOne K (.ref (e4A ad ak e)) (.ref c) = some false
/-- what is done at a keeper -/
inductive Kw | act (x : Dd) | back | again
def Kw.s : Kw → PySem.Str
  | .act _ => "do" | .back => "back" | .again => "again"
def Kw.dd : Kw → PyData
  | .act x => x.d | _ => .none
inductive KStep (d : Pd) (k : Kp) : Kw → PyData → PySem.Str → Kp → Prop
  | doOk {x ts h'} : k.h.step x = .ok (ts, h') → KStep d k (.act x) (.list (ts.map Tl.d)) "" ⟨h', []⟩
  | doErr {x e} : k.h.step x = .error e → KStep d k (.act x) .none e.s k
  | backNo : k.h.done = [] → KStep d k .back .none "NothingLeft" k
  | back {ds x h'} : k.h.done = ds ++ [x] → (Hs.new d).runs ds = .ok h' → KStep d k .back .none "" ⟨h', k.back ++ [x]⟩
  | againNo : k.back = [] → KStep d k .again .none "NothingLeft" k
  | again {bs x ts h'} : k.back = bs ++ [x] → k.h.step x = .ok (ts, h') → KStep d k .again (.list (ts.map Tl.d)) "" ⟨h', bs⟩
theorem KStep.ok {d : Pd} {n : Nat} {k k' : Kp} {w : Kw} {dt : PyData} {nm : PySem.Str} (o : KOk d n k) (pd : PdOk d) (s : KStep d k w dt nm k') : KOk d (n + 1) k' := by
  cases s with
  | doOk e => exact o.do e
  | doErr _ => exact o.le (Nat.le_succ _)
  | backNo _ => exact o.le (Nat.le_succ _)
  | back e r =>
    obtain ⟨h2, r2, o2, _⟩ := o.back pd e
    rw [r] at r2
    cases r2
    exact o2.le (Nat.le_succ _)
  | againNo _ => exact o.le (Nat.le_succ _)
  | again e r =>
    obtain ⟨ts, h2, r2, o2⟩ := o.again e
    rw [r] at r2
    cases r2
    exact o2.le (Nat.le_succ _)
section
variable (ad : Ad) (ak : Ak)
def spKTold : Sp := fun vs H Q E => ∃ (p : Addr) (PP : PL) (n : Nat) (k : Kp) (w : Kw) (dv : V) (F : List As), vs = [.ref p, .str w.s, dv] ∧ PdOk PP.d ∧ PP.o.dict = none ∧ KOk PP.d n k ∧ n ≤ 9000 ∧ Sep (im dv w.dd :: kpC ak ad p PP k :: planC ad PP F) H ∧
  ∀ (dt : PyData) (nm : PySem.Str) (k' : Kp) (v : V) (tt : Addr) (H' : Hp), KStep PP.d k w dt nm k' → Sep (pt tt (.tup [v, .str nm]) :: dq v dt :: im dv w.dd :: kpC ak ad p PP k' :: planC ad PP F) H' → Q (.ref tt) H'
def spKStep : Sp := fun vs H Q E => ∃ (p t a b dp bp : Addr) (PP : PL) (ls : List PySem.Str) (xs : List V) (gs : List Pr) (n : Nat) (k : Kp) (w : Kw) (dv : V) (F : List As), vs = [.ref p, .ref t, .ref dp, .ref bp, .str w.s, dv] ∧ PaOk PP.d ls gs ∧ PP.o.dict = none ∧ KOk PP.d n k ∧ n ≤ 9000 ∧
  Sep (lsI dp (k.h.done.map Dd.d) :: lsI bp (k.back.map Dd.d) :: im dv w.dd :: kpC ak ad p PP k :: planC ad PP (partC t a b PP.d ls xs gs F)) H ∧
  ∀ (k' : Kp) (H' : Hp), KOk PP.d (n + 1) k' → Sep (lsI dp (k'.h.done.map Dd.d) :: lsI bp (k'.back.map Dd.d) :: im dv w.dd :: kpC ak ad p PP k' :: planC ad PP (partC t a b PP.d ls xs gs F)) H' → Q (.bl true) H'
end
theorem len_ktold {ad ak vs H Q E} (h : spKTold ad ak vs H Q E) : vs.length = 3 := by obtain ⟨_, _, _, _, _, _, _, rfl, _⟩ := h; rfl
theorem len_kstep {ad ak vs H Q E} (h : spKStep ad ak vs H Q E) : vs.length = 6 := by obtain ⟨_, _, _, _, _, _, _, _, _, _, _, _, _, _, _, rfl, _⟩ := h; rfl
/-! # list.count of truths -/
def eqb (k : Bool) (v : Value) : Bool := match v with
  | .bool b => b == k
  | _ => false
theorem bools_of : ∀ {bs : List Bool} {us : List Value}, Vals (bs.map V.bl) us → us = bs.map Value.bool := Vals.bls
theorem eqb_count {k : Bool} : ∀ bs : List Bool, (bs.map Value.bool).countP (eqb k) = bs.count k
  | [] => rfl
  | b :: bs => by
    rw [List.map_cons, List.countP_cons, List.count_cons, eqb_count bs]
    rfl
def rCntB (K : PySem.W.Frag) : V → List V → Hp → VK → Prop := fun x xs H Q => ∃ (p : Addr) (bs : List Bool) (k : Bool), x = .ref p ∧ xs = [.bl k] ∧ SqL K H p (bs.map V.bl) ∧ Q (.int (bs.count k : Nat)) H
theorem mt_countB {X : Cx} {K : PySem.W.Frag} (hK : X.K = K) : MtR X "list.count" (rCntB K) := by
  subst hK
  intro pins s σ H x xs v us Q I rx rxs h
  obtain ⟨p, bs, k, rfl, rfl, hs, q⟩ := h
  cases rx
  obtain ⟨u, rfl, ru⟩ := rxs.one
  cases ru
  obtain ⟨its, rv, ⟨⟨cls, dd, data, sl⟩, n, ho, hc, hdn, hd⟩, hlen⟩ := I.list hs
  simp only at hc hd
  subst hc hd
  have hi := Vals.bls rv
  subst hi
  refine call_meets PySem.F.slot_list_count ⟨_, ho, rfl⟩ PySem.F.entry_list_count (PySem.F.args_list_count_2 _ _)
    (SeqAt.list_countAt p (bs.map Value.bool).toArray n dd sl (.bool k) (eqb k)) ⟨ho, fun y hy => (by
      have hy : y ∈ bs.map Value.bool := by simpa using hy
      obtain ⟨b, _, rfl⟩ := List.mem_map.mp hy
      exact SeqAt.EqAt.bool_bool b k), ?_⟩
  have ec : (bs.map Value.bool).toArray.toList.countP (eqb k) = bs.count k := eqb_count bs
  refine ⟨.int (bs.count k : Nat), H, I.tok _, ⟨s.toks, ?_⟩, q⟩
  show Value.int ((((bs.map Value.bool).toArray.toList.countP (eqb k)) : Nat) : Int) s.toks = Value.int ((bs.count k : Nat) : Int) s.toks
  rw [ec]
theorem s_mtK {Cs : List Addr} {m : PySem.Str} {R : Addr → Hp → Prop} {ak : Ak} {ad : Ad} {p : Addr} {PP : PL} {k : Kp} {cs ds : List As} {H : Hp} (S : Sep cs H) (q : Pick (kpC ak ad p PP k) cs ds) (hC : ak.Keeper ∈ Cs) (h : m ∉ keepFN) (kk : R ak.Keeper H) : MtGo Cs m (.ref p) R H := by
  obtain ⟨dx, bp, B, _, _, S1⟩ := Sep.kpO (S.pick q)
  exact s_mtA S1 Pick.here hC inferInstance h kk
section
variable {K : PySem.W.Frag} {H : Hp} {Q : VK} {dp n : Addr} {dv : V} {x : Dd} {ds : List Dd} {cs es F : List As}
theorem s_ddCat (S : Sep cs H) (w : Wk cs (lsI dp (ds.map Dd.d) :: pt n (.lst [dv]) :: im dv x.d :: F)) (h : ds.length ≤ 100000) (k : ∀ p H', Sep (lsI p ((ds ++ [x]).map Dd.d) :: lsI dp (ds.map Dd.d) :: im dv x.d :: F) H' → Q (.ref p) H') : rAddZ (.ref dp) (.ref n) H Q := by
  obtain ⟨xs, S⟩ := Sep.lsO (w.sep S)
  have xl := S.imsLen (xs := xs) (Pick.there Pick.here)
  rw [List.length_map] at xl
  refine s_addL S Pick.here (Pick.there (Pick.there Pick.here)) (by rw [xl]; exact Nat.le_trans (show ds.length + 1 ≤ 100001 by omega) (by decide)) fun p H S => k p H ?_
  have S : Sep (ims xs (ds.map Dd.d) :: im dv x.d :: pt p (.lst (xs ++ [dv])) :: pt dp (.lst xs) :: F) H :=
    Wk.sep (.pick (.there (.there .here)) (.pick (.there (.there (.there .here))) (.pick .here (.pick .here (.drop .refl))))) S
  have S := Sep.dupP pers_ims S
  have S := Sep.cons (fun _ h => Sep.cons (fun _ h => Sep.dupP pers_im h) h) S
  have S : Sep (ims xs (ds.map Dd.d) :: im dv x.d :: im dv x.d :: pt p (.lst (xs ++ [dv])) :: pt dp (.lst xs) :: ims xs (ds.map Dd.d) :: F) H :=
    Wk.sep (.pick .here (.pick (.there .here) (.pick (.there .here) (.pick (.there .here) (.pick (.there .here) (.pick .here .refl)))))) S
  have S := Sep.imsP S
  rw [show ds.map Dd.d ++ [x.d] = (ds ++ [x]).map Dd.d by simp] at S
  have S : Sep (pt p (.lst (xs ++ [dv])) :: ims (xs ++ [dv]) ((ds ++ [x]).map Dd.d) :: pt dp (.lst xs) :: ims xs (ds.map Dd.d) :: im dv x.d :: F) H :=
    Wk.sep (.pick (.there (.there .here)) (.pick .here (.pick (.there .here) (.pick (.there .here) (.pick .here .refl))))) S
  exact Sep.lsC (Sep.cons (fun _ h => Sep.cons (fun _ h => Sep.lsC h) h) S)
theorem s_clearD {ps : List PyData} (S : Sep cs H) (w : Wk cs (lsI dp ps :: F)) (k : ∀ H', Sep (lsI dp ([] : List PyData) :: F) H' → Q .non H') : rClear (.ref dp) [] H Q := by
  obtain ⟨xs, S⟩ := Sep.lsO (w.sep S)
  refine ⟨dp, xs, rfl, rfl, S.get Pick.here, k _ ?_⟩
  have S := S.set (o' := .lst []) Chg.here rfl
  exact Sep.lsC (Sep.cons (fun _ h => h.tail.ims0) S)
theorem s_isDS {a : Addr} {d : List PyData} (h : Dq H (.ref a) (.list d)) (k : Q (.bl false) H) : rIsi K [.ref a, .ty "str"] H Q := by
  cases h with
  | lst e r => exact isi_b (.base (.lst e)) (by decide +kernel) k
end
theorem im_ref {H : Hp} {v : V} {x : Dd} (h : Is H v x.d) : ∃ t, v = .ref t := by
  rw [x.d_eq] at h
  cases h with
  | tup _ _ => exact ⟨_, rfl⟩
theorem shaped_ts {ts : List Tl} (h : ∀ t ∈ ts, t.tx) : SeqAt.shaped (.tuple [.list (ts.map Tl.d), .str ""]) = true := by
  have a : PyData.canLay0 (.tuple [.list (ts.map Tl.d), .str ""]) = true := lay_tup fun d hd => by
    simp only [List.mem_cons, List.not_mem_nil, or_false] at hd
    rcases hd with rfl | rfl
    · exact lay_lst fun d hd => by
        obtain ⟨t, ht, rfl⟩ := List.mem_map.mp hd
        exact Tl.lay (h t ht)
    · exact tz_nil
  have b : PyData.depth (.tuple [.list (ts.map Tl.d), .str ""]) ≤ 64 := by
    have : PyData.depthAll (ts.map Tl.d) ≤ 3 := depthAll_le fun d hd => by
      obtain ⟨t, ht, rfl⟩ := List.mem_map.mp hd
      exact Tl.depth t
    show max (PyData.depthAll (ts.map Tl.d) + 1) (max 0 0) + 1 ≤ 64
    omega
  unfold SeqAt.shaped
  rw [a, decide_eq_true b]; rfl
theorem shaped_ne (e : Er) : SeqAt.shaped (.tuple [.none, .str e.s]) = true := by cases e <;> decide +kernel
theorem shaped_n0 : SeqAt.shaped (.tuple [.none, .str ""]) = true := by decide +kernel
theorem shaped_nl : SeqAt.shaped (.tuple [.none, .str "NothingLeft"]) = true := by decide +kernel
/-- two pairs of the same data -/
theorem s_nePP {K : PySem.W.Frag} {H : Hp} {Q : VK} {a b : Addr} {v v2 : V} {z : PySem.Str} {d : PyData} {cs c1 c2 : List As} (S : Sep cs H) (p : Pick (pt a (.tup [v, .str z])) cs c1) (q : Pick (pt b (.tup [v2, .str z])) cs c2) (h1 : Dq H v d) (h2 : Dq H v2 d) (sh : SeqAt.shaped (.tuple [d, .str z]) = true) (k : Q (.bl false) H) : rNeZ K (.ref a) (.ref b) H Q := by
  refine s_neD (.tup (SqT.of (S.get p)) (.cons h1.dp (.cons (.str z) .nil))) (.tup (SqT.of (S.get q)) (.cons h2.dp (.cons (.str z) .nil))) sh sh ?_
  rw [eqv_same sh]
  exact k
end L2.Zs
namespace L2.Zs
open PySem PySem.Spec PyProof.Rows
/-! # the tones of an answer -/
theorem toned_filter : ∀ (ts : List Tl) (p : List Int × List Int), toned p (ts.filter Tl.isTone) = toned p ts
  | [], _ => rfl
  | t :: ts, p => by
    cases h : t.isTone with
    | true =>
      rw [List.filter_cons_of_pos h]
      exact toned_filter ts (toned1 p t)
    | false =>
      rw [List.filter_cons_of_neg (by rw [h]; decide)]
      rw [toned_filter ts p]
      show toned p ts = toned (toned1 p t) ts
      rw [show toned1 p t = p by cases t <;> first | rfl | cases h]
theorem tw_isTone (t : Tl) : decide (t.word = "tone") = t.isTone := by
  cases t <;> first | rfl | (show decide _ = false; decide +kernel) | (show decide _ = true; decide +kernel)
theorem toned_len {p : List Int × List Int} {ts : List Tl} : (toned p ts).1.length = p.1.length ∧ (toned p ts).2.length = p.2.length := by
  induction ts generalizing p with
  | nil => exact ⟨rfl, rfl⟩
  | cons t ts ih =>
    have := ih (p := toned1 p t)
    show (toned (toned1 p t) ts).1.length = _ ∧ (toned (toned1 p t) ts).2.length = _
    rw [this.1, this.2]
    cases t <;> first | exact ⟨rfl, rfl⟩ | (show (List.set _ _ _).length = _ ∧ (List.set _ _ _).length = _; simp)
theorem toned_snoc {p : List Int × List Int} {ts : List Tl} {t : Tl} : toned p (ts ++ [t]) = toned1 (toned p ts) t := by
  unfold toned; rw [List.foldl_append]; rfl
theorem lay_one {k : Nat} : SeqAt.shaped (.list [trD (("" : PySem.Str), k)]) = true := by
  have : PyData.canLay0 (.str "") = true := tz_nil
  unfold SeqAt.shaped
  rw [show PyData.canLay0 (.list [trD (("" : PySem.Str), k)]) = true by
    show (PyData.canLay0 (trD (("" : PySem.Str), k)) && true) = true
    rw [show PyData.canLay0 (trD (("" : PySem.Str), k)) = true by show (PyData.canLay0 (.str "") && true) = true; rw [this]; rfl]; rfl]
  rfl
theorem Sep.tkL {t : Addr} {k : Nat} {F : List As} {H : Hp} (S : Sep (pt t (.tup [.str "", .int k]) :: F) H) : Sep (im (.ref t) (trD (("" : PySem.Str), k)) :: F) H := Sep.imF S
/-- the list of one pair -/
theorem Sep.oneI {l t : Addr} {d : PyData} {F : List As} {H : Hp} (S : Sep (pt l (.lst [.ref t]) :: im (.ref t) d :: F) H) : Sep (lsI l [d] :: F) H :=
  Sep.lsC (Sep.cons (fun _ h => Sep.imsC (Sep.cons (fun _ h => h.ims0) h)) S)
/-- when a seeker's number is within -/
theorem step_tk {h h' : Hs} (o : h.Ok) {d : Dd} {ts : List Tl} (e : h.step d = .ok (ts, h')) {l : PySem.Str} {k : Nat} {s : Int} (m : Tl.tone l k s ∈ ts) :
    l ∈ h'.lines ∧ (h'.ln l).train = [(("" : PySem.Str), k)] ∧ (h'.rk "").brk[k]? = some false ∧ k < (h'.rk "").brk.length ∧ 0 ≤ s ∧ s < (h'.lines.length : Int) := by
  obtain ⟨a, b, c, d, e⟩ := (step_seek o e).2.2 l k s m
  exact ⟨a, b, c, (List.getElem?_eq_some_iff.mp c).1, d, e⟩
theorem shQ {h : Hs} (o : h.Ok) (tx : h.Tx) : ∀ v ∈ h.queue.map V.str, okV v = true := o.okQ
/-- what the deed does to the seekers' switches -/
theorem brk_sw {h h' : Hs} (o : h.Ok) {b : Bool} {w : PySem.Str} {k : Int} {ts : List Tl} (e : h.step (.sw b w k) = .ok (ts, h')) : w ∈ h.wheres ∧ 0 ≤ k ∧ k < ((h.rk w).held.length : Int) := by
  unfold Hs.step Hs.act at e
  by_cases c : w ∈ h.wheres ∧ 0 ≤ k ∧ k < ((h.rk w).held.length : Int)
  · exact c
  · simp only [c, if_false] at e
    cases e
theorem s_cut2 {t1 t2 t3 : TS} {D : Ends} {σ : St} {H : Hp} (M : St → Hp → Prop) (h3 : ∀ σ H, M σ H → t3 D σ H) (h1 : ∀ N : St → Hp → Prop, (∀ σ H, M σ H → N σ H) → tSeq t1 t2 { D with nx := N } σ H) : tSeq t1 (tSeq t2 t3) D σ H := h1 _ h3
theorem Sep.imStrs {t : Addr} {zs : List PySem.Str} {F : List As} {H : Hp} (S : Sep (im (.ref t) (.tuple (zs.map .str)) :: F) H) : Sep (pt t (.tup (zs.map V.str)) :: F) H := by
  obtain ⟨xs, S⟩ := Sep.imO S
  have e := (S.imsGet (Pick.there Pick.here)).strs
  subst e
  exact Sep.cons (fun _ h => h.tail) S
theorem lift_len {h h' : Hs} {l : PySem.Str} {ts : List Tl} (e : h.lift l = .ok (ts, h')) : ts.length ≤ 2 := by
  unfold Hs.lift at e
  cases w : (h.ln l).way <;> rw [w] at e <;> first
    | (cases e; done)
    | (cases e; simp)
theorem pulse_len {h h' : Hs} {l : PySem.Str} {ts : List Tl} (e : h.pulse l = .ok (ts, h')) : ts.length ≤ 2 := by
  unfold Hs.pulse at e
  cases w : (h.ln l).way <;> rw [w] at e <;> first
    | (cases e; done)
    | (simp only at e
       split at e <;> (cases e; simp))
theorem gap_len {h h' : Hs} {l : PySem.Str} {ts : List Tl} (e : h.gap l = .ok (ts, h')) : ts.length ≤ 2 := by
  unfold Hs.gap at e
  cases w : (h.ln l).way <;> rw [w] at e <;> first
    | (cases e; done)
    | (simp only at e
       split at e
       · cases e
       · split at e
         · cases e; simp
         · split at e <;> (cases e; simp))
theorem hang_len {h h' : Hs} {l : PySem.Str} {ts : List Tl} (e : h.hang l = .ok (ts, h')) : ts.length ≤ 2 := by
  unfold Hs.hang at e
  cases w : (h.ln l).way <;> rw [w] at e <;> first
    | (cases e; done)
    | (simp only at e
       split at e
       · cases e; simp
       · split at e <;> (cases e; simp))
theorem act_len {h h' : Hs} {d : Dd} {ts : List Tl} (e : h.act d = .ok (ts, h')) : ts.length ≤ 2 := by
  unfold Hs.act at e
  cases d with
  | ln w l =>
    dsimp only at e
    unfold Hs.atLine at e
    split at e
    · cases e
    · cases w with
      | lift => exact lift_len e
      | hang => exact hang_len e
      | pulse => exact pulse_len e
      | gap => exact gap_len e
  | sw b w k =>
    dsimp only at e
    split at e
    · cases e; simp
    · cases e
theorem step_len {h h' : Hs} (o : h.Ok) {d : Dd} {ts : List Tl} (e : h.step d = .ok (ts, h')) : ts.length ≤ 1000 := by
  unfold Hs.step at e
  split at e
  · cases e
  · next ts1 h1 e1 =>
    cases e
    have a := act_len e1
    have b := Hs.tones_len h1.queue.length (h1.noted d)
    have c := (Hs.act_ok o e1).qlen
    rw [List.length_append]
    omega
theorem okIs (zs : List Int) : ∀ v ∈ zs.map V.int, okV v = true := fun v hv => by obtain ⟨j, _, rfl⟩ := List.mem_map.mp hv; rfl
theorem z_stk : ∀ {b : Bool} {w : PySem.Str} {k : Int}, decide ((Dd.sw b w k).z = Str.ofString "stick") = b
  | true, _, _ => (show decide (("stick" : PySem.Str) = Str.ofString "stick") = true by decide +kernel)
  | false, _, _ => (show decide (("mend" : PySem.Str) = Str.ofString "stick") = false by decide +kernel)
instance stp_chain2 {r r' : R2} {ta tb tc : TE} {σ : St} {H : Hp} {Q : VK} : Stp (tChain r r' ta tb tc σ H Q) (ta σ H fun x H1 => tb σ H1 fun y H2 => r x y H2 fun z H3 => ∃ k, z = .bl k ∧ (if k = true then tc σ H3 fun w' H4 => r' y w' H4 Q else Q (.bl false) H3)) := ⟨id⟩
end L2.Zs
namespace L2.Zs
open PySem PySem.Spec PyProof.Rows
/-! # a hang, looked at -/
theorem tones_way (m : Nat) (h : Hs) (o : h.Ok) : ∀ x, (Hs.tones m h).2.ln x = h.ln x ∨ ((h.ln x).way = .waits ∧ ((Hs.tones m h).2.ln x).way = .dials) := by
  refine tones_ind (Pr := fun m h r => ∀ x, r.2.ln x = h.ln x ∨ ((h.ln x).way = .waits ∧ (r.2.ln x).way = .dials)) (fun m h _ _ x => .inl rfl) (fun m h l qs k r o q f ih x => ?_) m h o
  have hw : (h.ln l).way = .waits := ((o.q l).mp (by rw [q]; exact List.mem_cons_self)).2
  by_cases e : x = l
  · subst e
    have e1 : ((h.tone1 x k).ln x).way = .dials := by
      show (up h.ln x _ x).way = _
      rw [up_same]
    refine .inr ⟨hw, ?_⟩
    rcases ih x with i | i
    · show (r.2.ln x).way = _
      rw [i]; exact e1
    · rw [e1] at i; cases i.1
  · have e1 : (h.tone1 l k).ln x = h.ln x := up_ne e
    rw [← e1]
    exact ih x
/-- what is free stays free, or a tone takes it -/
theorem tones_free (m : Nat) (h : Hs) (o : h.Ok) : ∀ (w : PySem.Str) (k : Nat), (h.rk w).held[k]? = some none → ((Hs.tones m h).2.rk w).held[k]? = some none ∨ (w = "" ∧ ∃ l s, Tl.tone l k s ∈ (Hs.tones m h).1) := by
  refine tones_ind (Pr := fun m h r => ∀ (w : PySem.Str) (k : Nat), (h.rk w).held[k]? = some none → (r.2.rk w).held[k]? = some none ∨ (w = "" ∧ ∃ l s, Tl.tone l k s ∈ r.1)) (fun m h _ _ w k e => .inl e) (fun m h l qs j r o q f ih w k e => ?_) m h o
  by_cases c : w = "" ∧ k = j
  · obtain ⟨rfl, rfl⟩ := c
    exact .inr ⟨rfl, l, _, List.mem_cons_self⟩
  · have e1 : ((h.tone1 l j).rk w).held[k]? = some none := by
      show ((up h.rk "" ((h.rk "").give j l)) w).held[k]? = _
      by_cases cw : w = ""
      · subst cw
        rw [up_same]
        show ((h.rk "").held.set j (some l))[k]? = _
        rw [List.getElem?_set_ne (fun z => c ⟨rfl, z.symm⟩)]
        exact e
      · rw [up_ne cw]; exact e
    rcases ih w k e1 with i | ⟨i, l2, s, i2⟩
    · exact .inl i
    · exact .inr ⟨i, l2, s, List.mem_cons_of_mem _ i2⟩
theorem free_all {rk : PySem.Str → Rc} {ps : List (PySem.Str × Nat)} {w : PySem.Str} {k : Nat} (m : (w, k) ∈ ps) (hk : k < (rk w).held.length) : (freeRk rk ps w).held[k]? = some none := by
  have hl : k < (freeRk rk ps w).held.length := by rw [(freeRk_len ps rk w).1]; exact hk
  cases e : (freeRk rk ps w).held[k]? with
  | none => rw [List.getElem?_eq_getElem hl] at e; cases e
  | some x =>
    cases x with
    | none => rfl
    | some l => exact absurd m ((freeRk_at ps rk w k l).mp e).2
theorem free_stay {rk : PySem.Str → Rc} {ps : List (PySem.Str × Nat)} {w : PySem.Str} {k : Nat} (e : (rk w).held[k]? = some none) : (freeRk rk ps w).held[k]? = some none := by
  have hk : k < (rk w).held.length := (List.getElem?_eq_some_iff.mp e).1
  have hl : k < (freeRk rk ps w).held.length := by rw [(freeRk_len ps rk w).1]; exact hk
  cases e2 : (freeRk rk ps w).held[k]? with
  | none => rw [List.getElem?_eq_getElem hl] at e2; cases e2
  | some x =>
    cases x with
    | none => rfl
    | some l => have := ((freeRk_at ps rk w k l).mp e2).1; rw [e] at this; cases this
theorem said_free {r : Rc} {k : Nat} (e : r.held[k]? = some none) : r.said k = "stuck" ∨ r.said k = "free" := by
  unfold Rc.said
  rw [List.getD_eq_getElem?_getD, e]
  show (if r.brk.getD k false = true then ("stuck" : PySem.Str) else "free") = "stuck" ∨ _
  split
  · exact .inl rfl
  · exact .inr rfl
theorem paper_at {r : Rc} {k : Nat} (hk : k < r.held.length) : r.paper[k]? = some (r.said k) := by
  unfold Rc.paper
  rw [List.getElem?_map, List.getElem?_range hk]; rfl
/-- the other end's holdings -/
def oTr (h : Hs) (l : PySem.Str) : List (PySem.Str × Nat) := match (h.ln l).en with
  | none => []
  | some p => (h.ln p).train
structure HangR (h h' : Hs) (l : PySem.Str) (us : List Tl) : Prop where
  way : (h'.ln l).way = .rests
  free : ∀ p ∈ (h.ln l).train ++ oTr h l, p.1 ∈ h'.wheres ∧ p.2 < (h'.rk p.1).held.length ∧ ((p.1 = "" ∧ ∃ x s, Tl.tone x p.2 s ∈ us) ∨ (h'.rk p.1).said p.2 = "stuck" ∨ (h'.rk p.1).said p.2 = "free")
  rings : (h.ln l).way = .rings → ∃ p vs, (h.ln l).en = some p ∧ us = .quiet p :: vs ∧ (h'.ln p).way = .rests ∧ p ∈ h'.lines
  talks : (h.ln l).way = .talks → ∃ p vs, (h.ln l).en = some p ∧ us = .waits p :: vs ∧ ((h'.ln p).way = .waits ∨ (h'.ln p).way = .dials) ∧ p ∈ h'.lines
  else_ : (h.ln l).way ≠ .rings → (h.ln l).way ≠ .talks → ∀ t ∈ us, t.isTone = true
  other : ∀ x, x ≠ l → (h'.ln x).way = (h.ln x).way ∨ (h'.ln x).way = .rests ∨ (h'.ln x).way = .waits ∨ (h'.ln x).way = .dials
  alone : (h.ln l).en = none → ∀ x, x ≠ l → (h'.ln x).way = (h.ln x).way ∨ ((h.ln x).way = .waits ∧ (h'.ln x).way = .dials)
theorem hang_sees {h : Hs} (o : h.Ok) {l : PySem.Str} (hl : l ∈ h.lines) (w1 : (h.ln l).way ≠ .rests) (w2 : (h.ln l).way ≠ .rung) :
    ∃ us h', h.step (.ln .hang l) = .ok (.rests l :: us, h') ∧ HangR h h' l us := by
  have ah : ∀ {ts h1}, h.hang l = .ok (ts, h1) → h.act (.ln .hang l) = .ok (ts, h1) := fun e => by
    show h.atLine .hang l = _
    unfold Hs.atLine
    rw [if_neg (fun z => z hl)]; exact e
  have st : ∀ {ts h1}, h.hang l = .ok (ts, h1) → h.step (.ln .hang l) = .ok (ts ++ (Hs.tones h1.queue.length (h1.noted (.ln .hang l))).1, (Hs.tones h1.queue.length (h1.noted (.ln .hang l))).2) := fun e => by
    unfold Hs.step; rw [ah e]
  have at0 : ∀ {ts h1}, h.hang l = .ok (ts, h1) → (h1.noted (.ln .hang l)).Ok := fun e => (Hs.act_ok o (ah e)).noted _
  have kl : ∀ x ∈ h.lines, ∀ p ∈ (h.ln x).train, p.1 ∈ h.wheres ∧ p.2 < (h.rk p.1).held.length := fun x hx p hp => by
    have hw := o.hb.trw x hx p hp
    exact ⟨hw, (List.getElem?_eq_some_iff.mp ((o.hb.hold p.1 hw p.2 x).mpr ⟨hx, hp⟩)).1⟩
  -- what the tones leave of a hall
  have fin : ∀ (g : Hs) (m : Nat), g.Ok → (∀ p ∈ (h.ln l).train ++ oTr h l, (g.rk p.1).held[p.2]? = some none) → g.wheres = h.wheres → ∀ (pre : List Tl),
      ∀ p ∈ (h.ln l).train ++ oTr h l, p.1 ∈ (Hs.tones m g).2.wheres ∧ p.2 < ((Hs.tones m g).2.rk p.1).held.length ∧ ((p.1 = "" ∧ ∃ x s, Tl.tone x p.2 s ∈ pre ++ (Hs.tones m g).1) ∨ ((Hs.tones m g).2.rk p.1).said p.2 = "stuck" ∨ ((Hs.tones m g).2.rk p.1).said p.2 = "free") := by
    intro g m go hf hw pre p hp
    have hwp : p.1 ∈ h.wheres := by
      rcases List.mem_append.mp hp with hp | hp
      · exact (kl l hl p hp).1
      · unfold oTr at hp
        cases en : (h.ln l).en with
        | none => rw [en] at hp; cases hp
        | some q => rw [en] at hp; exact (kl q (o.en hl en).1 p hp).1
    have hz : ∀ w, ((Hs.tones m g).2.rk w).held.length = (g.rk w).held.length := fun w => by
      refine tones_ind (Pr := fun m g r => ∀ w, (r.2.rk w).held.length = (g.rk w).held.length) (fun m h _ _ w => rfl) (fun m g l qs k r o q f ih w => ?_) m g go w
      refine (ih w).trans ?_
      show ((up g.rk "" ((g.rk "").give k l)) w).held.length = _
      by_cases c : w = ""
      · subst c; rw [up_same]; simp [Rc.give]
      · rw [up_ne c]
    refine ⟨by rw [(Hs.tones_shape m g).2.2.1, hw]; exact hwp, ?_, ?_⟩
    · rw [hz]; exact (List.getElem?_eq_some_iff.mp (hf p hp)).1
    · rcases tones_free m g go p.1 p.2 (hf p hp) with e | ⟨e, x, s, e2⟩
      · exact .inr (said_free e)
      · exact .inl ⟨e, x, s, List.mem_append_right _ e2⟩
  cases en : (h.ln l).en with
  | none =>
    have e := Hs.hang_alone en w1 w2
    have g0 := at0 e
    refine ⟨_, _, st e, ?_⟩
    have nr : (h.ln l).way ≠ .rings ∧ (h.ln l).way ≠ .talks := by
      have p := o.per l hl
      generalize h.ln l = r at p en
      cases p <;> first | (cases en; done) | exact ⟨nofun, nofun⟩
    have ln1 : ∀ x, x ≠ l → (up h.ln l ({} : Ln)) x = h.ln x := fun x hx => up_ne hx
    have wl : ∀ m, ((Hs.tones m (({ h with queue := if (h.ln l).way = .waits then h.queue.erase l else h.queue, rk := freeRk h.rk (h.ln l).train, ln := up h.ln l {} } : Hs).noted (.ln .hang l))).2.ln l).way = .rests := fun m => by
      rcases tones_way m _ g0 l with i | i
      · rw [i]; show (up h.ln l ({} : Ln) l).way = _; rw [up_same]
      · have := i.1
        have : (up h.ln l ({} : Ln) l).way = .waits := this
        rw [up_same] at this; cases this
    have al : ∀ m x, x ≠ l → ((Hs.tones m (({ h with queue := if (h.ln l).way = .waits then h.queue.erase l else h.queue, rk := freeRk h.rk (h.ln l).train, ln := up h.ln l {} } : Hs).noted (.ln .hang l))).2.ln x).way = (h.ln x).way ∨ ((h.ln x).way = .waits ∧ ((Hs.tones m (({ h with queue := if (h.ln l).way = .waits then h.queue.erase l else h.queue, rk := freeRk h.rk (h.ln l).train, ln := up h.ln l {} } : Hs).noted (.ln .hang l))).2.ln x).way = .dials) := fun m x hx => by
      have e3 : (({ h with queue := if (h.ln l).way = .waits then h.queue.erase l else h.queue, rk := freeRk h.rk (h.ln l).train, ln := up h.ln l {} } : Hs).noted (.ln .hang l)).ln x = h.ln x := up_ne hx
      have := tones_way m _ g0 x
      rw [e3] at this
      rcases this with i | i
      · exact .inl (by rw [i])
      · exact .inr i
    refine ⟨wl _, ?_, fun z => absurd z nr.1, fun z => absurd z nr.2, fun _ _ => tones_mem _ _ g0, fun x hx => ?_, fun _ x hx => al _ x hx⟩
    · refine fin _ _ g0 (fun p hp => ?_) rfl []
      have hp : p ∈ (h.ln l).train := by
        rcases List.mem_append.mp hp with hp | hp
        · exact hp
        · unfold oTr at hp; rw [en] at hp; cases hp
      exact free_all (rk := h.rk) (ps := (h.ln l).train) hp (kl l hl p hp).2
    · rcases al _ x hx with i | i
      · exact .inl i
      · exact .inr (.inr (.inr i.2))
  | some p =>
    obtain ⟨hp, np, wl0, wp0⟩ := o.en hl en
    have e := Hs.hang_pair en np wl0 w1 w2
    have fr : ∀ q ∈ (h.ln l).train ++ oTr h l, ((freeRk (freeRk h.rk (h.ln l).train) (h.ln p).train) q.1).held[q.2]? = some none := fun q hq => by
      rcases List.mem_append.mp hq with hq | hq
      · exact free_stay (free_all (rk := h.rk) hq (kl l hl q hq).2)
      · unfold oTr at hq
        rw [en] at hq
        have hq : q ∈ (h.ln p).train := hq
        exact free_all hq (by rw [(freeRk_len _ _ _).1]; exact (kl p hp q hq).2)
    by_cases c : (h.ln p).way = .rung
    · rw [if_pos c] at e
      have g0 := at0 e
      refine ⟨_, _, st e, ?_⟩
      have lnl : (up (up h.ln p ({ way := .rests } : Ln)) l ({} : Ln)) l = {} := up_same
      have lnp : (up (up h.ln p ({ way := .rests } : Ln)) l ({} : Ln)) p = {} := by rw [up_ne np, up_same]
      have wf : ∀ m x, (up (up h.ln p ({ way := .rests } : Ln)) l ({} : Ln)) x = {} → ((Hs.tones m (({ h with rk := freeRk (freeRk h.rk (h.ln l).train) (h.ln p).train, ln := up (up h.ln p { way := .rests }) l {} } : Hs).noted (.ln .hang l))).2.ln x).way = .rests := fun m x hx => by
        rcases tones_way m _ g0 x with i | i
        · rw [i]; show ((up (up h.ln p ({ way := .rests } : Ln)) l ({} : Ln)) x).way = _; rw [hx]
        · have := i.1
          have : ((up (up h.ln p ({ way := .rests } : Ln)) l ({} : Ln)) x).way = .waits := this
          rw [hx] at this; cases this
      have nt : (h.ln l).way = .rings := by
        have pl := o.per l hl
        generalize er : h.ln l = r at pl en
        cases pl with
        | rings _ _ _ => rfl
        | talksA _ h2 _ => cases en; rw [h2] at c; cases c
        | talksB _ h2 _ _ => cases en; rw [h2] at c; cases c
        | rung _ _ _ => rw [er] at w2; exact absurd rfl w2
        | _ => cases en
      refine ⟨wf _ l lnl, fin _ _ g0 fr rfl [.quiet p], fun _ => ⟨p, _, en, rfl, wf _ p lnp, ?_⟩, fun z => (by rw [nt] at z; cases z), fun z => absurd nt z, fun x hx => ?_, fun z => (by rw [en] at z; cases z)⟩
      · rw [(Hs.tones_shape _ _).2.1]; exact hp
      · by_cases xp : x = p
        · subst xp; exact .inr (.inl (wf _ x lnp))
        · have e3 : (({ h with rk := freeRk (freeRk h.rk (h.ln l).train) (h.ln p).train, ln := up (up h.ln p { way := .rests }) l {} } : Hs).noted (.ln .hang l)).ln x = h.ln x := by
            show (up (up h.ln p ({ way := .rests } : Ln)) l ({} : Ln)) x = _
            rw [up_ne hx, up_ne xp]
          have := tones_way (h.queue.length) _ g0 x
          rw [e3] at this
          rcases this with i | i
          · exact .inl (by rw [i])
          · exact .inr (.inr (.inr i.2))
    · rw [if_neg c] at e
      have g0 := at0 e
      refine ⟨_, _, st e, ?_⟩
      have lnl : (up (up h.ln p ({ way := .waits } : Ln)) l ({} : Ln)) l = {} := up_same
      have lnp : (up (up h.ln p ({ way := .waits } : Ln)) l ({} : Ln)) p = { way := .waits } := by rw [up_ne np, up_same]
      have wf : ∀ m, ((Hs.tones m (({ h with queue := h.queue ++ [p], rk := freeRk (freeRk h.rk (h.ln l).train) (h.ln p).train, ln := up (up h.ln p { way := .waits }) l {} } : Hs).noted (.ln .hang l))).2.ln l).way = .rests := fun m => by
        rcases tones_way m _ g0 l with i | i
        · rw [i]; show ((up (up h.ln p ({ way := .waits } : Ln)) l ({} : Ln)) l).way = _; rw [lnl]
        · have := i.1
          have : ((up (up h.ln p ({ way := .waits } : Ln)) l ({} : Ln)) l).way = .waits := this
          rw [lnl] at this; cases this
      have wq : ∀ m, ((Hs.tones m (({ h with queue := h.queue ++ [p], rk := freeRk (freeRk h.rk (h.ln l).train) (h.ln p).train, ln := up (up h.ln p { way := .waits }) l {} } : Hs).noted (.ln .hang l))).2.ln p).way = .waits ∨ ((Hs.tones m (({ h with queue := h.queue ++ [p], rk := freeRk (freeRk h.rk (h.ln l).train) (h.ln p).train, ln := up (up h.ln p { way := .waits }) l {} } : Hs).noted (.ln .hang l))).2.ln p).way = .dials := fun m => by
        rcases tones_way m _ g0 p with i | i
        · rw [i]; show ((up (up h.ln p ({ way := .waits } : Ln)) l ({} : Ln)) p).way = _ ∨ _; rw [lnp]; exact .inl rfl
        · exact .inr i.2
      have nt : (h.ln l).way = .talks := by
        have pl := o.per l hl
        generalize er : h.ln l = r at pl en
        cases pl with
        | rings _ h2 _ => cases en; rw [h2] at c; exact absurd rfl c
        | talksA _ _ _ => rfl
        | talksB _ _ _ _ => rfl
        | rung _ _ _ => rw [er] at w2; exact absurd rfl w2
        | _ => cases en
      refine ⟨wf _, fin _ _ g0 fr rfl [.waits p], fun z => (by rw [nt] at z; cases z), fun _ => ⟨p, _, en, rfl, wq _, ?_⟩, fun _ z => absurd nt z, fun x hx => ?_, fun z => (by rw [en] at z; cases z)⟩
      · rw [(Hs.tones_shape _ _).2.1]; exact hp
      · by_cases xp : x = p
        · subst xp
          rcases wq (h.queue ++ [x]).length with i | i
          · exact .inr (.inr (.inl i))
          · exact .inr (.inr (.inr i))
        · have e3 : (({ h with queue := h.queue ++ [p], rk := freeRk (freeRk h.rk (h.ln l).train) (h.ln p).train, ln := up (up h.ln p { way := .waits }) l {} } : Hs).noted (.ln .hang l)).ln x = h.ln x := by
            show (up (up h.ln p ({ way := .waits } : Ln)) l ({} : Ln)) x = _
            rw [up_ne hx, up_ne xp]
          have := tones_way ((h.queue ++ [p]).length) _ g0 x
          rw [e3] at this
          rcases this with i | i
          · exact .inl (by rw [i])
          · exact .inr (.inr (.inr i.2))
/-! # two rounds of hangs -/
def wayA (w : Way) : Prop := w = .rests ∨ w = .waits ∨ w = .dials ∨ w = .rung
def wayB (w : Way) : Prop := w = .rests ∨ w = .waits ∨ w = .dials
/-- the round i, xs gone by -/
def Pass (i : Nat) (h : Hs) (xs : List PySem.Str) : Prop := match i with
  | 0 => ∀ x ∈ xs, wayA (h.ln x).way
  | 1 => (∀ x ∈ h.lines, wayB (h.ln x).way) ∧ ∀ x ∈ xs, (h.ln x).way = .rests
  | _ => ∀ x ∈ h.lines, (h.ln x).way = .rests
theorem Pass.idle {i : Nat} {h : Hs} {xs : List PySem.Str} {l : PySem.Str} (i2 : i < 2) (p : Pass i h xs) (hl : l ∈ h.lines) (w : (h.ln l).way = .rests ∨ (h.ln l).way = .rung) : Pass i h (xs ++ [l]) := by
  match i, i2, p with
  | 0, _, p =>
    intro x hx
    rcases List.mem_append.mp hx with hx | hx
    · exact p x hx
    · rw [List.mem_singleton.mp hx]
      rcases w with w | w
      · exact .inl w
      · exact .inr (.inr (.inr w))
  | 1, _, p =>
    refine ⟨p.1, fun x hx => ?_⟩
    rcases List.mem_append.mp hx with hx | hx
    · exact p.2 x hx
    · rw [List.mem_singleton.mp hx]
      rcases w with w | w
      · exact w
      · rcases p.1 l hl with e | e | e <;> rw [e] at w <;> cases w
theorem Pass.hang {i : Nat} {h h' : Hs} {xs : List PySem.Str} {l : PySem.Str} {us : List Tl} (i2 : i < 2) (o : h.Ok) (p : Pass i h xs) (hx : ∀ x ∈ xs, x ∈ h.lines) (hl : l ∈ h.lines) (r : HangR h h' l us) (el : h'.lines = h.lines) : Pass i h' (xs ++ [l]) := by
  match i, i2, p with
  | 0, _, p =>
    intro x hx
    by_cases e : x = l
    · rw [e]; exact .inl r.way
    · have hx : x ∈ xs := by
        rcases List.mem_append.mp hx with hx | hx
        · exact hx
        · exact absurd (List.mem_singleton.mp hx) e
      rcases r.other x e with i | i | i | i
      · rw [i]; exact p x hx
      · exact .inl i
      · exact .inr (.inl i)
      · exact .inr (.inr (.inl i))
  | 1, _, p =>
    have en : (h.ln l).en = none := by
      have w := p.1 l hl
      have q := o.per l hl
      generalize h.ln l = r at w q
      cases q <;> first | rfl | (rcases w with w | w | w <;> cases w)
    have a := r.alone en
    refine ⟨fun x hx => ?_, fun x hx => ?_⟩
    · rw [el] at hx
      by_cases e : x = l
      · rw [e]; exact .inl r.way
      · rcases a x e with i | i
        · rw [i]; exact p.1 x hx
        · exact .inr (.inr i.2)
    · by_cases e : x = l
      · rw [e]; exact r.way
      · have hx : x ∈ xs := by
          rcases List.mem_append.mp hx with hx | hx
          · exact hx
          · exact absurd (List.mem_singleton.mp hx) e
        have w := p.2 x hx
        rcases a x e with i | i
        · rw [i]; exact w
        · rw [w] at i; cases i.1
theorem Pass.next {i : Nat} {h : Hs} {xs : List PySem.Str} (i2 : i < 2) (o : h.Ok) (p : Pass i h xs) (all : ∀ x ∈ h.lines, x ∈ xs) : Pass (i + 1) h [] := by
  match i, i2, p with
  | 0, _, p =>
    refine ⟨fun x hx => ?_, fun x hx => nomatch hx⟩
    rcases p x (all x hx) with w | w | w | w
    · exact .inl w
    · exact .inr (.inl w)
    · exact .inr (.inr w)
    · have q := o.per x hx
      generalize er : h.ln x = r at w q
      cases q with
      | rung h1 h2 h3 =>
        rcases p _ (all _ h1) with e | e | e | e <;> rw [e] at h2 <;> cases h2
      | _ => cases w
  | 1, _, p => exact fun x hx => p.2 x (all x hx)
/-! # a hall where all rest -/
structure Calm (h : Hs) : Prop where
  ln : ∀ x ∈ h.lines, h.ln x = {}
  q : h.queue = []
theorem Calm.of {h : Hs} (o : h.Ok) (r : ∀ x ∈ h.lines, (h.ln x).way = .rests) : Calm h := by
  refine ⟨fun x hx => ?_, ?_⟩
  · have w := r x hx
    have q := o.per x hx
    generalize h.ln x = r at w q
    cases q <;> first | rfl | cases w
  · cases e : h.queue with
    | nil => rfl
    | cons l qs =>
      have := (o.q l).mp (by rw [e]; exact List.mem_cons_self)
      rw [r l this.1] at this
      cases this.2
theorem Calm.held {h : Hs} (c : Calm h) (o : h.Ok) {w : PySem.Str} (hw : w ∈ h.wheres) {k : Nat} (hk : k < (h.rk w).held.length) : (h.rk w).held[k]? = some none := by
  rw [List.getElem?_eq_getElem hk]
  cases e : (h.rk w).held[k] with
  | none => rfl
  | some l =>
    have := (o.hb.hold w hw k l).mp (by rw [List.getElem?_eq_getElem hk, e])
    have t := this.2
    rw [c.ln l this.1] at t
    cases t
/-- a switch mended there -/
theorem Calm.mend {h : Hs} (c : Calm h) {w : PySem.Str} {k : Nat} (hw : w ∈ h.wheres) (hk : k < (h.rk w).held.length) :
    h.step (.sw false w k) = .ok ([], { h with rk := up h.rk w ((h.rk w).brkAt k false), done := h.done ++ [.sw false w k] }) ∧ Calm { h with rk := up h.rk w ((h.rk w).brkAt k false), done := h.done ++ [.sw false w k] } := by
  refine ⟨?_, ⟨c.ln, c.q⟩⟩
  have a : h.act (.sw false w k) = .ok ([], h.setRk w ((h.rk w).brkAt k false)) := by
    show (if w ∈ h.wheres ∧ 0 ≤ (k : Int) ∧ (k : Int) < ((h.rk w).held.length : Int) then (Except.ok ([], h.setRk w ((h.rk w).brkAt ((k : Nat) : Int).toNat false)) : Except Er (List Tl × Hs)) else .error .switch) = _
    rw [if_pos ⟨hw, by omega, by omega⟩, Int.toNat_natCast]
  have q : ((h.setRk w ((h.rk w).brkAt k false)).noted (.sw false w k)).queue = [] := c.q
  unfold Hs.step
  rw [a]
  dsimp only
  rw [tones_nil q]
  rfl
theorem Calm.paper {h : Hs} (c : Calm h) (o : h.Ok) {w : PySem.Str} (hw : w ∈ h.wheres) (hb : ∀ k < (h.rk w).held.length, (h.rk w).brk[k]? = some false) : (h.rk w).paper = List.replicate (h.rk w).held.length ("free" : PySem.Str) := by
  refine List.ext_getElem? fun k => ?_
  by_cases hk : k < (h.rk w).held.length
  · rw [paper_at hk, List.getElem?_replicate, if_pos hk]
    unfold Rc.said
    rw [List.getD_eq_getElem?_getD, c.held o hw hk]
    show some (if (h.rk w).brk.getD k false = true then ("stuck" : PySem.Str) else "free") = _
    rw [List.getD_eq_getElem?_getD, hb k hk]; rfl
  · rw [List.getElem?_eq_none (by unfold Rc.paper; rw [List.length_map, List.length_range]; omega), List.getElem?_replicate, if_neg hk]
/-! # sizes stay -/
def Szd (h g : Hs) : Prop := ∀ w, (g.rk w).held.length = (h.rk w).held.length
theorem szd_free {h g : Hs} {ps : List (PySem.Str × Nat)} (e : g.rk = freeRk h.rk ps) : Szd h g := fun w => by rw [e]; exact (freeRk_len ps h.rk w).1
theorem szd_up {h : Hs} {w : PySem.Str} {r : Rc} {g : Hs} (e : g.rk = up h.rk w r) (z : r.held.length = (h.rk w).held.length) : Szd h g := fun x => by
  rw [e]
  by_cases c : x = w
  · subst c; rw [up_same]; exact z
  · rw [up_ne c]
theorem Szd.trans {a b c : Hs} (x : Szd a b) (y : Szd b c) : Szd a c := fun w => (y w).trans (x w)
theorem szd_lift {h h' : Hs} {l : PySem.Str} {ts : List Tl} (e : h.lift l = .ok (ts, h')) : Szd h h' := by
  unfold Hs.lift at e
  cases w : (h.ln l).way <;> rw [w] at e <;> first
    | (cases e; done)
    | (cases e; exact fun _ => rfl)
theorem szd_pulse {h h' : Hs} {l : PySem.Str} {ts : List Tl} (e : h.pulse l = .ok (ts, h')) : Szd h h' := by
  unfold Hs.pulse at e
  cases w : (h.ln l).way <;> rw [w] at e <;> first
    | (cases e; done)
    | (simp only at e
       split at e
       · cases e; exact fun _ => rfl
       · cases e
         rw [Hs.ended_eq]
         exact szd_free (h := h) rfl)
theorem szd_hang {h h' : Hs} (o : h.Ok) {l : PySem.Str} {ts : List Tl} (hl : l ∈ h.lines) (e : h.hang l = .ok (ts, h')) : Szd h h' := by
  have w2 : (h.ln l).way ≠ .rests := fun w => by unfold Hs.hang at e; rw [w] at e; cases e
  have w3 : (h.ln l).way ≠ .rung := fun w => by unfold Hs.hang at e; rw [w] at e; cases e
  cases en : (h.ln l).en with
  | none =>
    rw [Hs.hang_alone en w2 w3] at e
    cases e
    exact szd_free (h := h) rfl
  | some p =>
    obtain ⟨hp, np, w1, wp⟩ := o.en hl en
    rw [Hs.hang_pair en np w1 w2 w3] at e
    have z : ∀ w, ((freeRk (freeRk h.rk (h.ln l).train) (h.ln p).train) w).held.length = (h.rk w).held.length := fun w => by rw [(freeRk_len _ _ _).1, (freeRk_len _ _ _).1]
    split at e <;> (cases e; exact z)
theorem szd_gap {h h' : Hs} {l : PySem.Str} {ts : List Tl} (e : h.gap l = .ok (ts, h')) : Szd h h' := by
  have q1 : ∀ (g : Hs) (f : PySem.Str), Szd g (g.ledTo l f).2 := fun g f => by
    unfold Hs.ledTo
    split
    · rw [Hs.ended_eq]; exact szd_free (h := g) rfl
    · split
      · rw [Hs.ended_eq]; exact szd_free (h := g) rfl
      · exact fun _ => rfl
  have q2 : ∀ (g : Hs) (f : PySem.Str), Szd g (g.ledBy l f).2 := fun g f => by
    unfold Hs.ledBy
    split
    · rw [Hs.ended_eq]; exact szd_free (h := g) rfl
    · split
      · rw [Hs.ended_eq]; exact szd_free (h := g) rfl
      · exact szd_up (h := g) (w := f) rfl (by simp [Rc.give])
  unfold Hs.gap at e
  cases w : (h.ln l).way <;> rw [w] at e <;> first
    | (cases e; done)
    | (simp only at e
       split at e
       · cases e
       · split at e
         · cases e; exact fun w => q1 _ _ w
         · split at e
           · cases e; exact fun _ => rfl
           · cases e; exact fun w => q2 _ _ w)
theorem szd_tones (m : Nat) (g : Hs) (go : g.Ok) : Szd g (Hs.tones m g).2 := fun w => by
  refine tones_ind (Pr := fun m g r => ∀ w, (r.2.rk w).held.length = (g.rk w).held.length) (fun m h _ _ w => rfl) (fun m g l qs k r o q f ih w => ?_) m g go w
  refine (ih w).trans ?_
  show ((up g.rk "" ((g.rk "").give k l)) w).held.length = _
  by_cases c : w = ""
  · subst c; rw [up_same]; simp [Rc.give]
  · rw [up_ne c]
theorem szd_step {h h' : Hs} (o : h.Ok) {d : Dd} {ts : List Tl} (e : h.step d = .ok (ts, h')) : Szd h h' := by
  unfold Hs.step at e
  split at e
  · cases e
  · next ts1 h1 e1 =>
    cases e
    have a : Szd h h1 := by
      have e1 := e1
      unfold Hs.act at e1
      cases d with
      | ln w l =>
        dsimp only at e1
        unfold Hs.atLine at e1
        split at e1
        · cases e1
        · next hl =>
          have hl : l ∈ h.lines := Classical.not_not.mp hl
          cases w with
          | lift => exact szd_lift e1
          | hang => exact szd_hang o hl e1
          | pulse => exact szd_pulse e1
          | gap => exact szd_gap e1
      | sw b w k =>
        dsimp only at e1
        split at e1
        · cases e1; exact szd_up (h := h) (w := w) rfl (by simp [Rc.brkAt])
        · cases e1
    exact a.trans (szd_tones _ (h1.noted d) ((Hs.act_ok o e1).noted d))
theorem szd_runs : ∀ {ds : List Dd} {h h' : Hs}, h.Ok → h.runs ds = .ok h' → Szd h h'
  | [], h, h', _, e => by cases e; exact fun _ => rfl
  | d :: ds, h, h', o, e => by
    cases s : h.step d with
    | error x => rw [Hs.runs_err s] at e; cases e
    | ok p =>
      obtain ⟨ts, g⟩ := p
      rw [Hs.runs_ok s] at e
      exact (szd_step o s).trans (szd_runs (Hs.step_ok o s) e)
theorem Good.sz {d : Pd} {n : Nat} {h : Hs} (g : Good d n h) (pd : PdOk d) (w : PySem.Str) : (h.rk w).held.length = ((Hs.new d).rk w).held.length := szd_runs (Hs.new_ok pd) g.led w
theorem new_sz0 (d : Pd) : ((Hs.new d).rk "").held.length = d.sk := by rw [Hs.new_rk0]; simp [Rc.new]
theorem train_len {h : Hs} (o : h.Ok) : ∀ x ∈ h.lines, (h.ln x).train.length ≤ 100 := fun x hx => by
  have q := o.per x hx
  have g4 := o.sh.g4
  have hd : ∀ (t : List (PySem.Str × Nat)) (f : PySem.Str), t.map (·.1) = heads h.long f → f.length ≤ h.long → t.length ≤ 100 := fun t f e hf => by
    have := congrArg List.length e
    rw [List.length_map] at this
    have := heads_len h.long f
    omega
  generalize h.ln x = r at q
  cases q with
  | dials a _ _ b => exact hd _ _ b (by omega)
  | rings a _ b => exact hd _ _ b (by have := (o.sh.lf _ a).1; omega)
  | talksA a _ b => exact hd _ _ b (by have := (o.sh.lf _ a).1; omega)
  | _ => exact Nat.zero_le _
end L2.Zs
namespace L2.Zs
open PySem PySem.Spec PyProof.Rows
/-! # figures counted by pulses and gaps -/
abbrev Cn := PySem.Str → PySem.Str × Int
def CntOk (h : Hs) (c : Cn) : Prop := ∀ x ∈ h.lines, ((h.ln x).way = .dials → c x = ((h.ln x).figs, ((h.ln x).many : Int))) ∧ ((h.ln x).train ≠ [] → (c x).1 = (h.ln x).figs)
def cntD (c : Cn) : Dd → Cn
  | .ln .pulse x => up c x ((c x).1, (c x).2 + 1)
  | .ln .gap x => up c x ((c x).1 ++ toString ((c x).2 % 10), 0)
  | _ => c
def cntT1 (c : Cn) : Tl → Cn
  | .tone l _ _ => up c l ("", 0)
  | _ => c
def cntT (c : Cn) (ts : List Tl) : Cn := ts.foldl cntT1 c
theorem CntOk.kin {h g : Hs} {c : Cn} (k : CntOk h c) (el : g.lines = h.lines) (r : ∀ x ∈ h.lines, ((g.ln x).train = [] ∧ (g.ln x).way ≠ .dials) ∨ ((g.ln x).train = (h.ln x).train ∧ (g.ln x).figs = (h.ln x).figs ∧ (g.ln x).many = (h.ln x).many ∧ ((g.ln x).way = .dials → (h.ln x).way = .dials))) : CntOk g c := by
  intro x hx
  rw [el] at hx
  rcases r x hx with ⟨a, b⟩ | ⟨a, b, e, f⟩
  · exact ⟨fun z => absurd z b, fun z => absurd a z⟩
  · exact ⟨fun z => by rw [b, e]; exact (k x hx).1 (f z), fun z => by rw [b]; exact (k x hx).2 (by rw [← a]; exact z)⟩
theorem CntOk.at_ {h g : Hs} {c : Cn} {l : PySem.Str} {v : PySem.Str × Int} (k : CntOk h c) (el : g.lines = h.lines) (r : ∀ x ∈ h.lines, x ≠ l → ((g.ln x).train = [] ∧ (g.ln x).way ≠ .dials) ∨ g.ln x = h.ln x)
    (rl : ((g.ln l).way = .dials → v = ((g.ln l).figs, ((g.ln l).many : Int))) ∧ ((g.ln l).train ≠ [] → v.1 = (g.ln l).figs)) : CntOk g (up c l v) := by
  intro x hx
  rw [el] at hx
  by_cases e : x = l
  · subst e; rw [up_same]; exact rl
  · rw [up_ne e]
    rcases r x hx e with ⟨a, b⟩ | a
    · exact ⟨fun z => absurd z b, fun z => absurd a z⟩
    · rw [a]; exact k x hx
theorem lift_cnt {h h' : Hs} (o : h.Ok) {c : Cn} (k : CntOk h c) {l : PySem.Str} {ts : List Tl} (hl : l ∈ h.lines) (e : h.lift l = .ok (ts, h')) : CntOk h' c := by
  unfold Hs.lift at e
  cases w : (h.ln l).way <;> rw [w] at e <;> first
    | (cases e; done)
    | skip
  · cases e
    refine k.kin rfl fun x _ => ?_
    show ((up h.ln l ({ way := .waits } : Ln)) x).train = [] ∧ _ ∨ _
    by_cases c2 : x = l
    · subst c2
      exact .inl ⟨by rw [up_same], by show ((up h.ln x ({ way := .waits } : Ln)) x).way ≠ _; rw [up_same]; exact nofun⟩
    · have : (h.waitB l).ln x = h.ln x := up_ne c2
      exact .inr ⟨by rw [this], by rw [this], by rw [this], by rw [this]; exact id⟩
  · cases e
    refine k.kin rfl fun x _ => .inr ?_
    show ((up (up h.ln l { h.ln l with way := .talks }) ((h.ln l).en.getD "") { h.ln ((h.ln l).en.getD "") with way := .talks }) x).train = _ ∧ ((up (up h.ln l { h.ln l with way := .talks }) ((h.ln l).en.getD "") { h.ln ((h.ln l).en.getD "") with way := .talks }) x).figs = _ ∧ ((up (up h.ln l { h.ln l with way := .talks }) ((h.ln l).en.getD "") { h.ln ((h.ln l).en.getD "") with way := .talks }) x).many = _ ∧ (((up (up h.ln l { h.ln l with way := .talks }) ((h.ln l).en.getD "") { h.ln ((h.ln l).en.getD "") with way := .talks }) x).way = _ → _)
    by_cases c1 : x = (h.ln l).en.getD ""
    · rw [c1, up_same]
      exact ⟨rfl, rfl, rfl, nofun⟩
    · rw [up_ne c1]
      by_cases c2 : x = l
      · subst c2; rw [up_same]; exact ⟨rfl, rfl, rfl, nofun⟩
      · rw [up_ne c2]; exact ⟨rfl, rfl, rfl, id⟩
theorem hang_cnt {h h' : Hs} (o : h.Ok) {c : Cn} (k : CntOk h c) {l : PySem.Str} {ts : List Tl} (hl : l ∈ h.lines) (e : h.hang l = .ok (ts, h')) : CntOk h' c := by
  have w2 : (h.ln l).way ≠ .rests := fun w => by unfold Hs.hang at e; rw [w] at e; cases e
  have w3 : (h.ln l).way ≠ .rung := fun w => by unfold Hs.hang at e; rw [w] at e; cases e
  have one : ∀ (f : PySem.Str → Ln) (r : Ln) (x : PySem.Str), r.train = [] → r.way ≠ .dials → (((up f l r) x).train = [] ∧ ((up f l r) x).way ≠ .dials) ∨ (up f l r) x = f x := fun f r x a b => by
    by_cases c2 : x = l
    · subst c2; rw [up_same]; exact .inl ⟨a, b⟩
    · exact .inr (up_ne c2)
  cases en : (h.ln l).en with
  | none =>
    rw [Hs.hang_alone en w2 w3] at e
    cases e
    refine k.kin rfl fun x _ => ?_
    rcases one h.ln {} x rfl nofun with i | i
    · exact .inl i
    · refine .inr ?_
      show ((up h.ln l {}) x).train = _ ∧ ((up h.ln l {}) x).figs = _ ∧ ((up h.ln l {}) x).many = _ ∧ (((up h.ln l {}) x).way = _ → _)
      rw [i]; exact ⟨rfl, rfl, rfl, id⟩
  | some p =>
    obtain ⟨hp, np, w1, wp⟩ := o.en hl en
    rw [Hs.hang_pair en np w1 w2 w3] at e
    have two : ∀ (w : Way), w ≠ .dials → ∀ x, (((up (up h.ln p { way := w }) l ({} : Ln)) x).train = [] ∧ ((up (up h.ln p { way := w }) l ({} : Ln)) x).way ≠ .dials) ∨ (up (up h.ln p { way := w }) l ({} : Ln)) x = h.ln x := fun w hw x => by
      rcases one (up h.ln p { way := w }) {} x rfl nofun with i | i
      · exact .inl i
      · rw [i]
        by_cases c2 : x = p
        · subst c2; rw [up_same]; exact .inl ⟨rfl, hw⟩
        · exact .inr (up_ne c2)
    split at e
    · cases e
      refine k.kin rfl fun x _ => ?_
      rcases two .rests nofun x with i | i
      · exact .inl i
      · refine .inr ?_
        show ((up (up h.ln p { way := .rests }) l ({} : Ln)) x).train = _ ∧ ((up (up h.ln p { way := .rests }) l ({} : Ln)) x).figs = _ ∧ ((up (up h.ln p { way := .rests }) l ({} : Ln)) x).many = _ ∧ (((up (up h.ln p { way := .rests }) l ({} : Ln)) x).way = _ → _)
        rw [i]; exact ⟨rfl, rfl, rfl, id⟩
    · cases e
      refine k.kin rfl fun x _ => ?_
      rcases two .waits nofun x with i | i
      · exact .inl i
      · refine .inr ?_
        show ((up (up h.ln p { way := .waits }) l ({} : Ln)) x).train = _ ∧ ((up (up h.ln p { way := .waits }) l ({} : Ln)) x).figs = _ ∧ ((up (up h.ln p { way := .waits }) l ({} : Ln)) x).many = _ ∧ (((up (up h.ln p { way := .waits }) l ({} : Ln)) x).way = _ → _)
        rw [i]; exact ⟨rfl, rfl, rfl, id⟩
theorem ended_ln (h : Hs) (l : PySem.Str) (y : Wy) : (h.ended l y).ln = up h.ln l { (h.ln l) with train := [], way := .told, why := some y } := by rw [Hs.ended_eq]
theorem ended_lines (h : Hs) (l : PySem.Str) (y : Wy) : (h.ended l y).lines = h.lines := by rw [Hs.ended_eq]
theorem pulse_cnt {h h' : Hs} (o : h.Ok) {c : Cn} (k : CntOk h c) {l : PySem.Str} {ts : List Tl} (hl : l ∈ h.lines) (e : h.pulse l = .ok (ts, h')) : CntOk h' (up c l ((c l).1, (c l).2 + 1)) := by
  unfold Hs.pulse at e
  cases w : (h.ln l).way <;> rw [w] at e <;> first
    | (cases e; done)
    | skip
  have kl := (k l hl).1 w
  simp only at e
  split at e
  · cases e
    refine k.at_ rfl (fun x _ hx => .inr (up_ne hx)) ?_
    show (((up h.ln l { h.ln l with many := (h.ln l).many + 1 }) l).way = _ → _ = (((up h.ln l { h.ln l with many := (h.ln l).many + 1 }) l).figs, ((((up h.ln l { h.ln l with many := (h.ln l).many + 1 }) l).many : Nat) : Int))) ∧ (((up h.ln l { h.ln l with many := (h.ln l).many + 1 }) l).train ≠ [] → _ = ((up h.ln l { h.ln l with many := (h.ln l).many + 1 }) l).figs)
    rw [up_same, kl]
    exact ⟨fun _ => by simp, fun _ => rfl⟩
  · cases e
    refine k.at_ (by rw [ended_lines]; rfl) (fun x _ hx => .inr ?_) ?_
    · rw [ended_ln]
      rw [up_ne hx]
      exact up_ne hx
    · rw [ended_ln, up_same]
      exact ⟨nofun, fun z => absurd rfl z⟩
theorem gap_cnt {h h' : Hs} (o : h.Ok) {c : Cn} (k : CntOk h c) {l : PySem.Str} {ts : List Tl} (hl : l ∈ h.lines) (e : h.gap l = .ok (ts, h')) : CntOk h' (up c l ((c l).1 ++ toString ((c l).2 % 10), 0)) := by
  unfold Hs.gap at e
  cases w : (h.ln l).way <;> rw [w] at e <;> first
    | (cases e; done)
    | skip
  have kl := (k l hl).1 w
  have ev : (c l).1 ++ toString ((c l).2 % 10) = h.figsOn l := by rw [kl]; rfl
  rw [ev]
  have end_ : ∀ (g : Hs) (y : Wy), g.lines = h.lines → (∀ x, x ≠ l → g.ln x = h.ln x) → CntOk (g.ended l y) (up c l (h.figsOn l, 0)) := fun g y el gx => by
    refine k.at_ (by rw [ended_lines, el]) (fun x _ hx => .inr ?_) ?_
    · rw [ended_ln, up_ne hx]; exact gx x hx
    · rw [ended_ln, up_same]
      exact ⟨nofun, fun z => absurd rfl z⟩
  have gx : ∀ x, x ≠ l → (h.setLn l { h.ln l with figs := h.figsOn l, many := 0 }).ln x = h.ln x := fun x hx => up_ne hx
  have gl : (h.setLn l { h.ln l with figs := h.figsOn l, many := 0 }).ln l = { h.ln l with figs := h.figsOn l, many := 0 } := up_same
  simp only at e
  split at e
  · cases e
  · split at e
    · cases e
      unfold Hs.ledTo
      split
      · exact end_ _ _ rfl gx
      · next hf =>
        split
        · exact end_ _ _ rfl gx
        · next wf =>
          have wf := Classical.not_not.mp wf
          have hf := Classical.not_not.mp hf
          have nf : h.figsOn l ≠ l := fun z => by
            have wf : ((up h.ln l { h.ln l with figs := h.figsOn l, many := 0 }) (h.figsOn l)).way = .rests := wf
            rw [show (up h.ln l { h.ln l with figs := h.figsOn l, many := 0 }) (h.figsOn l) = { h.ln l with figs := h.figsOn l, many := 0 } from if_pos z] at wf
            have wf : (h.ln l).way = .rests := wf
            rw [w] at wf; cases wf
          have rf : h.ln (h.figsOn l) = {} := by
            rw [gx _ nf] at wf
            have q := o.per _ hf
            generalize h.ln (h.figsOn l) = r at wf q
            cases q <;> first | rfl | cases wf
          refine k.at_ rfl (fun x _ hx => ?_) ?_
          · show (((up (up ((h.setLn l { h.ln l with figs := h.figsOn l, many := 0 }).ln) (h.figsOn l) { (h.setLn l { h.ln l with figs := h.figsOn l, many := 0 }).ln (h.figsOn l) with way := .rung, en := some l }) l { (h.setLn l { h.ln l with figs := h.figsOn l, many := 0 }).ln l with way := .rings, en := some (h.figsOn l) }) x).train = [] ∧ ((up (up ((h.setLn l { h.ln l with figs := h.figsOn l, many := 0 }).ln) (h.figsOn l) { (h.setLn l { h.ln l with figs := h.figsOn l, many := 0 }).ln (h.figsOn l) with way := .rung, en := some l }) l { (h.setLn l { h.ln l with figs := h.figsOn l, many := 0 }).ln l with way := .rings, en := some (h.figsOn l) }) x).way ≠ .dials) ∨ (up (up ((h.setLn l { h.ln l with figs := h.figsOn l, many := 0 }).ln) (h.figsOn l) { (h.setLn l { h.ln l with figs := h.figsOn l, many := 0 }).ln (h.figsOn l) with way := .rung, en := some l }) l { (h.setLn l { h.ln l with figs := h.figsOn l, many := 0 }).ln l with way := .rings, en := some (h.figsOn l) }) x = h.ln x
            rw [up_ne hx]
            by_cases xf : x = h.figsOn l
            · subst xf
              rw [up_same, gx _ nf, rf]
              exact .inl ⟨rfl, nofun⟩
            · rw [up_ne xf]; exact .inr (gx x hx)
          · show ((((up (up ((h.setLn l { h.ln l with figs := h.figsOn l, many := 0 }).ln) (h.figsOn l) { (h.setLn l { h.ln l with figs := h.figsOn l, many := 0 }).ln (h.figsOn l) with way := .rung, en := some l }) l { (h.setLn l { h.ln l with figs := h.figsOn l, many := 0 }).ln l with way := .rings, en := some (h.figsOn l) }) l).way = .dials → _) ∧ (_ → _ = ((up (up ((h.setLn l { h.ln l with figs := h.figsOn l, many := 0 }).ln) (h.figsOn l) { (h.setLn l { h.ln l with figs := h.figsOn l, many := 0 }).ln (h.figsOn l) with way := .rung, en := some l }) l { (h.setLn l { h.ln l with figs := h.figsOn l, many := 0 }).ln l with way := .rings, en := some (h.figsOn l) }) l).figs))
            rw [up_same, gl]
            exact ⟨nofun, fun _ => rfl⟩
    · split at e
      · cases e
        refine k.at_ rfl (fun x _ hx => .inr (gx x hx)) ?_
        rw [gl]
        exact ⟨fun _ => rfl, fun _ => rfl⟩
      · cases e
        unfold Hs.ledBy
        split
        · exact end_ _ _ rfl gx
        · split
          · exact end_ _ _ rfl gx
          · refine k.at_ rfl (fun x _ hx => .inr ?_) ?_
            · show (up (h.setLn l { h.ln l with figs := h.figsOn l, many := 0 }).ln l _) x = _
              rw [up_ne hx]; exact gx x hx
            · next j _ =>
              show (((up (h.setLn l { h.ln l with figs := h.figsOn l, many := 0 }).ln l { (h.setLn l { h.ln l with figs := h.figsOn l, many := 0 }).ln l with train := _ }) l).way = .dials → _ = (((up (h.setLn l { h.ln l with figs := h.figsOn l, many := 0 }).ln l { (h.setLn l { h.ln l with figs := h.figsOn l, many := 0 }).ln l with train := _ }) l).figs, ((((up (h.setLn l { h.ln l with figs := h.figsOn l, many := 0 }).ln l { (h.setLn l { h.ln l with figs := h.figsOn l, many := 0 }).ln l with train := _ }) l).many : Nat) : Int))) ∧ (_ → _ = ((up (h.setLn l { h.ln l with figs := h.figsOn l, many := 0 }).ln l { (h.setLn l { h.ln l with figs := h.figsOn l, many := 0 }).ln l with train := _ }) l).figs)
              rw [up_same, gl]
              exact ⟨fun _ => rfl, fun _ => rfl⟩
theorem act_cnt {h h' : Hs} (o : h.Ok) {c : Cn} (k : CntOk h c) {d : Dd} {ts : List Tl} (e : h.act d = .ok (ts, h')) : CntOk h' (cntD c d) := by
  unfold Hs.act at e
  cases d with
  | ln w l =>
    dsimp only at e
    unfold Hs.atLine at e
    split at e
    · cases e
    · next hl =>
      have hl : l ∈ h.lines := Classical.not_not.mp hl
      cases w with
      | lift => exact lift_cnt o k hl e
      | hang => exact hang_cnt o k hl e
      | pulse => exact pulse_cnt o k hl e
      | gap => exact gap_cnt o k hl e
  | sw b w k2 =>
    dsimp only at e
    split at e
    · cases e; exact k
    · cases e
theorem tones_cnt (m : Nat) (h : Hs) (o : h.Ok) : ∀ c, CntOk h c → CntOk (Hs.tones m h).2 (cntT c (Hs.tones m h).1) := by
  refine tones_ind (Pr := fun m h r => ∀ c, CntOk h c → CntOk r.2 (cntT c r.1)) (fun m h _ _ c k => k) (fun m h l qs j r o q f ih c k => ?_) m h o
  refine ih (up c l ("", 0)) ?_
  have hl := (o.q l).mp (by rw [q]; exact List.mem_cons_self)
  have el : h.ln l = { way := .waits } := by
    have := o.per l hl.1
    generalize h.ln l = r at this hl
    cases this <;> first | rfl | (exact absurd hl.2 (by simp))
  refine k.at_ rfl (fun x _ hx => .inr (up_ne hx)) ?_
  have e2 : (h.tone1 l j).ln l = { way := .dials, train := [("", j)] } := by
    show (up h.ln l _) l = _
    rw [up_same, el]
  rw [e2]
  exact ⟨fun _ => rfl, fun _ => rfl⟩
theorem cntT_none {ts : List Tl} (h : ∀ t ∈ ts, t.isTone = false) : ∀ c, cntT c ts = c := by
  induction ts with
  | nil => exact fun c => rfl
  | cons t ts ih =>
    intro c
    have h1 := h t List.mem_cons_self
    show cntT (cntT1 c t) ts = c
    rw [show cntT1 c t = c by cases t <;> first | rfl | cases h1]
    exact ih (fun u hu => h u (List.mem_cons_of_mem _ hu)) c
theorem step_cnt {h h' : Hs} (o : h.Ok) {c : Cn} (k : CntOk h c) {d : Dd} {ts : List Tl} (e : h.step d = .ok (ts, h')) : CntOk h' (cntT (cntD c d) ts) := by
  unfold Hs.step at e
  split at e
  · cases e
  · next ts1 h1 e1 =>
    cases e
    have a4 := (like_act o e1).2.2.2
    unfold cntT
    rw [List.foldl_append]
    have z := cntT_none a4 (cntD c d)
    unfold cntT at z
    rw [z]
    exact tones_cnt _ (h1.noted d) ((Hs.act_ok o e1).noted d) _ (show CntOk h1 (cntD c d) from act_cnt o k e1)
/-! # switches that are taken -/
def Tl.isTk : Tl → Bool
  | .takes _ _ _ => true
  | _ => false
theorem step_takes {h h' : Hs} (o : h.Ok) {d : Dd} {ts : List Tl} (e : h.step d = .ok (ts, h')) {l f : PySem.Str} {k : Nat} (m : Tl.takes l f k ∈ ts) : (∃ x, d = .ln .gap x) ∧ f ∈ h.wheres ∧ f ≠ "" ∧ (h.rk f).first = some k := by
  unfold Hs.step at e
  split at e
  · cases e
  · next ts1 h1 e1 =>
    cases e
    replace m := List.mem_append.mp m
    rcases m with m | m
    · have tk : ts1.any Tl.isTk = true := List.any_eq_true.mpr ⟨_, m, rfl⟩
      unfold Hs.act at e1
      cases d with
      | ln w x =>
        dsimp only at e1
        unfold Hs.atLine at e1
        split at e1
        · cases e1
        · next hx =>
          cases w with
          | lift =>
            exfalso
            dsimp only at e1
            unfold Hs.lift at e1
            cases w : (h.ln x).way <;> rw [w] at e1 <;> first
              | (cases e1; done)
              | (cases e1; exact Bool.noConfusion (show false = true from tk))
          | hang =>
            exfalso
            dsimp only at e1
            unfold Hs.hang at e1
            cases w : (h.ln x).way <;> rw [w] at e1 <;> first
              | (cases e1; done)
              | (simp only at e1
                 split at e1
                 · cases e1; exact Bool.noConfusion (show false = true from tk)
                 · split at e1 <;> (cases e1; exact Bool.noConfusion (show false = true from tk)))
          | pulse =>
            exfalso
            dsimp only at e1
            unfold Hs.pulse at e1
            cases w : (h.ln x).way <;> rw [w] at e1 <;> first
              | (cases e1; done)
              | (simp only at e1
                 split at e1 <;> (cases e1; exact Bool.noConfusion (show false = true from tk)))
          | gap =>
            refine ⟨⟨x, rfl⟩, ?_⟩
            have nf : h.figsOn x ≠ "" := fun z => by
              have := Hs.figsOn_len h x
              rw [z, show ("" : PySem.Str).length = 0 by decide +kernel] at this
              omega
            dsimp only at e1
            unfold Hs.gap at e1
            cases w : (h.ln x).way <;> rw [w] at e1 <;> first
              | (cases e1; done)
              | skip
            simp only at e1
            split at e1
            · cases e1
            · split at e1
              · cases e1
                exfalso
                unfold Hs.ledTo at tk
                split at tk
                · exact Bool.noConfusion (show false = true from tk)
                · split at tk <;> exact Bool.noConfusion (show false = true from tk)
              · split at e1
                · cases e1; exact Bool.noConfusion (show false = true from tk)
                · cases e1
                  unfold Hs.ledBy at m tk
                  split at m
                  · next hf =>
                    rw [if_pos hf] at tk
                    exact Bool.noConfusion (show false = true from tk)
                  · next hf =>
                    split at m
                    · next hj =>
                      rw [if_neg hf] at tk
                      simp only [hj] at tk
                      exact Bool.noConfusion (show false = true from tk)
                    · next j hj =>
                      simp only [List.mem_singleton, Tl.takes.injEq] at m
                      obtain ⟨_, rfl, rfl⟩ := m
                      exact ⟨Classical.not_not.mp hf, nf, hj⟩
      | sw b w k2 =>
        dsimp only at e1
        split at e1
        · cases e1; cases m
        · cases e1
    · have := tones_mem _ _ ((Hs.act_ok o e1).noted d) _ m
      cases this
/-- the first that is ready is the first that is told free -/
theorem first_paper {h : Hs} (o : h.Ok) {w : PySem.Str} (hw : w ∈ h.wheres) {k : Nat} (f : (h.rk w).first = some k) : k < (h.rk w).held.length ∧ (h.rk w).paper[k]? = some ("free" : PySem.Str) ∧ ("free" : PySem.Str) ∉ (h.rk w).paper.take k := by
  have rok := o.sh.rok w hw
  unfold Rc.first at f
  have hk := List.mem_range.mp (List.mem_of_find?_eq_some f)
  have rk := List.find?_some f
  have sd : ∀ j < (h.rk w).held.length, (h.rk w).said j = "free" ↔ (h.rk w).rdy j = true := fun j hj => by
    unfold Rc.said Rc.rdy
    rw [List.getD_eq_getElem?_getD, List.getElem?_eq_getElem hj]
    have jb : j < (h.rk w).brk.length := by rw [rok.b]; exact hj
    rw [List.getD_eq_getElem?_getD, List.getD_eq_getElem?_getD, List.getElem?_eq_getElem jb]
    cases e : (h.rk w).held[j] with
    | some l =>
      have hl := ((o.hb.hold w hw j l).mp (by rw [List.getElem?_eq_getElem hj, e])).1
      have nl : l ≠ "free" := fun z => by
        have := (o.sh.lf l hl).2 102 (by rw [z]; decide +kernel)
        omega
      refine ⟨fun z => absurd z nl, fun z => ?_⟩
      rw [Bool.and_eq_true, decide_eq_true_eq] at z
      cases z.1
    | none =>
      cases (h.rk w).brk[j] with
      | true => exact ⟨fun z => absurd (show ("stuck" : PySem.Str) = "free" from z) (by decide +kernel), fun z => by rw [Bool.and_eq_true] at z; cases z.2⟩
      | false => exact ⟨fun _ => rfl, fun _ => rfl⟩
  refine ⟨hk, by rw [paper_at hk, (sd k hk).mpr rk], fun m => ?_⟩
  obtain ⟨j, hj, e⟩ := List.mem_take_iff_getElem.mp m
  have hj1 : j < k := by omega
  have hj2 : j < (h.rk w).held.length := by omega
  have e2 : (h.rk w).said j = "free" := by
    have := paper_at (r := h.rk w) hj2
    rw [List.getElem?_eq_getElem (by omega)] at this
    rw [← Option.some.inj this, e]
  have r2 := (sd j hj2).mp e2
  have := List.find?_range_eq_some.mp f
  exact absurd r2 (by simpa using this.2.2 j hj1)
/-- a train, by the figures -/
theorem train_heads {h : Hs} (o : h.Ok) {x : PySem.Str} (hx : x ∈ h.lines) (t : (h.ln x).train ≠ []) : (h.ln x).train.map (·.1) = heads h.long (h.ln x).figs ∧ ((h.ln x).way = .rings ∨ (h.ln x).way = .talks → (h.ln x).figs.length = h.long ∧ (h.ln x).en = some (h.ln x).figs) := by
  have q := o.per x hx
  generalize h.ln x = r at q t
  cases q with
  | dials _ _ _ b => exact ⟨b, fun z => by rcases z with z | z <;> cases z⟩
  | rings a _ b => exact ⟨b, fun _ => ⟨(o.sh.lf _ a).1, rfl⟩⟩
  | talksA a _ b => exact ⟨b, fun _ => ⟨(o.sh.lf _ a).1, rfl⟩⟩
  | _ => exact absurd rfl t
theorem heads_cons (long : Nat) (f : PySem.Str) : heads long f = ("" : PySem.Str) :: (List.range (min f.length (long - 2))).map fun i => pre f (i + 1) := by
  unfold heads
  rw [List.range_succ_eq_map, List.map_cons, pre_zero, List.map_map]
  rfl
end L2.Zs
set_option maxHeartbeats 4000000
namespace L2.Zs
open PySem PySem.Spec PyProof.Rows
/-! # tuple * 0, tuple * 1 -/
theorem tuple_mul1 (l : Addr) (items : Array Value) (n : Nat) (dd : Option Addr) (sl : Array (Option Value)) (x : Int) (u : Tok) (c0 : (decide (x < -(2 ^ 63)) || decide (x ≥ 2 ^ 63)) = false) (c1 : (items.isEmpty || x == 1) = true) :
    Meets (Builtin.«tuple.__mul__» ⟨[.ref l, .int x u], []⟩) (fun _ R s => s.heap.get? l = some { cls := .type "tuple", dict := dd, data := .seq items n, slots := sl } ∧ R (.ok (.ret (Value.ref l))) s) :=
  .of_wp fun prog w A R s h => by
    obtain ⟨hp, g, d, tk, os⟩ := s
    obtain ⟨hl, h⟩ := h
    have f1 := AutoSeq1.idx_int
    wp_walk using wpAny_loadPart' hl
    repeat (first
      | (refine wpAny_ite_false (decide_eq_false (by rw [c0]; exact Bool.false_ne_true)) ?_; wp_walk using wpAny_loadPart' hl)
      | (refine wpAny_ite_true (decide_eq_true (by rw [c1])) ?_; wp_walk using wpAny_loadPart' hl))
    exact ⟨_, rfl, h⟩
theorem tuple_mul0 (l : Addr) (items : Array Value) (n : Nat) (dd : Option Addr) (sl : Array (Option Value)) (x : Int) (u : Tok) (c0 : (decide (x < -(2 ^ 63)) || decide (x ≥ 2 ^ 63)) = false) (c1 : (items.isEmpty || x == 1) = false) (c2 : (decide (x ≤ 0) || items.isEmpty) = true) :
    Meets (Builtin.«tuple.__mul__» ⟨[.ref l, .int x u], []⟩) (fun _ R s => s.heap.get? l = some { cls := .type "tuple", dict := dd, data := .seq items n, slots := sl } ∧
      R (.ok (.ret (Value.ref s.heap.objs.size))) { s with heap := s.heap.push { cls := Value.type "tuple", data := Data.seq #[] }, toks := s.toks }) :=
  .of_wp fun prog w A R s h => by
    obtain ⟨hp, g, d, tk, os⟩ := s
    obtain ⟨hl, h⟩ := h
    have f1 := AutoSeq1.idx_int
    wp_walk using wpAny_loadPart' hl
    repeat (first
      | (refine wpAny_ite_false (decide_eq_false (by rw [c0]; exact Bool.false_ne_true)) ?_; wp_walk using wpAny_loadPart' hl)
      | (refine wpAny_ite_false (decide_eq_false (by rw [c1]; exact Bool.false_ne_true)) ?_; wp_walk using wpAny_loadPart' hl)
      | (refine wpAny_ite_true (decide_eq_true (by rw [c2])) ?_; wp_walk using wpAny_loadPart' hl))
    exact ⟨_, rfl, h⟩
def rRepT3 (K : PySem.W.Frag) : R2 := fun x y H Q => ∃ (l : Addr) (k : Nat) (xs : List V), x = .ref l ∧ y = .int (k : Nat) ∧ SqT K H l xs ∧ xs ≠ [] ∧ k ≤ 1000 ∧ xs.length ≤ 1000 ∧
  (k = 1 → Q (.ref l) H) ∧ (k ≠ 1 → ∀ p, H p = none → Q (.ref p) (upd H p (.tup (List.replicate k xs).flatten)))
theorem op_repT3 {X : Cx} : OpR X (binaryOp .Mult) (rRepT3 X.K) := by
  intro pins s σ H x y v u Q I rx ry h
  obtain ⟨l, k, xs, rfl, rfl, hT, hne, h2, hz, q1, q2⟩ := h
  have hT0 := hT
  have rx0 := rx
  have ry0 := ry
  cases rx
  obtain ⟨t, rfl⟩ := ry
  obtain ⟨its, r, ⟨⟨cls, dd, data, sl⟩, ho, hc, n, hd⟩, hs⟩ := I.tuple hT
  simp only at hc hd
  subst hc hd
  have hle : its.length = xs.length := r.length.symm
  have hi : its.toArray.isEmpty = false := by
    cases its with
    | nil => exact absurd (List.eq_nil_of_length_eq_zero hle.symm) hne
    | cons a b => rfl
  have c0 : (decide (((k : Nat) : Int) < -(2 ^ 63)) || decide (((k : Nat) : Int) ≥ 2 ^ 63)) = false := by
    rw [decide_eq_false (by omega), decide_eq_false (by omega)]; rfl
  by_cases k1 : k = 1
  · subst k1
    have c1 : (its.toArray.isEmpty || (((1 : Nat) : Int) == 1)) = true := by rw [hi]; rfl
    exact wpAny_binaryOp_repeat_ref (T := "tuple") (U := "int") (by decide) ⟨_, ho, rfl⟩ (fun s' => typeIs_int s' _ t) noFill_tuple_mul F.fills_int_mul F.slot_int_rmul repeat_tuple F.slot_int_index.lookup
      (call_meets F.slot_int_rmul (typeIs_int s _ t) F.entry_int_rmul (F.args_int_rmul_2 _ _) (int_rmul_tuple _ t l its.toArray n dd sl)
        ⟨ho, rfl, ⟨_, ho, rfl⟩, call_meets F.slot_tuple_mul ⟨_, ho, rfl⟩ F.entry_tuple_mul (F.args_tuple_mul_2 _ _) (tuple_mul1 l its.toArray n dd sl _ t c0 c1) ⟨ho, ⟨.ref l, H, I, rfl, q1 rfl⟩⟩⟩)
  · by_cases k0 : k = 0
    · subst k0
      have c1 : (its.toArray.isEmpty || (((0 : Nat) : Int) == 1)) = false := by rw [hi]; rfl
      have c2 : (decide (((0 : Nat) : Int) ≤ 0) || its.toArray.isEmpty) = true := by rw [hi]; rfl
      refine wpAny_binaryOp_repeat_ref (T := "tuple") (U := "int") (by decide) ⟨_, ho, rfl⟩ (fun s' => typeIs_int s' _ t) noFill_tuple_mul F.fills_int_mul F.slot_int_rmul repeat_tuple F.slot_int_index.lookup
        (call_meets F.slot_int_rmul (typeIs_int s _ t) F.entry_int_rmul (F.args_int_rmul_2 _ _) (int_rmul_tuple _ t l its.toArray n dd sl)
          ⟨ho, rfl, ⟨_, ho, rfl⟩, call_meets F.slot_tuple_mul ⟨_, ho, rfl⟩ F.entry_tuple_mul (F.args_tuple_mul_2 _ _) (tuple_mul0 l its.toArray n dd sl _ t c0 c1 c2) ⟨ho, ?_⟩⟩)
      refine ⟨.ref s.heap.objs.size, _, I.laid (t' := s.toks) (o := .tup []) (fun b ob q => Heap.get?_push_of_some _ q) (Nat.le_refl _) ?_, rfl, q2 (by decide) _ (I.hok.fresh (Nat.le_refl _))⟩
      exact ⟨Nat.zero_le _, [], .nil, IsTup.new _ _⟩
    · exact op_repT pins s σ H (.ref l) (.int (k : Nat)) (.ref l) (.int (k : Nat) t) Q I rx0 ry0 ⟨l, (k : Nat), xs, rfl, rfl, hT0, hne, by omega, by omega, hz, fun p hp => by
        rw [Int.toNat_natCast]; exact q2 k1 p hp⟩
theorem k_repT {X : Cx} {K : PySem.W.Frag} (hK : X.K = K) : OpR X (binaryOp .Mult) (rRepT3 K) := hK ▸ op_repT3
theorem s_repT {K : PySem.W.Frag} {a : Addr} {k : Nat} {xs : List V} {cs ds : List As} {H : Hp} {Q : VK} (S : Sep cs H) (p : Pick (pt a (.tup xs)) cs ds) (ne : xs ≠ []) (h2 : k ≤ 1000) (hz : xs.length ≤ 1000) (q : ∀ p H', Sep (pt p (.tup (List.replicate k xs).flatten) :: cs) H' → Q (.ref p) H') : rRepT3 K (.ref a) (.int (k : Nat)) H Q := by
  refine ⟨a, k, xs, rfl, rfl, SqT.of (S.get p), ne, h2, hz, fun e => ?_, fun _ p hp => q p _ (S.new hp)⟩
  subst e
  refine q a H ?_
  have S2 := Sep.cons (fun _ h => h) (Sep.dupT (S.pick p))
  rw [show (List.replicate 1 xs).flatten = xs by simp]
  exact Sep.cons (fun _ h => Sep.unpick p h) S2
/-! # x in a list of data -/
theorem k_inD {X : Cx} {K : PySem.W.Frag} (hK : X.K = K) {j : Nat} (hr : Room j X.A) : OpR X (compareOp .In) (rInD K) := hK ▸ op_inD (by have := hr.un; omega)
theorem k_notInD {X : Cx} {K : PySem.W.Frag} (hK : X.K = K) {j : Nat} (hr : Room j X.A) : OpR X (compareOp .NotIn) (rNotInD K) := hK ▸ op_notInD (by have := hr.un; omega)
theorem s_notInD {K : PySem.W.Frag} {H : Hp} {Q : VK} {x : V} {a : Addr} {d : PyData} {ds : List PyData} (h1 : Dp K H x d) (h2 : Dp K H (.ref a) (.list ds)) (s1 : SeqAt.shaped d = true) (s2 : SeqAt.shaped (.list ds) = true) (k : Q (.bl (!ds.any fun z => PyData.eqv z d)) H) : rNotInD K x (.ref a) H Q := ⟨d, ds, h1, h2, s1, s2, k⟩
theorem s_inD {K : PySem.W.Frag} {H : Hp} {Q : VK} {x : V} {a : Addr} {d : PyData} {ds : List PyData} (h1 : Dp K H x d) (h2 : Dp K H (.ref a) (.list ds)) (s1 : SeqAt.shaped d = true) (s2 : SeqAt.shaped (.list ds) = true) (k : Q (.bl (ds.any fun z => PyData.eqv z d)) H) : rInD K x (.ref a) H Q := ⟨d, ds, h1, h2, s1, s2, k⟩
/-! # law 18 -/
def tkD (us : List Tl) : List PyData := (us.filter Tl.isTone).map fun t => match t with
  | .tone _ k _ => trD (("" : PySem.Str), k)
  | _ => .none
theorem tkD_mem {us : List Tl} {x : PySem.Str} {k : Nat} {s : Int} (h : Tl.tone x k s ∈ us) : trD (("" : PySem.Str), k) ∈ tkD us :=
  List.mem_map.mpr ⟨_, List.mem_filter.mpr ⟨h, rfl⟩, rfl⟩
theorem tkD_lay (us : List Tl) : ∀ d ∈ tkD us, ∃ k : Nat, d = trD (("" : PySem.Str), k) := fun d hd => by
  obtain ⟨t, ht, rfl⟩ := List.mem_map.mp hd
  have := (List.mem_filter.mp ht).2
  cases t <;> first | exact ⟨_, rfl⟩ | cases this
theorem lay_tr {w : PySem.Str} (h : tz w) (k : Nat) : (trD (w, k)).canLay0 = true := by
  have h : PyData.canLay0 (.str w) = true := h
  show (PyData.canLay0 (.str w) && true) = true
  rw [h]; rfl
theorem shaped_tr {w : PySem.Str} (h : tz w) (k : Nat) : SeqAt.shaped (trD (w, k)) = true := by
  unfold SeqAt.shaped
  rw [lay_tr h k]; rfl
theorem shaped_tkD (us : List Tl) : SeqAt.shaped (.list (tkD us)) = true := by
  have a : PyData.canLay0 (.list (tkD us)) = true := lay_lst fun d hd => by
    obtain ⟨k, rfl⟩ := tkD_lay us d hd
    exact lay_tr tz_nil k
  have b : PyData.depth (.list (tkD us)) ≤ 64 := by
    have : PyData.depthAll (tkD us) ≤ 1 := depthAll_le fun d hd => by
      obtain ⟨k, rfl⟩ := tkD_lay us d hd
      exact Nat.le_refl _
    show PyData.depthAll (tkD us) + 1 ≤ 64
    omega
  unfold SeqAt.shaped
  rw [a, decide_eq_true b]; rfl
theorem tk_any {us : List Tl} {x : PySem.Str} {k : Nat} {s : Int} (h : Tl.tone x k s ∈ us) : ((tkD us).any fun z => PyData.eqv z (trD (("" : PySem.Str), k))) = true :=
  List.any_eq_true.mpr ⟨_, tkD_mem h, eqv_same (shaped_tr tz_nil k)⟩
def spHangsR (ad : Ad) : Sp := fun vs H Q E => ∃ (B : HL) (d : Pd) (n : Nat) (h : Hs) (l : PySem.Str) (F : List As), vs = [.ref B.p, .str l] ∧ PdOk d ∧ Good d n h ∧ n ≤ 90000 ∧ Gd B h ∧ l ∈ h.lines ∧ (h.ln l).way ≠ .rests ∧ (h.ln l).way ≠ .rung ∧ Sep (HC ad B h F) H ∧
  ∀ (us : List Tl) (h' : Hs) (H' : Hp), h.step (.ln .hang l) = .ok (.rests l :: us, h') → HangR h h' l us → Sep (HC ad B h' F) H' → Q (.bl true) H'
theorem len_hangsr {ad vs H Q E} (h : spHangsR ad vs H Q E) : vs.length = 2 := by obtain ⟨_, _, _, _, _, _, rfl, _⟩ := h; rfl
theorem Sep.lsCons {a : Addr} {d : PyData} {ds : List PyData} {F : List As} {H : Hp} (S : Sep (lsI a (d :: ds) :: F) H) : ∃ x xs, Sep (pt a (.lst (x :: xs)) :: im x d :: ims xs ds :: F) H := by
  obtain ⟨ys, S⟩ := Sep.lsO S
  obtain ⟨x, xs, rfl⟩ : ∃ x xs, ys = x :: xs := by
    have := S.imsGet (Pick.there Pick.here)
    cases this with
    | cons a r => exact ⟨_, _, rfl⟩
  exact ⟨x, xs, Sep.cons (fun _ h => Sep.imsHd h) S⟩
theorem s_neIT {K : PySem.W.Frag} {H : Hp} {Q : VK} {x : V} {t : Addr} {xs : List V} {d : PyData} {ds : List PyData} {cs c1 c2 : List As} (S : Sep cs H) (p : Pick (im x d) cs c1) (e : d = .tuple ds) (q : Pick (pt t (.tup xs)) cs c2) (h : ∀ H, IsAll H xs ds) (sh : SeqAt.shaped (.tuple ds) = true) (k : Q (.bl false) H) : rNeZ K x (.ref t) H Q := by
  subst e
  refine s_neD (Dp.im S p) (.tup (SqT.of (S.get q)) (h H).dp) sh sh ?_
  rw [eqv_same sh]
  exact k
theorem s_eqIT {K : PySem.W.Frag} {H : Hp} {Q : VK} {x : V} {t : Addr} {xs : List V} {d : PyData} {ds : List PyData} {cs c1 c2 : List As} (S : Sep cs H) (p : Pick (im x d) cs c1) (e : d = .tuple ds) (q : Pick (pt t (.tup xs)) cs c2) (h : ∀ H, IsAll H xs ds) (sh : SeqAt.shaped (.tuple ds) = true) (k : Q (.bl true) H) : rEqZ K x (.ref t) H Q := by
  subst e
  refine s_eqD (Dp.im S p) (.tup (SqT.of (S.get q)) (h H).dp) sh sh ?_
  rw [eqv_same sh]
  exact k
theorem shaped_tl1 {t : Tl} (h : t.tx) : SeqAt.shaped t.d = true := by
  unfold SeqAt.shaped
  rw [Tl.lay h, decide_eq_true (show t.d.depth ≤ 64 from Nat.le_trans (Tl.depth t) (by decide))]; rfl
theorem tkD_cons {t : Tl} {us : List Tl} (h : t.isTone = false) : tkD (t :: us) = tkD us := by
  unfold tkD
  rw [List.filter_cons_of_neg (by rw [h]; decide)]
theorem tkD_snoc (us : List Tl) (t : Tl) : tkD (us ++ [t]) = tkD us ++ tkD [t] := by
  unfold tkD
  rw [List.filter_append, List.map_append]
theorem tkD_len (us : List Tl) : (tkD us).length ≤ us.length := by
  unfold tkD
  rw [List.length_map]; exact List.length_filter_le _ _
theorem Sep.tripL {t : Addr} {x : PySem.Str} {k : Nat} {F : List As} {H : Hp} (S : Sep (pt t (.tup [.str x, .int k]) :: F) H) : Sep (im (.ref t) (trD (x, k)) :: F) H := Sep.imF S
theorem Sep.trO {v : V} {p : PySem.Str × Nat} {F : List As} {H : Hp} (S : Sep (im v (trD p) :: F) H) : ∃ t, v = .ref t ∧ Sep (pt t (.tup [.str p.1, .int p.2]) :: F) H := Sep.imTF (ds := [.str p.1, .int p.2]) S rfl
/-- a turned row -/
theorem cutV_at {xs : List V} {n : Nat} (h : n ≤ xs.length) : cutV xs (some (n : Nat)) none ++ cutV xs none (some (n : Nat)) = xs.drop n ++ xs.take n := by
  unfold cutV
  rw [show HT.sIx xs.length xs.length none = xs.length from rfl, show HT.sIx xs.length 0 none = 0 from rfl, HT.sIx_nat xs.length 0 n, HT.sIx_nat xs.length xs.length n, Nat.min_eq_left h, Nat.sub_zero, List.drop_zero]
  congr 1
  rw [List.take_of_length_le (by rw [List.length_drop]; omega)]
theorem two_pass {i : Nat} (h : i < 2) : i = 0 ∨ i = 1 := by omega
theorem lay_q2 : SeqAt.shaped (.list [.str "rests", .str "", .list [], .none, .none]) = true := by decide +kernel
/-- the racks of a plan's parts, their sizes -/
theorem gz_at {d : Pd} {ls : List PySem.Str} {gs : List Pr} (pa : PaOk d ls gs) {n : Nat} {h : Hs} (g : Good d n h) {p : Pr} (hp : p ∈ ((("" : PySem.Str), (d.sk : Int)) : Pr) :: gs) : p.1 ∈ h.wheres ∧ ∃ m : Nat, p.2 = m ∧ m ≤ 60 ∧ (h.rk p.1).held.length = m := by
  have pd := pa.ok
  refine ⟨?_, ?_⟩
  · rw [g.wheres]
    refine (pa.whs p.1).mp ?_
    rcases List.mem_cons.mp hp with rfl | hp
    · exact List.mem_cons_self
    · exact List.mem_cons_of_mem _ (List.mem_map_of_mem (f := fun (g : Pr) => g.1) hp)
  · rcases List.mem_cons.mp hp with rfl | hp
    · exact ⟨d.sk, rfl, pd.s60, by rw [g.sz pd]; exact new_sz0 d⟩
    · have hd := pa.p2.mem_iff.mpr hp
      obtain ⟨f1, f2, f3, f4, f5⟩ := pd.gf p hd
      refine ⟨p.2.toNat, by omega, by omega, ?_⟩
      rw [g.sz pd, show (Hs.new d).rk p.1 = Rc.new (cntG d.gs p.1) from if_neg f1, cntG_at pd.gnd hd]
      simp [Rc.new]
theorem dsets {r : Rc} {k m : Nat} (hm : m < r.brk.length) (h : ∀ j < m, r.brk[j]? = some false) (hk : k < m + 1) : (r.brkAt m false).brk[k]? = some false := by
  show (r.brk.set m false)[k]? = _
  by_cases e : m = k
  · subst e; rw [List.getElem?_set_self hm]
  · rw [List.getElem?_set_ne e]; exact h k (by omega)
end L2.Zs
namespace L2.Zs
open PySem PySem.Spec PyProof.Rows
/-! # law 15 -/
def cnA (c : Cn) (x : PySem.Str) : List V := [.str (c x).1, .int (c x).2]
@[reducible] def cnC (a : Addr) (ks : List PySem.Str) (c : Cn) : As := mapV a ks (lstA (cnA c))
def ppA (pf : PySem.Str → List PySem.Str) (x : PySem.Str) : PyData := .tuple ((pf x).map .str)
@[reducible] def ppC (a : Addr) (ks : List PySem.Str) (pf : PySem.Str → List PySem.Str) : As := mapV a ks (imA (ppA pf))
/-- the texts so far are short -/
def CnS (c : Cn) : Dd → List PySem.Str → Prop
  | .ln .pulse x, ks => x ∈ ks
  | .ln .gap x, ks => x ∈ ks ∧ (c x).1.length ≤ 100
  | _, _ => True
def spCounted : Sp := fun vs H Q E => ∃ (cp : Addr) (ks : List PySem.Str) (c : Cn) (dv : V) (d : Dd) (av : V) (F : List As), vs = [.ref cp, dv, av] ∧ ks.Nodup ∧ ks.length ≤ 1000 ∧
  ((∃ z, av = .str z ∧ Sep (im dv d.d :: cnC cp ks c :: F) H ∧ ∀ H', Sep (im dv d.d :: cnC cp ks c :: F) H' → Q .non H') ∨
   (∃ (p : Addr) (ts : List Tl), av = .ref p ∧ CnS c d ks ∧ (∀ l k s, Tl.tone l k s ∈ ts → l ∈ ks) ∧ Sep (lsI p (ts.map Tl.d) :: im dv d.d :: cnC cp ks c :: F) H ∧
    ∀ H', Sep (lsI p (ts.map Tl.d) :: im dv d.d :: cnC cp ks (cntT (cntD c d) ts) :: F) H' → Q .non H'))
theorem len_counted {vs H Q E} (h : spCounted vs H Q E) : vs.length = 3 := by obtain ⟨_, _, _, _, _, _, _, rfl, _⟩ := h; rfl
def spTakenR : Sp := fun vs H Q E => ∃ (pp : Addr) (ks : List PySem.Str) (pf : PySem.Str → List PySem.Str) (av : V) (F : List As), vs = [.ref pp, av] ∧ ks.Nodup ∧
  ((∃ z, av = .str z ∧ Sep (ppC pp ks pf :: F) H ∧ ∀ H', Sep (ppC pp ks pf :: F) H' → Q (.bl true) H') ∨
   (∃ (p : Addr) (ts : List Tl), av = .ref p ∧ (∀ l f k, Tl.takes l f k ∈ ts → f ∈ ks ∧ k < (pf f).length ∧ (pf f)[k]? = some ("free" : PySem.Str) ∧ ("free" : PySem.Str) ∉ (pf f).take k) ∧ Sep (lsI p (ts.map Tl.d) :: ppC pp ks pf :: F) H ∧
    ∀ H', Sep (lsI p (ts.map Tl.d) :: ppC pp ks pf :: F) H' → Q (.bl true) H'))
theorem len_takenr {vs H Q E} (h : spTakenR vs H Q E) : vs.length = 2 := by obtain ⟨_, _, _, _, _, rfl, _, _⟩ := h; rfl
def spTrainsR (ad : Ad) : Sp := fun vs H Q E => ∃ (B : HL) (t a b cp : Addr) (d : Pd) (ls : List PySem.Str) (xs : List V) (gs : List Pr) (n : Nat) (h : Hs) (c : Cn) (F : List As), vs = [.ref B.p, .ref t, .ref cp] ∧ PaOk d ls gs ∧ Good d n h ∧ CntOk h c ∧ Sep (cnC cp ls c :: HC ad B h (partC t a b d ls xs gs F)) H ∧
  ∀ H', Sep (cnC cp ls c :: HC ad B h (partC t a b d ls xs gs F)) H' → Q (.bl true) H'
theorem len_trainsr {ad vs H Q E} (h : spTrainsR ad vs H Q E) : vs.length = 3 := by obtain ⟨_, _, _, _, _, _, _, _, _, _, _, _, _, rfl, _⟩ := h; rfl
theorem wd_pulse : ∀ d : Dd, decide (d.z = Str.ofString "pulse") = (match d with | .ln .pulse _ => true | _ => false)
  | .sw true _ _ => (show decide (("stick" : PySem.Str) = Str.ofString "pulse") = false by decide +kernel)
  | .sw false _ _ => (show decide (("mend" : PySem.Str) = Str.ofString "pulse") = false by decide +kernel)
  | .ln .lift _ => (show decide (("lift" : PySem.Str) = Str.ofString "pulse") = false by decide +kernel)
  | .ln .hang _ => (show decide (("hang" : PySem.Str) = Str.ofString "pulse") = false by decide +kernel)
  | .ln .pulse _ => (show decide (("pulse" : PySem.Str) = Str.ofString "pulse") = true by decide +kernel)
  | .ln .gap _ => (show decide (("gap" : PySem.Str) = Str.ofString "pulse") = false by decide +kernel)
theorem wd_gap : ∀ d : Dd, decide (d.z = Str.ofString "gap") = (match d with | .ln .gap _ => true | _ => false)
  | .sw true _ _ => (show decide (("stick" : PySem.Str) = Str.ofString "gap") = false by decide +kernel)
  | .sw false _ _ => (show decide (("mend" : PySem.Str) = Str.ofString "gap") = false by decide +kernel)
  | .ln .lift _ => (show decide (("lift" : PySem.Str) = Str.ofString "gap") = false by decide +kernel)
  | .ln .hang _ => (show decide (("hang" : PySem.Str) = Str.ofString "gap") = false by decide +kernel)
  | .ln .pulse _ => (show decide (("pulse" : PySem.Str) = Str.ofString "gap") = false by decide +kernel)
  | .ln .gap _ => (show decide (("gap" : PySem.Str) = Str.ofString "gap") = true by decide +kernel)
/-- a deed's tuple, laid open -/
theorem Sep.imDd {x : V} {d : Dd} {F : List As} {H : Hp} (S : Sep (im x d.d :: F) H) : ∃ t, x = .ref t ∧ Sep (pt t (.tup (.str d.z :: d.rest.map vD)) :: F) H := by
  rw [d.d_eq] at S
  exact Sep.imTF S d.fl
theorem cntT_snoc {c : Cn} {ts : List Tl} {t : Tl} : cntT c (ts ++ [t]) = cntT1 (cntT c ts) t := by
  unfold cntT; rw [List.foldl_append]; rfl
/-- the first n of a tuple, not all -/
theorem s_slTp {K : PySem.W.Frag} {H : Hp} {Q : VK} {a : Addr} {xs : List V} {n : Nat} {cs ds : List As} (S : Sep cs H) (p : Pick (pt a (.tup xs)) cs ds) (h : n < xs.length) (k : ∀ q H', Sep (pt q (.tup (xs.take n)) :: cs) H' → Q (.ref q) H') : rSlT K (.ref a) none (some (n : Nat)) H Q := by
  refine ⟨a, xs, rfl, SqT.of (S.get p), fun z => ?_, fun q hq => ?_⟩
  · have z2 : HT.sIx xs.length xs.length (some ((n : Nat) : Int)) = xs.length := z.2
    rw [HT.sIx_nat xs.length xs.length n] at z2
    omega
  · rw [cutV_pre]
    exact k q _ (S.new hq)
theorem figs_le {h : Hs} (o : h.Ok) {x : PySem.Str} (hx : x ∈ h.lines) : (h.ln x).figs.length ≤ 4 := by
  have q := o.per x hx
  have g4 := o.sh.g4
  have z0 : ("" : PySem.Str).length = 0 := by decide +kernel
  generalize h.ln x = r at q
  cases q with
  | dials a _ _ _ => exact Nat.le_trans (Nat.le_of_lt a) g4
  | rings a _ _ => exact Nat.le_trans (Nat.le_of_eq (o.sh.lf _ a).1) g4
  | talksA a _ _ => exact Nat.le_trans (Nat.le_of_eq (o.sh.lf _ a).1) g4
  | told a _ _ => exact Nat.le_trans a g4
  | _ => show ("" : PySem.Str).length ≤ 4; omega
theorem prz_pre (z : PySem.Str) (n : Nat) : prz z n = pre z n := str_ext (by rw [prz_codes, pre_codes])
theorem s_slPre {z : PySem.Str} {n : Nat} {H : Hp} {Q : VK} (h : z.length ≤ 1000) (k : Q (.str (pre z n)) H) : rSlS (.str z) none (some (n : Nat)) H Q :=
  ⟨z, rfl, Nat.le_trans h (by decide), by rw [← prz_pre] at k; exact k⟩
theorem tr_shaped {h : Hs} (o : h.Ok) {l : PySem.Str} (hl : l ∈ h.lines) : SeqAt.shaped (.list ((h.ln l).train.map trD)) = true := by
  have a : PyData.canLay0 (.list ((h.ln l).train.map trD)) = true := lay_lst fun d hd => by
    obtain ⟨p, hp, rfl⟩ := List.mem_map.mp hd
    exact lay_tr (o.tzw (o.hb.trw l hl p hp)) p.2
  have b : PyData.depth (.list ((h.ln l).train.map trD)) ≤ 64 := by
    have : PyData.depthAll ((h.ln l).train.map trD) ≤ 1 := depthAll_le fun d hd => by
      obtain ⟨p, hp, rfl⟩ := List.mem_map.mp hd
      exact Nat.le_refl _
    show PyData.depthAll _ + 1 ≤ 64
    omega
  unfold SeqAt.shaped
  rw [a, decide_eq_true b]; rfl
theorem s_neNilG {K : PySem.W.Frag} {H : Hp} {Q : VK} {a b : Addr} {ps : List PyData} (h1 : Dp K H (.ref a) (.list ps)) (h2 : H b = some (.lst [])) (sh : SeqAt.shaped (.list ps) = true) (k : Q (.bl (!ps.isEmpty)) H) : rNeZ K (.ref a) (.ref b) H Q := by
  refine s_neD h1 (.lst (SqL.of h2) .nil) sh (shaped_lst (xs := []) (fun _ h => nomatch h)) ?_
  rw [show PyData.eqv (.list ps) (.list []) = ps.isEmpty by cases ps <;> rfl]
  exact k
theorem tzs {h : Hs} (o : h.Ok) {f : PySem.Str} (d : ∀ c ∈ f.cps.toList, 48 ≤ c ∧ c ≤ 57) : ∀ v ∈ (heads h.long f).map V.str, okV v = true := fun v hv => by
  obtain ⟨z, hz, rfl⟩ := List.mem_map.mp hv
  unfold heads at hz
  obtain ⟨i, _, rfl⟩ := List.mem_map.mp hz
  exact tz_dig fun c hc => d c (by rw [pre_codes] at hc; exact List.mem_of_mem_take hc)
theorem wd_gap0 {d : Dd} (h : ¬ ∃ z, d = .ln .gap z) : decide (d.z = Str.ofString "gap") = false := by
  rw [wd_gap]
  cases d with
  | sw _ _ _ => rfl
  | ln wd z => cases wd <;> first | rfl | exact absurd ⟨z, rfl⟩ h
end L2.Zs
namespace L2.Zs
open PySem PySem.Spec PyProof.Rows
/-! # laws 09, 10, 11: a hall and a world led alike -/
def spLed2 (ad : Ad) : Sp := fun vs H Q E => ∃ (B : HL) (M : WM) (t dp : Addr) (n : Nat) (h : Hs) (ds : List Dd) (F : List As), vs = [.ref B.p, .ref M.p, .ref dp] ∧ HWok n ⟨t, B, M, h⟩ ∧ n + ds.length ≤ 90000 ∧ Sep (lsI dp (ds.map Dd.d) :: HC ad B h (worC M h F)) H ∧
  ∀ (h' : Hs) (H' : Hp), HWok (n + ds.length) ⟨t, B, M, h'⟩ → h'.lines = h.lines → Sep (lsI dp (ds.map Dd.d) :: HC ad B h' (worC M h' F)) H' → Q (.bl true) H'
theorem len_led2 {ad vs H Q E} (h : spLed2 ad vs H Q E) : vs.length = 3 := by obtain ⟨_, _, _, _, _, _, _, _, rfl, _⟩ := h; rfl
def spDials2 : Sp := fun vs H Q E => ∃ (line goal : PySem.Str) (n : Nat) (F : List As), vs = [.str line, .str goal] ∧ figs n goal ∧ n ≤ 4 ∧ Sep F H ∧
  ∀ (ds : List Dd) (p : Addr) (H' : Hp), ds.length ≤ 60 → Sep (lsI p (ds.map Dd.d) :: F) H' → Q (.ref p) H'
theorem len_dials2 {vs H Q E} (h : spDials2 vs H Q E) : vs.length = 2 := by obtain ⟨_, _, _, _, rfl, _⟩ := h; rfl
def spWide : Sp := fun vs H Q E => ∃ (t a b : Addr) (draw : Int) (d : Pd) (ls : List PySem.Str) (xs : List V) (gs : List Pr) (F : List As), vs = [.ref t, .int draw] ∧ PaOk d ls gs ∧ Sep (partC t a b d ls xs gs F) H ∧
  ∀ (t a b : Addr) (d : Pd) (ls : List PySem.Str) (xs : List V) (gs : List Pr) (H' : Hp), PaOk d ls gs → Sep (partC t a b d ls xs gs F) H' → Q (.ref t) H'
theorem len_wide {vs H Q E} (h : spWide vs H Q E) : vs.length = 2 := by obtain ⟨_, _, _, _, _, _, _, _, _, rfl, _⟩ := h; rfl
/-! the beginnings of lines -/
def headsNext (m : Nat) (hs : List PySem.Str) (l : PySem.Str) : List PySem.Str := hs ++ ((List.range m).map fun i => prz l (i + 1)).filter fun z => !decide (z ∈ hs)
def headsOf (m : Nat) (ls : List PySem.Str) : List PySem.Str := ls.foldl (headsNext m) []
theorem headsOf_snoc {m : Nat} {ls : List PySem.Str} {l : PySem.Str} : headsOf m (ls ++ [l]) = headsNext m (headsOf m ls) l := by
  unfold headsOf; rw [List.foldl_append]; rfl
structure HeadsOk (long m : Nat) (ls hs : List PySem.Str) : Prop where
  nd : hs.Nodup
  fg : ∀ z ∈ hs, 1 ≤ z.length ∧ z.length + 2 ≤ long ∧ ∀ c ∈ z.cps.toList, 48 ≤ c ∧ c ≤ 57
  len : hs.length ≤ m * ls.length
  fst : ∀ l r, ls = l :: r → ∀ i < m, prz l (i + 1) ∈ hs.take m
theorem headsOk {long m : Nat} (em : m + 2 = long) : ∀ {ls : List PySem.Str}, (∀ l ∈ ls, figs long l) → HeadsOk long m ls (headsOf m ls) := by
  intro ls
  have key : ∀ (n : Nat) (ls : List PySem.Str), ls.length = n → (∀ l ∈ ls, figs long l) → HeadsOk long m ls (headsOf m ls) := by
    intro n
    induction n with
    | zero =>
      intro ls e _
      obtain rfl := List.eq_nil_of_length_eq_zero e
      exact ⟨List.nodup_nil, (fun z hz => nomatch hz), Nat.zero_le _, (fun l r e => nomatch e)⟩
    | succ n ih =>
      intro ls e hf
      have ne : ls ≠ [] := by rintro rfl; cases e
      obtain ⟨rs, l, rfl⟩ : ∃ rs l, ls = rs ++ [l] := ⟨ls.dropLast, ls.getLast ne, (List.dropLast_concat_getLast ne).symm⟩
      have rl : rs.length = n := by rw [List.length_append] at e; exact Nat.succ.inj e
      have R := ih rs rl fun z hz => hf z (List.mem_append_left _ hz)
      have fl := hf l (List.mem_append_right _ (List.mem_singleton.mpr rfl))
      rw [headsOf_snoc]
      have pz : ∀ i < m, figs (i + 1) (prz l (i + 1)) := fun i hi => prz_figs fl (by omega)
      have ysl : (((List.range m).map fun i => prz l (i + 1)).filter fun z => !decide (z ∈ headsOf m rs)).length ≤ m := by
        refine Nat.le_trans (List.length_filter_le _ _) ?_
        rw [List.length_map, List.length_range]; exact Nat.le_refl _
      unfold headsNext
      refine ⟨List.nodup_append.mpr ⟨R.nd, ?_, fun a ha b hb e => ?_⟩, fun z hz => ?_, ?_, fun l2 r e2 i hi => ?_⟩
      · refine List.Pairwise.filter _ ?_
        rw [List.pairwise_map]
        refine List.Pairwise.imp_of_mem (fun {a b} ha hb (ne : a ≠ b) e => ?_) List.nodup_range
        have h1 := (pz a (List.mem_range.mp ha)).1
        have h2 := (pz b (List.mem_range.mp hb)).1
        rw [e] at h1
        omega
      · have := (List.mem_filter.mp hb).2
        rw [← e] at this
        simp [ha] at this
      · rcases List.mem_append.mp hz with hz | hz
        · exact R.fg z hz
        · obtain ⟨i, hi, rfl⟩ := List.mem_map.mp (List.mem_filter.mp hz).1
          have hi := List.mem_range.mp hi
          have := pz i hi
          exact ⟨by rw [this.1]; omega, by rw [this.1]; omega, this.2⟩
      · rw [List.length_append, List.length_append]
        have := R.len
        show _ ≤ m * (rs.length + 1)
        rw [Nat.mul_add]
        omega
      · cases rs with
        | nil =>
          have e2 : l :: [] = l2 :: r := e2
          obtain ⟨rfl, _⟩ := List.cons.inj e2
          show prz l (i + 1) ∈ ([] ++ ((List.range m).map fun i => prz l (i + 1)).filter fun z => !decide (z ∈ ([] : List PySem.Str))).take m
          rw [List.nil_append, List.filter_eq_self.mpr (fun z _ => by simp), List.take_of_length_le (by rw [List.length_map, List.length_range]; exact Nat.le_refl _)]
          exact List.mem_map.mpr ⟨i, List.mem_range.mpr hi, rfl⟩
        | cons l0 rs =>
          obtain ⟨rfl, _⟩ := List.cons.inj e2
          have := R.fst l0 rs rfl i hi
          rw [List.take_append]
          exact List.mem_append_left _ this
  exact fun hf => key ls.length ls rfl hf
/-- enumerate in a comprehension -/
theorem s_lcE {K : PySem.W.Frag} {H : Hp} {Q : VK} {a : Addr} {xs : List V} {cs : List As} {g : TG} {tt : TT} {te : TE} {vs : List Nat} {σ : St} (S : Sep cs H) (Pv : Addr → Nat → Hp → Prop) (h0 : ∀ D H', Sep (pt D (.lst []) :: cs) H' → Pv D 0 H') (hl : ∀ D i H', i ≤ xs.length → Pv D i H' → SqL K H' a xs)
    (hs : ∀ D i x T H', xs[i]? = some x → Pv D i H' → H' T = none → g (.ref T) (wipe σ vs) (upd H' T (.tup [.int (i : Nat), x])) fun σ2 H2 => wipe σ2 vs = wipe σ vs ∧ tt σ2 H2 fun b H3 => if b = true then te σ2 H3 fun y H4 => LcPut D y (Pv D (i + 1)) H4 else Pv D (i + 1) H3)
    (hd : ∀ D H', Pv D xs.length H' → Q (.ref D) H') : LcGo (Ite K a) g tt te vs σ Q H := by
  intro D hD
  refine ⟨fun i m H => m = xs.length - i ∧ i ≤ xs.length ∧ Pv D i H, ⟨xs.length, by simp, Nat.zero_le _, h0 D _ (S.new hD)⟩, ?_⟩
  rintro i m H ⟨rfl, hi, p⟩
  have hq := hl D i H hi p
  by_cases hlt : i < xs.length
  · have hx : xs[i]? = some xs[i] := List.getElem?_eq_getElem hlt
    refine .inr ⟨⟨xs, xs[i], hq, hx⟩, Pv D (i + 1), fun H' p' => ⟨xs.length - (i + 1), by omega, rfl, hlt, p'⟩, fun x H' y => ?_⟩
    obtain ⟨T, z, rfl, hT, rfl, hz⟩ := y
    exact hs D i z T H (hz xs hq) p hT
  · have e : i = xs.length := by omega
    subst e
    exact .inl ⟨⟨xs, hq, Nat.le_refl _⟩, hd D H p⟩
instance {K : PySem.W.Frag} {tr : TA} {σ : St} {H : Hp} {R : It → Hp → Prop} : Stp (iEnum K tr σ H R) (tr σ H fun vs H1 => ForE K R vs H1) := ⟨id⟩
theorem s_forEc {K : PySem.W.Frag} {H : Hp} {R : It → Hp → Prop} {a : Addr} {xs : List V} {cs ds : List As} (S : Sep cs H) (p : Pick (pt a (.lst xs)) cs ds) (k : R (Ite K a) H) : ForE K R [.ref a] H := ⟨a, xs, rfl, SqL.of (S.get p), k⟩
end L2.Zs
namespace L2.Zs
open PySem PySem.Spec PyProof.Rows
/-! # xs[i:j] = ys -/
def SlPut (x : V) (l u : Option Int) (v : V) (R : Hp → Prop) (H : Hp) : Prop := ∃ (a b : Addr) (xs ys : List V) (i j : Int), x = .ref a ∧ l = some i ∧ u = some j ∧ v = .ref b ∧ H a = some (.lst xs) ∧ H b = some (.lst ys) ∧ a ≠ b ∧ 0 ≤ i ∧ i ≤ j ∧ j ≤ xs.length ∧
  xs.length + ys.length ≤ sizeLine ∧ R (upd H a (.lst (xs.take i.toNat ++ ys ++ xs.drop j.toNat)))
def gSlice (to : TE) (tl th : TO) : TG := fun v σ H R => to σ H fun x H1 => tl σ H1 fun l H2 => th σ H2 fun u H3 => SlPut x l u v (fun H4 => R σ H4) H3
theorem pg_slice {X : Cx} {o : Expr} {lo hi : Option Expr} {to : TE} {tl th : TO} {pos p2 : Pos} (ho : PE X o to) (hl : PO X lo tl) (hu : PO X hi th)
    (ha : ∀ v, assign (.Subscript o (.Slice lo hi none p2) pos) X.env v = (do
      let ov ← holding [v] (eval o X.env)
      let iv ← holding [v, ov] (eval (.Slice lo hi none p2) X.env)
      standAt pos
      holding [v, ov, iv] (setItem ov iv v)
      release [iv, v, ov] []) := by intro _; rfl) : PG X (.Subscript o (.Slice lo hi none p2) pos) (gSlice to tl th) := by
  refine ⟨fun pins s σ H v u Q I r h => ?_⟩
  rw [ha]
  refine wpAny_bind (wpAny_holding (thn (ho.run pins s σ H _ I h) fun ov s1 ⟨x, H1, I1, r1, q1⟩ => ?_))
  refine wpAny_bind (wpAny_holding (wpAny_Slice (thn (hl.run pins s1 σ H1 _ I1 q1) fun vl s2 ⟨l, H2, I2, pl, q2⟩ => thn (hu.run pins s2 σ H2 _ I2 q2) fun vu s3 ⟨w, H3, I3, pu, q3⟩ => ?_)))
  rw [evalPart_none]
  refine wpAny_pure ?_
  have I4 : Inv X pins σ H3 { s3 with heap := s3.heap.push { cls := .type "slice", data := .fields #[vl, vu, .none] } } := I3.kept (t' := s3.toks) fun b ob q => Heap.get?_push_of_some _ q
  obtain ⟨a, b, xs, ys, i, j, rfl, rfl, rfl, rfl, hH, hB, hne, h0, hij, hj, hz, q4⟩ := q3
  obtain rfl : ov = Value.ref a := r1
  obtain rfl : u = Value.ref b := r
  have ra : RelV (.int i) vl := by cases pl with | int k t => exact ⟨t, rfl⟩
  have rc : RelV (.int j) vu := by cases pu with | int k t => exact ⟨t, rfl⟩
  refine wpAny_bind (wpAny_standAt (wpAny_bind (wpAny_holding (set_slice I4 hH hB hne (Heap.IsSliceOf.new ..) ra rc h0 hij hj hz fun s5 I5 => ?_))))
  exact wpAny_release ⟨σ, _, I5, q4⟩
section
variable {to : TE} {tl th : TO} {σ : St} {H : Hp} {v : V} {R : St → Hp → Prop} {te : TE} {Q : Option Int → Hp → Prop} {x : V} {i : Int} {P : Option Int → Prop}
instance : Stp (gSlice to tl th v σ H R) (to σ H fun x H1 => tl σ H1 fun l H2 => th σ H2 fun u H3 => SlPut x l u v (fun H4 => R σ H4) H3) := ⟨id⟩
instance stp_part2 : Stp (tPart te σ H Q) (te σ H fun x H1 => ∃ i, x = .int i ∧ Q (some i) H1) := ⟨id⟩
theorem s_slPut {a b : Addr} {xs ys : List V} {i j : Int} {R : Hp → Prop} {cs cs' ds : List As} (S : Sep cs H) (g : Chg (pt a (.lst xs)) (pt a (.lst (xs.take i.toNat ++ ys ++ xs.drop j.toNat))) cs cs') (p : Pick (pt b (.lst ys)) cs ds) (ne : a ≠ b) (h0 : 0 ≤ i) (hij : i ≤ j) (hj : j ≤ xs.length) (hz : xs.length + ys.length ≤ sizeLine) (k : ∀ H', Sep cs' H' → R H') : SlPut (.ref a) (some i) (some j) (.ref b) R H :=
  ⟨a, b, xs, ys, i, j, rfl, rfl, rfl, rfl, (let ⟨_, p, _⟩ := g.pick; S.get p), S.get p, ne, h0, hij, hj, hz, k _ (S.set g rfl)⟩
end
/-! # a comprehension over a text -/
instance {te : TE} {σ : St} {H : Hp} {R : It → Hp → Prop} : Stp (iStr te σ H R) (te σ H fun v H1 => ∃ x, v = .str x ∧ R (Its x) H1) := ⟨id⟩
theorem s_lcS {H : Hp} {Q : VK} {z : PySem.Str} {cs : List As} {g : TG} {tt : TT} {te : TE} {vs : List Nat} {σ : St} (S : Sep cs H) (Pv : Addr → Nat → Hp → Prop) (h0 : ∀ D H', Sep (pt D (.lst []) :: cs) H' → Pv D 0 H')
    (hs : ∀ D i c H', z.cps.toList[i]? = some c → Pv D i H' → g (.str ⟨#[c]⟩) (wipe σ vs) H' fun σ2 H2 => wipe σ2 vs = wipe σ vs ∧ tt σ2 H2 fun b H3 => if b = true then te σ2 H3 fun y H4 => LcPut D y (Pv D (i + 1)) H4 else Pv D (i + 1) H3)
    (hd : ∀ D H', Pv D z.cps.toList.length H' → Q (.ref D) H') : LcGo (Its z) g tt te vs σ Q H := by
  intro D hD
  refine ⟨fun i m H => m = z.cps.size - i ∧ i ≤ z.cps.size ∧ Pv D i H, ⟨z.cps.size, by simp, Nat.zero_le _, h0 D _ (S.new hD)⟩, ?_⟩
  rintro i m H ⟨rfl, hi, p⟩
  by_cases hlt : i < z.cps.size
  · refine .inr ⟨hlt, Pv D (i + 1), fun H' p' => ⟨z.cps.size - (i + 1), by omega, rfl, hlt, p'⟩, fun x H' y => ?_⟩
    obtain ⟨e, c, hc, rfl⟩ := y
    subst e
    exact hs D i c _ (by rw [Array.getElem?_toList]; exact hc) p
  · have e : i = z.cps.size := by omega
    subst e
    exact .inl ⟨Nat.le_refl _, hd D H (by rw [Array.length_toList]; exact p)⟩
/-! # law 09: counts of pulses -/
def spPulses : Sp := fun vs H Q E => ∃ (M : WM) (h : Hs) (line : PySem.Str) (rp : Addr) (row : List Int) (F : List As), vs = [.ref M.p, .str line, .ref rp] ∧ WK M h ∧ h.Ok ∧ 1 ≤ h.lines.length ∧ (∀ l ∈ h.lines, figs h.long l) ∧ h.long ≤ 4 ∧ row.length = 5 ∧ Sep (pt rp (.lst (row.map V.int)) :: worC M h F) H ∧
  ∀ (cs : List Int) (p : Addr) (H' : Hp), cs.length ≤ 8 → (∀ c ∈ cs, 0 ≤ c ∧ c ≤ 11) → Sep (pt p (.lst (cs.map V.int)) :: pt rp (.lst (row.map V.int)) :: worC M h F) H' → Q (.ref p) H'
theorem len_pulses {vs H Q E} (h : spPulses vs H Q E) : vs.length = 3 := by obtain ⟨_, _, _, _, _, _, rfl, _⟩ := h; rfl
theorem cutI (xs : List Int) (lo hi : Option Int) : ∃ ys : List Int, cutV (xs.map V.int) lo hi = ys.map V.int ∧ ys.Sublist xs := by
  unfold cutV
  exact ⟨_, by rw [← List.map_drop, ← List.map_take], (List.take_sublist _ _).trans (List.drop_sublist _ _)⟩
end L2.Zs
namespace L2.Zs
open PySem PySem.Spec PyProof.Rows PySem.Froz
/-! # set(a list), whatever it holds, its order known to be lawful -/
section
variable {P : Program} {w : World} {A : Around} {E : Value → Shared → Prop} {s : Shared}
/-- what J says it says of the object at S alone -/
def OneJ (S : Addr) (J : Heap → Prop) : Prop := ∀ h h' : Heap, J h → (∀ o, h.get? S = some o → h'.get? S = some o) → J h'
theorem any_loop {R : Result → Shared → Prop} {I : Addr} {fp wr : List Addr} {G : Array GenState → Array GenState → Prop} {n : Nat} {Pv : Nat → Value → Prop} {St : Nat → Shared → Prop} (W : WalksS P w A.in1 I fp wr G n Pv St) (S : Addr) (out : S ∉ fp)
    (J : Nat → Heap → Prop) (hJ : ∀ i, OneJ S (J i))
    (add : ∀ (A : Around) (i : Nat) (v : Value) (s : Shared) (Q : Bool → Shared → Prop) (E : Value → Shared → Prop), i < n → Pv i v → J i s.heap → (∀ h' tk b, s.toks ≤ tk → Heap.SameBut S s.heap h' → J (i + 1) h' → Q b { s with heap := h', toks := tk }) → wpAny (model P w) A (setAdd S v) Q E s) :
    ∀ (k i : Nat) (s : Shared), n - i = k → i ≤ n → St i s → J i s.heap →
      (∀ s', Moved (S :: wr) G s s' → J n s'.heap → R (.ok (.ret .none)) s') → codeAny (model P w) A (.builtin "set.update.loop" ⟨[.ref S, .ref I], []⟩) R s := by
  have out2 : S ∉ wr := fun h => out (W.sub _ h)
  have inn : ∀ b ∈ wr, b ∈ S :: wr := fun _ hb => .tail _ hb
  intro k; induction k with
  | zero =>
    intro i s hk hi hst hS hR
    obtain rfl : i = n := by omega
    refine codeAny_builtin PyProof.Rows.F.entry_set_update_loop ?_; rw [Around.under_plainId PyProof.Rows.F.plain_set_update_loop _]
    change wpAny _ A.in1 (pyNext (.ref I) >>= _) _ _ s; refine wpAny_bind (W.done s _ _ hst fun s' hm => ?_)
    change wpAny _ A.in1 (ret Value.none) _ _ s'; exact wpAny_pure (hR s' (hm.mono inn) (hJ _ _ _ hS fun o e => hm.heap S o out2 e))
  | succ k ih =>
    intro i s hk hi hst hS hR
    have lt : i < n := by omega
    refine codeAny_builtin PyProof.Rows.F.entry_set_update_loop ?_; rw [Around.under_plainId PyProof.Rows.F.plain_set_update_loop _]
    change wpAny _ A.in1 (pyNext (.ref I) >>= _) _ _ s; refine wpAny_bind (W.item i s _ _ lt hst fun v s' hP hst' hm => ?_)
    change wpAny _ A.in1 (holding [v] (setAdd S v) >>= _) _ _ s'; refine wpAny_bind (wpAny_holding ?_)
    refine add _ i v s' _ _ lt hP (hJ _ _ _ hS fun o e => hm.heap S o out2 e) fun h2 tk b htk sb hS2 => ?_
    refine wpAny_pure ⟨plainId_quiet PyProof.Rows.F.plain_set_update_loop _, ih (i + 1) _ (by omega) lt (W.frame _ s' _ _ hst' htk fun b hb o e => (sb.2 b fun (y : b = S) => out (y ▸ hb)).trans e) hS2 fun s3 m3 x3 => ?_⟩
    exact hR s3 (Moved.trans W.gtrans ((hm.mono inn).then_heap htk fun b o hb e => (sb.2 b fun (y : b = S) => hb (y ▸ .head _)).trans e) m3) x3
set_option maxHeartbeats 3200000 in
theorem any_set {l : Addr} {items : Array Value} {Q : Value → Shared → Prop} (hh : A.handled = none) (hl : s.heap.IsList l items)
    (J : Nat → Heap → Prop) (hJ : ∀ i, OneJ s.heap.objs.size (J i)) (j0 : ∀ h : Heap, h.get? s.heap.objs.size = some (nil0 (!w.params.followText "set-order")) → J 0 h)
    (add : ∀ (A : Around) (i : Nat) (v : Value) (s1 : Shared) (Q : Bool → Shared → Prop) (E : Value → Shared → Prop), i < items.size → items[i]? = some v → J i s1.heap → (∀ h' tk b, s1.toks ≤ tk → Heap.SameBut s.heap.objs.size s1.heap h' → J (i + 1) h' → Q b { s1 with heap := h', toks := tk }) → wpAny (model P w) A (setAdd s.heap.objs.size v) Q E s1)
    (h : ∀ (h' : Heap) (tk : Nat), J items.size h' → (∀ b o, b < s.heap.objs.size → s.heap.get? b = some o → h'.get? b = some o) → Q (.ref s.heap.objs.size) { s with heap := h', toks := tk }) : wpAny (model P w) A (call (.type "set") [.ref l]) Q E s := by
  obtain ⟨c0, tl0, hmro⟩ := PySem.F.called_set.mro; have made := PySem.F.called_set.made; have sub0 := PySem.F.called_set.sub
  refine wpAny_call (codeAny_of_tree ?_); change wpAny _ _ (callAny (.type "set") _) _ _ _
  refine wpAny_pure ⟨Code.quiet_builtin _ (by decide +kernel), ?_⟩; refine codeAny_builtin PySem.F.entry_type_call ?_; rw [Around.under_plain (weight_type_call_type "set" [.ref l] []) rfl]
  have k1 := PySem.F.called_set.notType; have k2 := PySem.F.called_set.canCreate; have k3 := PySem.F.typeCall_set_1 (.ref l)
  repeat any_goals first | assumption | wp_step
  refine codeAny_mono (L2.code_set_led1 (.ref l) (E := E) (Q₁ := fun ob s1 => ob = .ref s.heap.objs.size ∧ s1 = { s with heap := s.heap.push (nil0 (!w.params.followText "set-order")) }) ⟨rfl, rfl⟩) fun r s1 hr => ?_
  rcases r with e | fl
  · exact hr
  cases fl <;> first | exact hr.elim | skip
  obtain ⟨rfl, rfl⟩ := hr
  obtain ⟨led, hled⟩ : ∃ led, led = !w.params.followText "set-order" := ⟨_, rfl⟩
  rw [← hled] at j0 ⊢
  have at0 : (s.heap.push (nil0 led)).get? s.heap.objs.size = some (nil0 led) := Heap.get?_push_size _ rfl
  have ty0 : Shared.TypeIs { s with heap := s.heap.push (nil0 led) } (.ref s.heap.objs.size) "set" := ⟨_, at0, rfl⟩
  have i1 := PySem.F.called_set.init.lookup; have i2 := PySem.F.called_set.init.bind (.ref s.heap.objs.size)
  repeat any_goals first | assumption | wp_step
  refine codeAny_mono (codeAny_call_builtin (R := wants (fun r s2 => r = .none ∧ ∃ h' tk, s2 = { s with heap := h', toks := tk } ∧ J items.size h' ∧ ∀ b o, b < s.heap.objs.size → s.heap.get? b = some o → h'.get? b = some o) E)
    PySem.F.called_set.init.plain PySem.F.entry_set_init (PySem.check_set_init_1 ty0 ?_)) fun r2 s2 hr2 => ?_
  · obtain ⟨⟨oc, od, oda, osl⟩, ho, hcl, nl, hdl⟩ := hl
    dsimp only at hcl hdl; subst hcl hdl
    have lh : (s.heap.push (nil0 led)).get? l = some { cls := .type "list", dict := od, data := .seq items nl, slots := osl } := Heap.get?_push_of_some _ ho
    have s1 := PySem.F.sub_list_set; have s2 := PySem.F.sub_list_frozenset; have nd : (Value.type "list" == Value.type "dict") = false := by decide
    have ll : (s.heap.push (nil0 led)).IsList l items := ⟨_, lh, rfl, nl, rfl⟩
    unfold Builtin.«set.__init__» noKeywords Builtin.Frozenset.updateFrom; generalize hPI : pyIter = PI; wp_walk; subst hPI
    refine wpAny_pyIter_list ll (wpAny_bind (wpAny_runValue ?_))
    have lS : l < s.heap.objs.size := Heap.lt_size ho
    have q3 : A.in1.in1.in1.handled = none := by simp [hh]
    have z1 : (s.heap.push (nil0 led)).objs.size = s.heap.objs.size + 1 := Heap.size_push ..
    have n1 : l ≠ (s.heap.push (nil0 led)).objs.size := by rw [z1]; exact Nat.ne_of_lt (Nat.lt_succ_of_lt lS)
    have n2 : s.heap.objs.size ∉ [(s.heap.push (nil0 led)).objs.size, l] := by rw [z1]; simp; exact Nat.ne_of_gt lS
    refine any_loop ((Walks.list q3 _ l n1 items).toS) s.heap.objs.size n2 J hJ (fun A i v s1 Q E hi hv hj k => add A i v s1 Q E hi hv hj k) (items.size - 0) 0 _ (by omega) (Nat.zero_le _) ⟨⟨_, Heap.get?_push_size _ rfl, rfl, rfl⟩, (ll.push _)⟩ ?_ ?_
    · exact j0 _ (Heap.get?_push_of_some _ at0)
    · rintro ⟨h', g', d', tk', os'⟩ hm hS
      obtain rfl : g' = s.gens := hm.gens
      obtain rfl : d' = s.drawn := hm.drawn
      obtain rfl : os' = s.os := hm.os
      change wpAny _ _ _ _ _ _; refine wpAny_pure ?_; change wpAny _ _ (ret Value.none) _ _ _
      refine wpAny_pure ⟨rfl, h', tk', rfl, hS, fun b o hb e => ?_⟩
      exact hm.heap b o (by rw [z1]; simp only [List.mem_cons, List.not_mem_nil, or_false, not_or]; exact ⟨Nat.ne_of_lt hb, Nat.ne_of_lt (Nat.lt_succ_of_lt hb)⟩) (Heap.get?_push_of_some _ (Heap.get?_push_of_some _ e))
  · rcases r2 with e | f2
    · exact hr2
    cases f2 <;> first | exact hr2.elim | skip
    obtain ⟨rfl, h', tk, rfl, q1, q3⟩ := hr2
    repeat any_goals first | assumption | wp_step
    exact h _ _ q1 q3
end
/-! ## of ints -/
section
variable {X : Cx}
def rSetOfI (K : PySem.W.Frag) (w : World) : List V → Hp → VK → Prop := fun vs H Q => ∃ (l : Addr) (ns : List Int), vs = [V.ref l] ∧ SqL K H l (ns.map V.int) ∧ ns.length ≤ 4000 ∧
  ∀ (p : Addr) (c : Nat), H p = none → c ≤ ns.length → Q (.ref p) (upd H p (SetO w p (fun j => decide (j ∈ ns)) c))
theorem cr_setOfI (hc : X.calm = true) : CallR X (.type "set") (rSetOfI X.K X.w) := by
  intro pins s σ H vs us Q I r h
  obtain ⟨l, ns, rfl, hl, few, q⟩ := h
  rw [Vals.ref1 r]
  obtain ⟨its, rv, pl, hz⟩ := I.list hl
  have el : its.length = ns.length := by rw [← rv.length, List.length_map]
  have ez : its.toArray.size = ns.length := by rw [List.size_toArray, el]
  have hi := rv.ints
  refine any_set (P := X.prog) (w := X.w) (I.ok.hd hc) pl.isList (fun i h => ∃ c, c ≤ i ∧ SetR X.w h s.heap.objs.size (fun j => decide (j ∈ ns.take i)) c) (fun i h h' ⟨c, hc, R⟩ k => ⟨c, hc, R.at k⟩)
    (fun h e => ⟨0, Nat.le_refl _, L2.setR_new_at e⟩) (fun A i v s1 Q E hi2 hv ⟨c, hc, R⟩ k => ?_) fun h' tk ⟨c, hc, R⟩ k => ?_
  · rw [List.size_toArray, el] at hi2
    obtain ⟨t, e⟩ := PyProof.Rows.IntsAre.int_at hi i v (by simpa using hv)
    rw [List.getD_eq_getElem?_getD, List.getElem?_eq_getElem hi2] at e
    have e : v = .int ns[i] t := e
    subst e
    unfold setAdd
    refine wpAny_holding (wpAny_bind ((intKind X.prog X.w).pyHash (k := ns[i]) (intKind_is _ _ _ _) ?_))
    refine setR_add_hashed (s := { s1 with toks := s1.toks + 1 }) R (Nat.lt_of_le_of_lt (show c + 1 ≤ 4001 by omega) (by decide)) fun h' sb R2 => ?_
    refine k h' _ _ (Nat.le_succ _) sb ⟨_, ?_, R2.congr fun j => ?_⟩
    · split <;> omega
    · have e2 : ns.take (i + 1) = ns.take i ++ [ns[i]] := by rw [List.take_succ, List.getElem?_eq_getElem hi2]; rfl
      rw [e2, Bool.eq_iff_iff, Bool.or_eq_true, decide_eq_true_eq, decide_eq_true_eq, decide_eq_true_eq, List.mem_append, List.mem_singleton]
  · rw [ez, List.take_length] at R
    rw [ez] at hc
    have kk : ∀ b o, s.heap.get? b = some o → h'.get? b = some o := fun b o e => k b o (Heap.lt_size e) e
    exact ⟨.ref s.heap.objs.size, upd H s.heap.objs.size (SetO X.w s.heap.objs.size (fun j => decide (j ∈ ns)) c), I.laid (t' := tk) kk (Nat.le_refl _) (setO_new R), rfl, q _ c (I.hok.fresh (Nat.le_refl _)) hc⟩
end
/-! ## of texts -/
def TxR (P : Program) (w : World) (h : Heap) (S : Addr) (xs : List PySem.Str) : Prop := ∃ (D : SD) (l : List PySem.Str), h.get? S = some (sObj "set" D) ∧ TxOk P w D l ∧ l.Nodup ∧ (∀ k, k ∈ l ↔ k ∈ xs) ∧ l.length ≤ xs.length ∧ Ris D.2.2.place.toList ∧ (w.params.followText "set-order" = true ∨ D.2.2.led = true)
theorem TxR.one {P : Program} {w : World} {S : Addr} {xs : List PySem.Str} : OneJ S fun h => TxR P w h S xs := fun h h' ⟨D, l, ho, r⟩ k => ⟨D, l, k _ ho, r⟩
theorem tail_ris {ep : Nat} {es1 : Array (Int × Value)} {t2 : SetTable} {wasDummy : Bool} (r : Ris t2.place.toList) : Ris (tailTx ep es1 t2 wasDummy).2.2.place.toList ∧ ((tailTx ep es1 t2 wasDummy).2.2.led = t2.led) := by
  unfold tailTx
  split
  · exact ⟨relayAll_ris t2 es1 _, relayAll_led t2 es1 _⟩
  · exact ⟨r, rfl⟩
theorem add_ris {D : SD} {h : Int} {v : Value} (r : Ris D.2.2.place.toList) : Ris (addTx h v D).2.2.place.toList ∧ (addTx h v D).2.2.led = D.2.2.led := by
  have r1 := layNew_ris D.2.2 D.1 h v r
  have l1 := layNew_led D.2.2 D.1 h v
  unfold addTx
  by_cases c : (layNew D.2.2 D.1 h v).2.1.plain = true
  · rw [if_pos c]
    obtain ⟨a, b⟩ := tail_ris (ep := D.2.1) (es1 := (layNew D.2.2 D.1 h v).1) (t2 := { (layNew D.2.2 D.1 h v).2.1 with plain := false }) (wasDummy := (layNew D.2.2 D.1 h v).2.2.1) r1
    exact ⟨a, b.trans l1⟩
  · rw [if_neg c]
    obtain ⟨a, b⟩ := tail_ris (ep := D.2.1) (es1 := (layNew D.2.2 D.1 h v).1) (t2 := (layNew D.2.2 D.1 h v).2.1) (wasDummy := (layNew D.2.2 D.1 h v).2.2.1) r1
    exact ⟨a, b.trans l1⟩
section
variable {P : Program} {w : World} {A : Around} {E : Value → Shared → Prop} {s : Shared}
/-- a text that is in it already -/
theorem in_x {a : Addr} {T : String} {D : SD} {l : List PySem.Str} {k : PySem.Str} {u : Tok} {Q : Bool → Shared → Prop} (ho : s.heap.get? a = some (sObj T D)) (F : TxOk P w D l) (hk : k ∈ l) (hb : l.length < scanBound) (h : Q false s) : wpAny (model P w) A (setAddHashed a (.str k u) (hashStr w k)) Q E s := by
  obtain ⟨es, ep, t⟩ := D
  have hd : (sObj T (es, ep, t)).data = .set es ep t := rfl
  have hf : t.fits es.size = true := F.fit
  have hel : ElemsOf (strKind P w) es.toList := F.el
  have hsz : es.size = l.length := F.sz
  have hb0 : es.size < scanBound := by omega
  have hkey : (strKind P w).is k (.str k u) = true := is_str k u
  obtain ⟨e, he, q⟩ := (F.mem k).mp hk
  unfold setAddHashed setAddHashedIn
  refine wpAny_holding (wpAny_bind (wpAny_setState_of ho hd hf ?_))
  dsimp only
  rw [byScan_of rfl hb0 hel]
  simp only [↓reduceIte]
  unfold setAddByScan
  refine wpAny_bind ?_
  refine wpAny_bind (wpAny_rule ?_)
  refine wpAny_bind (wpAny_setScan_of (knd := strKind P w) (k := k) hkey ho hd hf hel ?_)
  cases hr : List.findIdx? (fun e => (strKind P w).is k e.2) es.toList with
  | none =>
    have c := List.findIdx?_eq_none_iff.mp hr e he
    rw [q] at c
    cases c
  | some j =>
    dsimp only
    exact wpAny_pure (wpAny_pure h)
theorem txR_add {S : Addr} {xs : List PySem.Str} {z : PySem.Str} {t : Tok} {Q : Bool → Shared → Prop} (R : TxR P w s.heap S xs) (few : xs.length + 1 < scanBound) (k : ∀ h' tk b, s.toks ≤ tk → Heap.SameBut S s.heap h' → TxR P w h' S (xs ++ [z]) → Q b { s with heap := h', toks := tk }) : wpAny (model P w) A (setAdd S (.str z t)) Q E s := by
  obtain ⟨D, l, ho, F, nd, mem, len, ris, led⟩ := R
  unfold setAdd
  refine wpAny_holding (wpAny_bind ((strKind P w).pyHash (k := z) (strKind_is _ _ _ _) ?_))
  by_cases c : z ∈ l
  · refine in_x (s := { s with toks := s.toks + 1 }) ho F c (by omega) (k s.heap _ _ (Nat.le_succ _) (Heap.SameBut.refl ..) ⟨D, l, ho, F, nd, fun y => ?_, by rw [List.length_append]; omega, ris, led⟩)
    rw [mem y, List.mem_append, List.mem_singleton]
    exact ⟨.inl, fun q => q.elim id fun q => by rw [q]; exact (mem z).mp c⟩
  · refine add_x (s := { s with toks := s.toks + 1 }) ho F c (by omega) (k _ _ _ (Nat.le_succ _) (Heap.SameBut.update ..) ⟨_, z :: l, get_upd _ ho rfl, add_ok t F, List.nodup_cons.mpr ⟨c, nd⟩, fun y => ?_, ?_, (add_ris ris).1, led.imp id fun q => (add_ris ris).2.trans q⟩)
    · rw [List.mem_cons, mem y, List.mem_append, List.mem_singleton]; exact Or.comm
    · rw [List.length_append, List.length_cons]; exact Nat.succ_le_succ len
end
theorem perm_sub {α : Type} [DecidableEq α] : ∀ {l ys : List α}, l.Nodup → (∀ x ∈ l, x ∈ ys) → ys.length ≤ l.length → ys.Perm l
  | [], ys, _, _, h => by
    obtain rfl := List.eq_nil_of_length_eq_zero (Nat.le_zero.mp h)
    exact List.Perm.refl _
  | x :: l, ys, nd, sub, h => by
    obtain ⟨a1, a2⟩ := List.nodup_cons.mp nd
    obtain ⟨a, b, rfl⟩ := List.append_of_mem (sub x List.mem_cons_self)
    have pm : (a ++ x :: b).Perm (x :: (a ++ b)) := List.perm_middle
    refine pm.trans ((perm_sub a2 (fun y hy => ?_) ?_).cons x)
    · have := pm.mem_iff.mp (sub y (List.mem_cons_of_mem _ hy))
      rcases List.mem_cons.mp this with e | e
      · exact absurd (e ▸ hy) a1
      · exact e
    · have := pm.length_eq
      rw [List.length_cons] at this h
      omega
theorem strs_are : ∀ (vs : List Value), (∀ v ∈ vs, ∃ z t, v = Value.str z t) → StrsAre vs (vs.map strOf)
  | [], _ => .nil
  | v :: vs, h => by
    obtain ⟨z, t, rfl⟩ := h v List.mem_cons_self
    exact .cons z t (strs_are vs fun v hv => h v (List.mem_cons_of_mem _ hv))
section
variable {P : Program} {w : World} {A : Around} {E : Value → Shared → Prop} {s : Shared}
theorem sorted_tx {a : Addr} {xs : List PySem.Str} {Q : Value → Shared → Prop} (R : TxR P w s.heap a xs) (hh : A.handled = none) (h64 : xs.length < 64)
    (hQ : ∀ s' p (out : Array Value) (c : Nat) (ys : List PySem.Str), (∀ b o, s.heap.get? b = some o → s'.heap.get? b = some o) → s'.gens = s.gens → s'.os = s.os → s.heap.objs.size ≤ p →
      s'.heap.get? p = some (seqObj "list" out c) → StrsAre out.toList ys → sortedS ys = true → ys.Nodup → (∀ k, k ∈ ys ↔ k ∈ xs) → Q (.ref p) s') :
    wpAny (model P w) A (call (.builtin "sorted") [.ref a]) Q E s := by
  obtain ⟨⟨es, ep, t⟩, l, ho, F, nd, mem, len, ris, led⟩ := R
  have hd : (sObj "set" (es, ep, t)).data = .set es ep t := rfl
  have hsz : es.size = l.length := F.sz
  refine Calls.call_function_entry kind_sorted plain_sorted entry_sorted (args_sorted1 _) ?_
  unfold Builtin.«sorted»
  refine wpAny_bind (m := checkCount "sorted" 1 1 _) (wpAny_pure ?_)
  refine wpAny_bind (collect_set (A := A.in1) hh ⟨_, ho, rfl, hd⟩ F.fit (by rw [hsz]; exact Nat.lt_of_le_of_lt (show l.length ≤ 64 by omega) (by decide)) ris led fun s1 vs k1 hz g1 o1 pm => ?_)
  have hvl : vs.length = l.length := by rw [pm.length_eq, List.length_map, Array.length_toList, hsz]
  have hv : ∀ v ∈ vs, ∃ z t, v = Value.str z t := fun v hv => by
    obtain ⟨e, he, rfl⟩ := List.mem_map.mp (pm.mem_iff.mp hv)
    obtain ⟨⟨k, hk, _⟩, _⟩ := F.el e he
    cases hx : e.2 with
    | str z t => exact ⟨z, t, rfl⟩
    | _ => rw [hx] at hk; cases hk
  have hS := strs_are vs hv
  have lp : (vs.map strOf).Perm l := by
    refine perm_sub nd (fun k hk => ?_) (by rw [List.length_map, hvl]; exact Nat.le_refl _)
    obtain ⟨e, he, q⟩ := (F.mem k).mp hk
    refine List.mem_map.mpr ⟨e.2, pm.mem_iff.mpr (List.mem_map.mpr ⟨e, he, rfl⟩), ?_⟩
    cases hx : e.2 with
    | str z t =>
      rw [hx] at q
      have q : Value.isStrOf k (.str z t) = true := q
      simp [Value.isStrOf] at q
      exact q
    | _ => rw [hx] at q; cases q
  refine wpAny_bind (wpAny_newList ?_ (by rw [hvl, sizeLine_eq]; omega))
  have hoL : (s1.heap.push (seqObj "list" vs.toArray 0)).get? s1.heap.objs.size = some (seqObj "list" vs.toArray 0) := Heap.get?_push_size _ rfl
  refine wpAny_bind (wpAny_holding (wpAny_call_entry slot_list_sort ⟨_, hoL, rfl⟩ entry_list_sort (list_sort_treeK strKind_oneLt hoL hS.keysOf (fun v1 v2 rest e => keyKind_strs (by rw [← e]; exact hS)) (by rw [hvl]; omega) fun st' hp hs => ⟨_, rfl, ?_⟩) (args_list_sort _)))
  obtain ⟨ys, h1, h2, h3⟩ := sorted_out_str hS hp hs
  obtain ⟨c, hc⟩ := sortedHeap_at (vs := vs) (out := (arrOf st').map (·.2)) hoL
  have pn : ys.Perm l := h2.trans lp
  refine wpAny_pure ⟨_, rfl, hQ _ s1.heap.objs.size _ c ys (fun b u e => ?_) g1 o1 hz hc h1 h3 (pn.nodup_iff.mpr nd) (fun k => by rw [pn.mem_iff, mem k])⟩
  have q := k1 b u e
  have hlt := Heap.lt_size q
  show (sortedHeap (s1.heap.push (seqObj "list" vs.toArray 0)) s1.heap.objs.size vs _).get? b = some u
  rw [sortedHeap_old (Nat.ne_of_lt hlt) (by rw [size_push']; exact Nat.lt_succ_of_lt hlt)]
  exact Heap.get?_push_of_some _ q
end
def TxO (P : Program) (w : World) (a : Addr) (xs : List PySem.Str) : HO := .ext fun h => TxR P w h a xs
section
variable {X : Cx}
def rSetOfS (K : PySem.W.Frag) (P : Program) (w : World) : List V → Hp → VK → Prop := fun vs H Q => ∃ (l : Addr) (xs : List PySem.Str), vs = [V.ref l] ∧ SqL K H l (xs.map V.str) ∧ xs.length ≤ 1000 ∧ ∀ p : Addr, H p = none → Q (.ref p) (upd H p (TxO P w p xs))
theorem cr_setOfS (hc : X.calm = true) : CallR X (.type "set") (rSetOfS X.K X.prog X.w) := by
  intro pins s σ H vs us Q I r h
  obtain ⟨l, xs, rfl, hl, few, q⟩ := h
  rw [Vals.ref1 r]
  obtain ⟨its, rv, pl, hz⟩ := I.list hl
  have el : its.length = xs.length := by rw [← rv.length, List.length_map]
  have ez : its.toArray.size = xs.length := by rw [List.size_toArray, el]
  refine any_set (P := X.prog) (w := X.w) (I.ok.hd hc) pl.isList (fun i h => TxR X.prog X.w h s.heap.objs.size (xs.take i)) (fun i => TxR.one)
    (fun h e => ⟨(#[], 0, .fresh 0 0 (!X.w.params.followText "set-order")), [], e, TxOk.nil rfl, List.nodup_nil, fun k => by simp, Nat.zero_le _, List.Pairwise.nil, by
      show _ ∨ (!X.w.params.followText "set-order") = true
      cases X.w.params.followText "set-order"
      · exact .inr rfl
      · exact .inl rfl⟩) (fun A i v s1 Q E hi2 hv R k => ?_) fun h' tk R k => ?_
  · rw [List.size_toArray, el] at hi2
    obtain ⟨z, t, e, rfl⟩ := texts_at rv i v (by simpa using hv)
    refine txR_add R (Nat.lt_of_le_of_lt (show _ ≤ 1001 by rw [List.length_take]; omega) (by decide)) fun h' tk b htk sb R2 => k h' tk b htk sb ?_
    rw [List.take_succ, e]
    exact R2
  · rw [ez, List.take_length] at R
    have kk : ∀ b o, s.heap.get? b = some o → h'.get? b = some o := fun b o e => k b o (Heap.lt_size e) e
    have ok : ObjOk X.prog X.w H h' s.heap.objs.size (TxO X.prog X.w s.heap.objs.size xs) := by
      have ⟨D, _, ho, _⟩ := R
      exact ⟨R, ⟨_, ho⟩, fun h1 h2 p k => TxR.one _ _ p k⟩
    exact ⟨.ref s.heap.objs.size, upd H s.heap.objs.size (TxO X.prog X.w s.heap.objs.size xs), I.laid (t' := tk) kk (Nat.le_refl _) ok, rfl, q _ (I.hok.fresh (Nat.le_refl _))⟩
def rSortedU (P : Program) (w : World) : List V → Hp → VK → Prop := fun vs H Q => ∃ (a : Addr) (xs : List PySem.Str), vs = [V.ref a] ∧ H a = some (TxO P w a xs) ∧ xs.length < 64 ∧
  ∀ (ys : List PySem.Str) (p : Addr), sortedS ys = true → ys.Nodup → (∀ k, k ∈ ys ↔ k ∈ xs) → H p = none → Q (.ref p) (upd H p (.lst (ys.map V.str)))
theorem cr_sortedU (hc : X.calm = true) : CallR X (.builtin "sorted") (rSortedU X.prog X.w) := by
  intro pins s σ H vs us Q I r h
  obtain ⟨a, xs, rfl, ha, h64, q⟩ := h
  have R : TxR X.prog X.w s.heap a xs := (I.hok a _ ha).1
  rw [Vals.ref1 r]
  refine sorted_tx R (I.ok.hd hc) h64 fun s' p out c ys k g o hp hg hi hs hn hm => ?_
  have hv := vals_of_strs hi
  have hlen : (ys.map V.str).length ≤ sizeLine := by
    have := perm_sub (l := ys) (ys := ys) hn (fun _ h => h) (Nat.le_refl _)
    have : ys.length ≤ xs.length := by
      have h2 := hn.length_le_of_subset (l₂ := xs) fun k hk => (hm k).mp hk
      exact h2
    rw [List.length_map, sizeLine_eq]; omega
  have hn2 : H p = none := I.hok.fresh hp
  have J : Inv X pins σ (upd H p (.lst (ys.map V.str))) { s with heap := s'.heap, gens := s'.gens, drawn := s'.drawn, toks := s'.toks } :=
    I.call (ch := []) (Un.laid k hp hn2) (I.hok.laid k hp ⟨hlen, out.toList, c, hv, hg⟩) (by rw [g]; exact I.bare) (fun _ z => nomatch z)
  have e : s' = { s with heap := s'.heap, gens := s'.gens, drawn := s'.drawn, toks := s'.toks } := by
    cases s'
    cases s
    cases o
    rfl
  rw [e]
  exact ⟨.ref p, _, J, rfl, q ys p hs hn hm hn2⟩
end
end L2.Zs
namespace L2.Zs
open PySem PySem.Spec PyProof.Rows
/-! # sorted(set(..)) -/
theorem k_setS {X : Cx} {K : PySem.W.Frag} {P : Program} {w : World} (hK : X.K = K) (hP : X.prog = P) (hw : X.w = w) (hc : X.calm = true) : CallR X (.type "set") (rSetOfS K P w) := by subst hK hP hw; exact cr_setOfS hc
theorem k_setI {X : Cx} {K : PySem.W.Frag} {w : World} (hK : X.K = K) (hw : X.w = w) (hc : X.calm = true) : CallR X (.type "set") (rSetOfI K w) := by subst hK hw; exact cr_setOfI hc
theorem k_sortedU {X : Cx} {P : Program} {w : World} (hP : X.prog = P) (hw : X.w = w) (hc : X.calm = true) : CallR X (.builtin "sorted") (rSortedU P w) := by subst hP hw; exact cr_sortedU hc
theorem k_sortedV {X : Cx} {w : World} (hw : X.w = w) (hc : X.calm = true) : CallR X (.builtin "sorted") (rSortedSet w) := by subst hw; exact cr_sortedSet hc
section
variable {K : PySem.W.Frag} {P : Program} {w : World} {H : Hp} {Q : VK} {a : Addr} {cs ds : List As}
theorem s_setS {xs : List PySem.Str} (S : Sep cs H) (p : Pick (pt a (.lst (xs.map V.str))) cs ds) (few : xs.length ≤ 1000) (k : ∀ p H', Sep (pt p (TxO P w p xs) :: cs) H' → Q (.ref p) H') : rSetOfS K P w [.ref a] H Q := ⟨a, xs, rfl, SqL.of (S.get p), few, fun p n => k p _ (S.new n)⟩
theorem s_setI {ns : List Int} (S : Sep cs H) (p : Pick (pt a (.lst (ns.map V.int))) cs ds) (few : ns.length ≤ 4000) (k : ∀ p c H', c ≤ ns.length → Sep (pt p (SetO w p (fun j => decide (j ∈ ns)) c) :: cs) H' → Q (.ref p) H') : rSetOfI K w [.ref a] H Q := ⟨a, ns, rfl, SqL.of (S.get p), few, fun p c n hc => k p c _ hc (S.new n)⟩
theorem s_sortedU {xs : List PySem.Str} (S : Sep cs H) (p : Pick (pt a (TxO P w a xs)) cs ds) (few : xs.length < 64) (k : ∀ (ys : List PySem.Str) p H', sortedS ys = true → ys.Nodup → (∀ k, k ∈ ys ↔ k ∈ xs) → Sep (pt p (.lst (ys.map V.str)) :: cs) H' → Q (.ref p) H') : rSortedU P w [.ref a] H Q := ⟨a, xs, rfl, S.get p, few, fun ys p h1 h2 h3 n => k ys p _ h1 h2 h3 (S.new n)⟩
theorem s_sortedV {S0 : Int → Bool} {n : Nat} (S : Sep cs H) (p : Pick (pt a (SetO w a S0 n)) cs ds) (few : n < 64) (k : ∀ (ns : List Int) p H', ns.Pairwise (· < ·) → (∀ k, k ∈ ns ↔ S0 k = true) → ns.length = n → Sep (pt p (.lst (ns.map V.int)) :: cs) H' → Q (.ref p) H') : rSortedSet w [.ref a] H Q := ⟨a, S0, n, rfl, S.get p, few, fun ns p h1 h2 h3 n => k ns p _ h1 h2 h3 (S.new n)⟩
end
/-! # law 11 -/
def spFew : Sp := fun vs H Q E => ∃ (rp dp : Addr) (row draws : List Int) (F : List As), vs = [.ref rp, .ref dp] ∧ row.length = 6 ∧ draws.length = 60 ∧ (∀ z ∈ draws, 0 ≤ z ∧ z < 27720) ∧ Sep (pt rp (.lst (row.map V.int)) :: pt dp (.lst (draws.map V.int)) :: F) H ∧
  ∀ (t a b : Addr) (d : Pd) (ls : List PySem.Str) (xs : List V) (gs : List Pr) (H' : Hp), PaOk d ls gs → gs.length ≤ 2 → Sep (partC t a b d ls xs gs (pt rp (.lst (row.map V.int)) :: pt dp (.lst (draws.map V.int)) :: F)) H' → Q (.ref t) H'
theorem len_few {vs H Q E} (h : spFew vs H Q E) : vs.length = 2 := by obtain ⟨_, _, _, _, _, rfl, _⟩ := h; rfl
theorem digS_figs (m : Int) : figs 1 (digS m) := by
  refine ⟨digS_len m, fun c hc => ?_⟩
  obtain ⟨c', e, h⟩ := digS_codes m
  rw [e, List.mem_singleton] at hc
  rw [hc]; exact h
theorem dd_stick {dd : Dd} (c : dd.z = PySem.Str.ofString "stick") : ∃ wh k, dd = .sw true wh k := by
  cases dd with
  | ln w l =>
    have h : w.s = PySem.Str.ofString "stick" := c
    exfalso
    clear c
    revert h
    cases w <;> decide
  | sw b wh k =>
    cases b
    · have h : ("mend" : PySem.Str) = PySem.Str.ofString "stick" := c
      exact absurd h (by decide)
    · exact ⟨wh, k, rfl⟩
end L2.Zs
namespace L2.Zs
open PySem PySem.Spec PyProof.Rows
/-! # no two calls -/
theorem perm_of_mem {α : Type} [DecidableEq α] : ∀ {xs ys : List α}, xs.Nodup → ys.Nodup → (∀ z, z ∈ xs ↔ z ∈ ys) → xs.Perm ys
  | [], ys, _, _, h => by
    cases ys with
    | nil => exact .nil
    | cons y ys => exact absurd ((h y).mpr List.mem_cons_self) List.not_mem_nil
  | x :: xs, ys, n1, n2, h => by
    have n1 := List.nodup_cons.mp n1
    have hx : x ∈ ys := (h x).mp List.mem_cons_self
    refine (List.Perm.cons x ?_).trans (List.perm_cons_erase hx).symm
    refine perm_of_mem n1.2 (n2.erase x) fun z => ?_
    rw [n2.mem_erase_iff, ← h z, List.mem_cons]
    exact ⟨fun m => ⟨fun e => n1.1 (e ▸ m), .inr m⟩, fun ⟨e, m⟩ => m.resolve_left e⟩
/-- what a line is, seen from without -/
structure LineR (h : Hs) (l : PySem.Str) : Prop where
  hold : (h.ln l).train ≠ [] → ((h.ln l).way = .dials ∨ (h.ln l).way = .rings ∨ (h.ln l).way = .talks) ∧ (∃ k tr, (h.ln l).train = (("" : PySem.Str), k) :: tr) ∧ (h.ln l).train.length ≤ 3
  free : (h.ln l).way = .rests ∨ (h.ln l).way = .waits ∨ (h.ln l).way = .dials ∨ (h.ln l).way = .told → (h.ln l).en = none ∧ ((h.ln l).train ≠ [] ↔ (h.ln l).way = .dials)
  pair : (h.ln l).way = .rings ∨ (h.ln l).way = .rung ∨ (h.ln l).way = .talks → ∃ p, (h.ln l).en = some p ∧ p ∈ h.lines ∧ (h.ln p).en = some l ∧
    ((h.ln l).way = .rings → (h.ln p).way = .rung) ∧ ((h.ln l).way = .rung → (h.ln p).way = .rings) ∧ ((h.ln l).way = .talks → (h.ln p).way = .talks) ∧
    ((h.ln l).way = .rings → (h.ln l).train ≠ []) ∧ ((h.ln l).way = .rung → (h.ln l).train = []) ∧ (((h.ln l).train = []) ↔ (h.ln p).train ≠ []) ∧ ((h.ln l).train ≠ [] → (h.ln l).figs = p ∧ (h.ln p).figs = "")
theorem heads_hd {long : Nat} {f : PySem.Str} {t : List (PySem.Str × Nat)} (e : t.map (·.1) = heads long f) (g : long ≤ 4) : (∃ k tr, t = (("" : PySem.Str), k) :: tr) ∧ t.length ≤ 3 := by
  have el := congrArg List.length e
  rw [List.length_map] at el
  unfold heads at el
  rw [List.length_map, List.length_range] at el
  refine ⟨?_, by omega⟩
  rw [heads_cons] at e
  cases t with
  | nil => cases e
  | cons p t =>
    obtain ⟨a, k⟩ := p
    obtain ⟨e1, _⟩ := List.cons.inj e
    have e1 : a = "" := e1
    subst e1
    exact ⟨k, t, rfl⟩
theorem heads_ne {long : Nat} {f : PySem.Str} {t : List (PySem.Str × Nat)} (e : t.map (·.1) = heads long f) : t ≠ [] := by
  rw [heads_cons] at e
  rintro rfl
  cases e
theorem line_sees {h : Hs} (o : h.Ok) {l : PySem.Str} (hl : l ∈ h.lines) : LineR h l := by
  have q := o.per l hl
  have g4 := o.sh.g4
  have nz : ∀ x ∈ h.lines, x ≠ "" := fun x hx z => by
    have hf := (o.sh.lf _ hx).1
    have g2 := o.sh.g2
    rw [z, show ("" : PySem.Str).length = 0 by decide +kernel] at hf
    omega
  generalize er : h.ln l = r at q
  cases q with
  | rests => exact ⟨fun z => by rw [er] at z; exact absurd rfl z, fun _ => by rw [er]; exact ⟨rfl, fun z => absurd rfl z, nofun⟩, fun z => by rw [er] at z; rcases z with z | z | z <;> cases z⟩
  | waits => exact ⟨fun z => by rw [er] at z; exact absurd rfl z, fun _ => by rw [er]; exact ⟨rfl, fun z => absurd rfl z, nofun⟩, fun z => by rw [er] at z; rcases z with z | z | z <;> cases z⟩
  | told _ _ _ => exact ⟨fun z => by rw [er] at z; exact absurd rfl z, fun _ => by rw [er]; exact ⟨rfl, fun z => absurd rfl z, nofun⟩, fun z => by rw [er] at z; rcases z with z | z | z <;> cases z⟩
  | dials _ _ _ e =>
    obtain ⟨a, b⟩ := heads_hd e g4
    exact ⟨fun _ => by rw [er]; exact ⟨.inl rfl, a, b⟩, fun _ => by rw [er]; exact ⟨rfl, fun _ => rfl, fun _ => heads_ne e⟩, fun z => by rw [er] at z; rcases z with z | z | z <;> cases z⟩
  | @rings p t hp ep e =>
    obtain ⟨a, b⟩ := heads_hd e g4
    have te : t ≠ [] := heads_ne e
    refine ⟨fun _ => by rw [er]; exact ⟨.inr (.inl rfl), a, b⟩, fun z => (by rw [er] at z; rcases z with z | z | z | z <;> cases z), fun _ => ⟨p, by rw [er], hp, by rw [ep], ?_⟩⟩
    rw [er, ep]
    exact ⟨fun _ => rfl, nofun, nofun, fun _ => te, nofun, ⟨fun z => absurd z te, fun z => absurd rfl z⟩, fun _ => ⟨rfl, rfl⟩⟩
  | @talksA p t hp ep e =>
    obtain ⟨a, b⟩ := heads_hd e g4
    have te : t ≠ [] := heads_ne e
    refine ⟨fun _ => by rw [er]; exact ⟨.inr (.inr rfl), a, b⟩, fun z => (by rw [er] at z; rcases z with z | z | z | z <;> cases z), fun _ => ⟨p, by rw [er], hp, by rw [ep], ?_⟩⟩
    rw [er, ep]
    exact ⟨nofun, nofun, fun _ => rfl, nofun, nofun, ⟨fun z => absurd z te, fun z => absurd rfl z⟩, fun _ => ⟨rfl, rfl⟩⟩
  | @talksB p hp wp ep fp =>
    have qp := o.per p hp
    have tp : (h.ln p).train ≠ [] := by
      generalize h.ln p = r at qp wp ep fp
      cases qp with
      | talksA _ _ e => exact heads_ne e
      | talksB _ _ _ _ => exact absurd fp.symm (nz l hl)
      | _ => cases wp
    refine ⟨fun z => by rw [er] at z; exact absurd rfl z, fun z => (by rw [er] at z; rcases z with z | z | z | z <;> cases z), fun _ => ⟨p, by rw [er], hp, ep, ?_⟩⟩
    rw [er]
    exact ⟨nofun, nofun, fun _ => wp, nofun, nofun, ⟨fun _ => tp, fun _ => rfl⟩, fun z => absurd rfl z⟩
  | @rung p hp wp ep =>
    have qp := o.per p hp
    have tp : (h.ln p).train ≠ [] := by
      generalize h.ln p = r at qp wp ep
      cases qp with
      | rings _ _ e => exact heads_ne e
      | _ => cases wp
    refine ⟨fun z => by rw [er] at z; exact absurd rfl z, fun z => (by rw [er] at z; rcases z with z | z | z | z <;> cases z), fun _ => ⟨p, by rw [er], hp, ep, ?_⟩⟩
    rw [er]
    exact ⟨nofun, fun _ => wp, nofun, nofun, fun _ => rfl, ⟨fun _ => tp, fun _ => rfl⟩, fun z => absurd rfl z⟩
/-! # all that is held, counted twice -/
def allTr (h : Hs) (ls : List PySem.Str) : List (PySem.Str × Nat) := ls.flatMap fun l => (h.ln l).train
def busyW (z : PySem.Str) : Bool := !(decide (z = "free") || decide (z = "stuck"))
def heldAt (h : Hs) (w : PySem.Str) : List (PySem.Str × Nat) := ((List.range (h.rk w).held.length).filter fun k => busyW ((h.rk w).said k)).map fun k => (w, k)
theorem said_some {r : Rc} {k : Nat} {l : PySem.Str} (e : r.held[k]? = some (some l)) : r.said k = l := by
  unfold Rc.said
  rw [List.getD_eq_getElem?_getD, e]; rfl
theorem line_busy {h : Hs} (o : h.Ok) {l : PySem.Str} (hl : l ∈ h.lines) : busyW l = true := by
  have a : l ≠ "free" := fun z => by
    have := (o.sh.lf l hl).2 102 (by rw [z]; decide +kernel)
    omega
  have b : l ≠ "stuck" := fun z => by
    have := (o.sh.lf l hl).2 115 (by rw [z]; decide +kernel)
    omega
  unfold busyW
  simp [a, b]
theorem busy_at {h : Hs} (o : h.Ok) {w : PySem.Str} (hw : w ∈ h.wheres) {k : Nat} (hk : k < (h.rk w).held.length) : busyW ((h.rk w).said k) = true ↔ ∃ l ∈ h.lines, (w, k) ∈ (h.ln l).train := by
  constructor
  · intro b
    cases e : (h.rk w).held[k] with
    | none =>
      exfalso
      rcases said_free (r := h.rk w) (k := k) (by rw [List.getElem?_eq_getElem hk, e]) with z | z <;> (rw [z] at b; revert b; decide +kernel)
    | some l => exact ⟨l, (o.hb.hold w hw k l).mp (by rw [List.getElem?_eq_getElem hk, e])⟩
  · rintro ⟨l, hl, m⟩
    rw [said_some ((o.hb.hold w hw k l).mpr ⟨hl, m⟩)]
    exact line_busy o hl
theorem heldAt_mem {h : Hs} (o : h.Ok) {w : PySem.Str} (hw : w ∈ h.wheres) {p : PySem.Str × Nat} : p ∈ heldAt h w ↔ p.1 = w ∧ ∃ l ∈ h.lines, p ∈ (h.ln l).train := by
  unfold heldAt
  rw [List.mem_map]
  constructor
  · rintro ⟨k, hk, rfl⟩
    obtain ⟨h1, h2⟩ := List.mem_filter.mp hk
    exact ⟨rfl, (busy_at o hw (List.mem_range.mp h1)).mp h2⟩
  · rintro ⟨e, l, hl, m⟩
    obtain ⟨v, k⟩ := p
    have e : v = w := e
    subst e
    have hk : k < (h.rk v).held.length := (List.getElem?_eq_some_iff.mp ((o.hb.hold v hw k l).mpr ⟨hl, m⟩)).1
    exact ⟨k, List.mem_filter.mpr ⟨List.mem_range.mpr hk, (busy_at o hw hk).mpr ⟨l, hl, m⟩⟩, rfl⟩
theorem train_apart {h : Hs} (o : h.Ok) {l m : PySem.Str} (hl : l ∈ h.lines) (hm : m ∈ h.lines) {p : PySem.Str × Nat} (a : p ∈ (h.ln l).train) (b : p ∈ (h.ln m).train) : l = m := by
  have hw := o.hb.trw l hl p a
  have e1 := (o.hb.hold p.1 hw p.2 l).mpr ⟨hl, a⟩
  have e2 := (o.hb.hold p.1 hw p.2 m).mpr ⟨hm, b⟩
  rw [e1] at e2
  exact Option.some.inj (Option.some.inj e2)
theorem held_count {h : Hs} (o : h.Ok) {ls ws : List PySem.Str} (nl : ls.Nodup) (hl : ∀ x, x ∈ ls ↔ x ∈ h.lines) (nw : ws.Nodup) (hw : ∀ x, x ∈ ws ↔ x ∈ h.wheres) : (ws.flatMap (heldAt h)).length = (allTr h ls).length := by
  refine (perm_of_mem ?_ ?_ fun p => ?_).length_eq
  · unfold List.Nodup
    rw [List.pairwise_flatMap]
    refine ⟨fun w _ => ?_, nw.imp fun {a b} ne x hx y hy e => ?_⟩
    · unfold heldAt
      refine List.Pairwise.map _ (fun a b (n : a ≠ b) e => n (Prod.ext_iff.mp e).2) ?_
      exact (List.nodup_range).filter _
    · subst e
      unfold heldAt at hx hy
      obtain ⟨_, _, rfl⟩ := List.mem_map.mp hx
      obtain ⟨_, _, e⟩ := List.mem_map.mp hy
      exact ne (Prod.ext_iff.mp e).1.symm
  · unfold allTr List.Nodup
    rw [List.pairwise_flatMap]
    refine ⟨fun l hl2 => o.hb.trn l ((hl l).mp hl2), ?_⟩
    have := nl
    refine List.Pairwise.imp_of_mem (fun {a b} ha hb ne x hx y hy e => ?_) nl
    subst e
    exact ne (train_apart o ((hl a).mp ha) ((hl b).mp hb) hx hy)
  · unfold allTr
    rw [List.mem_flatMap, List.mem_flatMap]
    constructor
    · rintro ⟨w, hw1, m⟩
      obtain ⟨_, l, hl1, m⟩ := (heldAt_mem o ((hw w).mp hw1)).mp m
      exact ⟨l, (hl l).mpr hl1, m⟩
    · rintro ⟨l, hl1, m⟩
      have hl2 := (hl l).mp hl1
      have hw2 := o.hb.trw l hl2 p m
      exact ⟨p.1, (hw p.1).mpr hw2, (heldAt_mem o hw2).mpr ⟨rfl, l, hl2, m⟩⟩
theorem heldAt_len (h : Hs) (w : PySem.Str) : (heldAt h w).length = ((h.rk w).paper.filter busyW).length := by
  unfold heldAt Rc.paper
  rw [List.length_map, List.filter_map, List.length_map]
  rfl
theorem waits_perm {h : Hs} (o : h.Ok) {ls : List PySem.Str} (nl : ls.Nodup) (hl : ∀ x, x ∈ ls ↔ x ∈ h.lines) : h.queue.Perm (ls.filter fun l => decide ((h.ln l).way = .waits)) := by
  refine perm_of_mem o.qnd (nl.filter _) fun z => ?_
  rw [o.q, List.mem_filter, hl, decide_eq_true_eq]
end L2.Zs
namespace L2.Zs
open PySem PySem.Spec PyProof.Rows
/-! # law 02: parts of plans, right and spoilt -/
/-- an own error of the class at D -/
structure Kon (K : PySem.W.Frag) (D top : Addr) (no : List Addr) : Prop where
  ex : PySem.W.exmOne K (.ref D) (.ref top) = some true
  ei : XI K D
  ek : PySem.W.kitOne K (.ref D) (.ref D) = some true
  en : ∀ c ∈ no, PySem.W.kitOne K (.ref D) (.ref c) = some false
theorem eqvAll_strs : ∀ (xs ys : List PySem.Str), PyData.eqvAll (xs.map .str) (ys.map .str) = decide (xs = ys)
  | [], [] => rfl
  | [], _ :: _ => rfl
  | _ :: _, [] => rfl
  | x :: xs, y :: ys => by
    show ((x == y) && PyData.eqvAll (xs.map .str) (ys.map .str)) = _
    rw [eqvAll_strs xs ys, Bool.eq_iff_iff, Bool.and_eq_true, beq_iff_eq, decide_eq_true_eq, decide_eq_true_eq, List.cons.injEq]
theorem tz_strs {xs : List PySem.Str} (h : ∀ z ∈ xs, tz z) : ∀ v ∈ xs.map V.str, okV v = true := fun v hv => by
  obtain ⟨z, hz, rfl⟩ := List.mem_map.mp hv
  exact h z hz
theorem dV_strs (xs : List PySem.Str) : (xs.map V.str).map dV = xs.map PyData.str := by rw [List.map_map]; rfl
section
variable {K : PySem.W.Frag} {H : Hp} {Q : VK} {a b : Addr} {cs ds es : List As}
theorem s_neSS {xs ys : List PySem.Str} (S : Sep cs H) (p : Pick (pt a (.lst (xs.map V.str))) cs ds) (q : Pick (pt b (.lst (ys.map V.str))) cs es) (hx : ∀ z ∈ xs, tz z) (hy : ∀ z ∈ ys, tz z) (k : Q (.bl (!decide (xs = ys))) H) : rNeZ K (.ref a) (.ref b) H Q := by
  refine s_neD (.lst (SqL.of (S.get p)) (dpAll_flat (tz_strs hx))) (.lst (SqL.of (S.get q)) (dpAll_flat (tz_strs hy))) (shaped_lst (tz_strs hx)) (shaped_lst (tz_strs hy)) ?_
  rw [dV_strs, dV_strs, show PyData.eqv (.list (xs.map .str)) (.list (ys.map .str)) = PyData.eqvAll (xs.map .str) (ys.map .str) from rfl, eqvAll_strs]
  exact k
theorem s_eqSS {xs ys : List PySem.Str} (S : Sep cs H) (p : Pick (pt a (.lst (xs.map V.str))) cs ds) (q : Pick (pt b (.lst (ys.map V.str))) cs es) (hx : ∀ z ∈ xs, tz z) (hy : ∀ z ∈ ys, tz z) (k : Q (.bl (decide (xs = ys))) H) : rEqZ K (.ref a) (.ref b) H Q := by
  refine s_eqD (.lst (SqL.of (S.get p)) (dpAll_flat (tz_strs hx))) (.lst (SqL.of (S.get q)) (dpAll_flat (tz_strs hy))) (shaped_lst (tz_strs hx)) (shaped_lst (tz_strs hy)) ?_
  rw [dV_strs, dV_strs, show PyData.eqv (.list (xs.map .str)) (.list (ys.map .str)) = PyData.eqvAll (xs.map .str) (ys.map .str) from rfl, eqvAll_strs]
  exact k
theorem s_insert {cs' : List As} {xs : List V} {i : Nat} {y : V} (S : Sep cs H) (g : Chg (pt a (.lst xs)) (pt a (.lst (xs.take i ++ [y] ++ xs.drop i))) cs cs') (n : xs.length < sizeLine) (hi : i ≤ 1000000) (k : ∀ H', Sep cs' H' → Q .non H') :
    ∃ (l : Addr) (xs' : List V) (j : Int) (y' : V), V.ref a = .ref l ∧ [V.int (i : Nat), y] = [.int j, y'] ∧ H l = some (.lst xs') ∧ xs'.length < sizeLine ∧ 0 ≤ j ∧ j < 2 ^ 63 ∧ Q .non (upd H l (.lst (xs'.take j.toNat ++ [y'] ++ xs'.drop j.toNat))) :=
  ⟨a, xs, (i : Nat), y, rfl, rfl, (let ⟨_, p, _⟩ := g.pick; S.get p), n, by omega, by omega, (by rw [Int.toNat_natCast]; exact k _ (S.set g rfl))⟩
end
/-- a text with its unlike ones, sorted, is the text sorted just where all are unlike -/
theorem sort_unlike {xs ys zs : List PySem.Str} (h1 : sortedS ys = true) (h2 : ys.Nodup) (h3 : ∀ k, k ∈ ys ↔ k ∈ xs) (h4 : zs.Perm xs) (h5 : sortedS zs = true) : ys = zs ↔ xs.Nodup := by
  constructor
  · intro e
    subst e
    exact h4.nodup_iff.mp h2
  · intro nd
    exact sortS_eq (perm_of_mem h2 (h4.nodup_iff.mpr nd) fun z => (h3 z).trans h4.mem_iff.symm) h1 h5
theorem tz_iff {z : PySem.Str} : tz z ↔ ∀ c ∈ z.cps.toList, c < 0x110000 := by
  show z.cps.all (· < 0x110000) = true ↔ _
  rw [← Array.all_toList, List.all_eq_true]
  exact ⟨fun h c hc => of_decide_eq_true (h c hc), fun h c hc => decide_eq_true (h c hc)⟩
theorem tz_app {a b : PySem.Str} (h1 : tz a) (h2 : tz b) : tz (a ++ b) := tz_iff.mpr fun c hc => by
  rw [app_codes] at hc
  rcases List.mem_append.mp hc with x | x
  · exact tz_iff.mp h1 c x
  · exact tz_iff.mp h2 c x
theorem tz_sub {a b : PySem.Str} (h1 : tz a) (h : ∀ c ∈ b.cps.toList, c ∈ a.cps.toList) : tz b := tz_iff.mpr fun c hc => tz_iff.mp h1 c (h c hc)
theorem tz_figs {n : Nat} {z : PySem.Str} (h : figs n z) : tz z := tz_dig h.2
/-- parts of a plan, right or not -/
@[reducible] def paC (t a b : Addr) (long sk : Int) (ls : List PySem.Str) (xs : List V) (gs : List Pr) (F : List As) : List As :=
  pt t (.tup [.int long, .ref a, .int sk, .ref b]) :: pt a (.lst (ls.map V.str)) :: pt b (.lst xs) :: ims xs (gs.map gD) :: F
structure PaZ (n m : Nat) (ls : List PySem.Str) (gs : List Pr) : Prop where
  l : ls.length ≤ n
  lz : ∀ z ∈ ls, z.length ≤ m ∧ tz z
  g : gs.length ≤ n
  gz : ∀ g ∈ gs, g.1.length ≤ m ∧ tz g.1
theorem PaZ.le {n m n' m' : Nat} {ls : List PySem.Str} {gs : List Pr} (h : PaZ n m ls gs) (h1 : n ≤ n') (h2 : m ≤ m') : PaZ n' m' ls gs :=
  ⟨Nat.le_trans h.l h1, fun z hz => ⟨Nat.le_trans (h.lz z hz).1 h2, (h.lz z hz).2⟩, Nat.le_trans h.g h1, fun g hg => ⟨Nat.le_trans (h.gz g hg).1 h2, (h.gz g hg).2⟩⟩
def spTextSpoilt : Sp := fun vs H Q E => ∃ (z : PySem.Str) (draw : Int) (F : List As), vs = [.str z, .int draw] ∧ z.length ≤ 10000 ∧ tz z ∧ Sep F H ∧ ∀ z' H', Sep F H' → z'.length ≤ 2 * z.length + 1 → tz z' → Q (.str z') H'
theorem len_tsp {vs H Q E} (h : spTextSpoilt vs H Q E) : vs.length = 2 := by obtain ⟨_, _, _, rfl, _⟩ := h; rfl
def spGood : Sp := fun vs H Q E => ∃ (a b : Addr) (long sk : Int) (ls : List PySem.Str) (xs : List V) (gs : List Pr) (F : List As), vs = [.int long, .ref a, .int sk, .ref b] ∧ PaZ 500 500 ls gs ∧ Sep (pt a (.lst (ls.map V.str)) :: pt b (.lst xs) :: ims xs (gs.map gD) :: F) H ∧
  ∀ H', Sep (pt a (.lst (ls.map V.str)) :: pt b (.lst xs) :: ims xs (gs.map gD) :: F) H' → Q (.bl (planB long ls sk gs)) H'
theorem len_good {vs H Q E} (h : spGood vs H Q E) : vs.length = 4 := by obtain ⟨_, _, _, _, _, _, _, _, rfl, _⟩ := h; rfl
def spSpoilt2 : Sp := fun vs H Q E => ∃ (t a b : Addr) (long sk draw : Int) (ls : List PySem.Str) (xs : List V) (gs : List Pr) (n m : Nat) (F : List As), vs = [.ref t, .int draw] ∧ -1 ≤ long ∧ n ≤ 400 ∧ 5 ≤ m ∧ m ≤ 200 ∧ PaZ n m ls gs ∧ Sep (paC t a b long sk ls xs gs F) H ∧
  ∀ (t' a' b' : Addr) (long' sk' : Int) (ls' : List PySem.Str) (xs' : List V) (gs' : List Pr) (H' : Hp), -1 ≤ long' → PaZ (n + 61) (2 * m + 1) ls' gs' → Sep (paC t' a' b' long' sk' ls' xs' gs' (paC t a b long sk ls xs gs F)) H' → Q (.ref t') H'
theorem len_spoilt2 {vs H Q E} (h : spSpoilt2 vs H Q E) : vs.length = 2 := by obtain ⟨_, _, _, _, _, _, _, _, _, _, _, _, rfl, _⟩ := h; rfl
def spRight2 : Sp := fun vs H Q E => ∃ (t a b : Addr) (long sk : Int) (ls : List PySem.Str) (xs : List V) (gs : List Pr) (F : List As), vs = [.ref t] ∧ PaZ 500 500 ls gs ∧ Sep (paC t a b long sk ls xs gs F) H ∧
  ∀ H', Sep (paC t a b long sk ls xs gs F) H' → Q (.bl true) H'
theorem len_right2 {vs H Q E} (h : spRight2 vs H Q E) : vs.length = 1 := by obtain ⟨_, _, _, _, _, _, _, _, _, rfl, _⟩ := h; rfl
theorem filt1 {α : Type} {p : α → Bool} {a : α} (h : p a = true) : [a].filter p = [a] := List.filter_cons_of_pos h
theorem filt0 {α : Type} {p : α → Bool} {a : α} (h : p a = false) : [a].filter p = [] := List.filter_cons_of_neg (by rw [h]; decide)
theorem shaped_prs {gs : List Pr} (h : ∀ g ∈ gs, tz g.1) : SeqAt.shaped (.list (gs.map gD)) = true := by
  have a : PyData.canLayAll0 (gs.map gD) = true := by
    induction gs with
    | nil => rfl
    | cons g gs ih =>
      show (PyData.canLay0 (gD g) && PyData.canLayAll0 (gs.map gD)) = true
      rw [ih fun x hx => h x (List.mem_cons_of_mem _ hx), Bool.and_true]
      exact lay_tup (ds := [.str g.1, .int g.2]) (fun d hd => by
        simp only [List.mem_cons, List.not_mem_nil, or_false] at hd
        rcases hd with rfl | rfl
        · exact h g List.mem_cons_self
        · rfl)
  have b : PyData.depthAll (gs.map gD) ≤ 1 := depthAll_le fun d hd => by
    obtain ⟨g, _, rfl⟩ := List.mem_map.mp hd
    exact (by decide : (1 : Nat) ≤ 1)
  unfold SeqAt.shaped
  show (PyData.canLayAll0 (gs.map gD) && decide (PyData.depthAll (gs.map gD) + 1 ≤ 64)) = true
  rw [a, decide_eq_true (by omega)]; rfl
theorem s_if2 {p A B : Prop} [Decidable p] (h1 : B) (h2 : p → B → A) : if decide p = true then A else B := by
  by_cases c : p
  · rw [if_pos (decide_eq_true c)]; exact h2 c h1
  · rw [if_neg (by rw [decide_eq_false c]; decide)]; exact h1
theorem s_if2n {p A B : Prop} [Decidable p] (h1 : B) (h2 : ¬ p → B → A) : if (!decide p) = true then A else B := by
  by_cases c : p
  · rw [if_neg (by rw [decide_eq_true c]; decide)]; exact h1
  · rw [if_pos (by rw [decide_eq_false c]; rfl)]; exact h2 c h1
section
variable {K : PySem.W.Frag} {H : Hp} {Q : VK} {a b : Addr} {cs ds es es2 : List As}
theorem s_neNilP {xs : List V} {gs : List Pr} (S : Sep cs H) (p : Pick (pt a (.lst xs)) cs ds) (p2 : Pick (ims xs (gs.map gD)) cs es) (q : Pick (pt b (.lst [])) cs es2) (h : ∀ g ∈ gs, tz g.1) (k : Q (.bl (!decide (gs = []))) H) : rNeZ K (.ref a) (.ref b) H Q := by
  refine s_neD (.lst (SqL.of (S.get p)) (S.imsGet p2).dp) (.lst (SqL.of (S.get q)) .nil) (shaped_prs h) (shaped_lst (xs := []) (fun _ h => nomatch h)) ?_
  rw [eqv_nil, show decide (gs.map gD = []) = decide (gs = []) from decide_eq_decide.mpr List.map_eq_nil_iff]
  exact k
end
theorem IsAll.set {H : Hp} {x : V} {d : PyData} (h : Is H x d) : ∀ {xs : List V} {ds : List PyData} (i : Nat), IsAll H xs ds → IsAll H (xs.set i x) (ds.set i d)
  | _, _, _, .nil => .nil
  | _, _, 0, .cons _ r => .cons h r
  | _, _, i + 1, .cons a r => .cons a (IsAll.set h i r)
theorem Sep.imsSet {x : V} {d : PyData} {xs : List V} {ds : List PyData} {F : List As} {H : Hp} {i : Nat} (h : Sep (im x d :: ims xs ds :: F) H) : Sep (ims (xs.set i x) (ds.set i d) :: ims xs ds :: F) H := by
  have hx := h.imGet (v := x) (d := d) .here
  have hs := h.imsGet (v := xs) (d := ds) (.there .here)
  exact Sep.addP h.tail pers_ims (IsAll.set hx i hs)
theorem Sep.imsIns {x : V} {d : PyData} {xs : List V} {ds : List PyData} {F : List As} {H : Hp} {i : Nat} (h : Sep (im x d :: ims xs ds :: F) H) : Sep (ims (xs.take i ++ [x] ++ xs.drop i) (ds.take i ++ [d] ++ ds.drop i) :: ims xs ds :: F) H := by
  have hx := h.imGet (v := x) (d := d) .here
  have hs := h.imsGet (v := xs) (d := ds) (.there .here)
  exact Sep.addP h.tail pers_ims (IsAll.app (IsAll.app (hs.take i) (.cons hx .nil)) (hs.drop i))
theorem shaped_strs {ls : List PySem.Str} (h : ∀ z ∈ ls, tz z) : SeqAt.shaped (.list (ls.map .str)) = true := by
  have := shaped_lst (tz_strs h)
  rwa [dV_strs] at this
theorem shaped_ls {ls : List PySem.Str} {gs : List Pr} (h1 : ∀ z ∈ ls, tz z) (h2 : ∀ g ∈ gs, tz g.1) : SeqAt.shaped (.list [.list (ls.map .str), .list (gs.map gD)]) = true := by
  have a := shaped_strs h1
  have b := shaped_prs h2
  unfold SeqAt.shaped at a b ⊢
  rw [Bool.and_eq_true, decide_eq_true_eq] at a b
  have c1 : PyData.canLay0 (.list [.list (ls.map .str), .list (gs.map gD)]) = true := by
    show (PyData.canLay0 (.list (ls.map .str)) && (PyData.canLay0 (.list (gs.map gD)) && true)) = true
    rw [a.1, b.1]; rfl
  have c2 : PyData.depth (.list [.list (ls.map .str), .list (gs.map gD)]) ≤ 3 := by
    have d1 : PyData.depthAll (ls.map .str) = 0 := by rw [← dV_strs]; exact depAll_flat _
    have d2 : PyData.depthAll (gs.map gD) ≤ 1 := depthAll_le fun d hd => by
      obtain ⟨g, _, rfl⟩ := List.mem_map.mp hd
      exact (by decide : (1 : Nat) ≤ 1)
    show max (PyData.depthAll (ls.map .str) + 1) (max (PyData.depthAll (gs.map gD) + 1) 0) + 1 ≤ 3
    omega
  rw [c1, decide_eq_true (by omega)]; rfl
theorem shaped_pl (long sk : Int) {ls : List PySem.Str} {gs : List Pr} (h1 : ∀ z ∈ ls, tz z) (h2 : ∀ g ∈ gs, tz g.1) : SeqAt.shaped (.tuple [.int long, .tuple (ls.map .str), .int sk, .tuple (gs.map gD)]) = true := by
  have a := shaped_strs h1
  have b := shaped_prs h2
  unfold SeqAt.shaped at a b ⊢
  rw [Bool.and_eq_true, decide_eq_true_eq] at a b
  have a1 : PyData.canLayAll0 (ls.map .str) = true := a.1
  have b1 : PyData.canLayAll0 (gs.map gD) = true := b.1
  have c1 : PyData.canLay0 (.tuple [.int long, .tuple (ls.map .str), .int sk, .tuple (gs.map gD)]) = true := by
    show (true && (PyData.canLayAll0 (ls.map .str) && (true && (PyData.canLayAll0 (gs.map gD) && true)))) = true
    rw [a1, b1]; rfl
  have c2 : PyData.depth (.tuple [.int long, .tuple (ls.map .str), .int sk, .tuple (gs.map gD)]) ≤ 3 := by
    have d1 : PyData.depthAll (ls.map .str) = 0 := by rw [← dV_strs]; exact depAll_flat _
    have d2 : PyData.depthAll (gs.map gD) ≤ 1 := depthAll_le fun d hd => by
      obtain ⟨g, _, rfl⟩ := List.mem_map.mp hd
      exact (by decide : (1 : Nat) ≤ 1)
    show max 0 (max (PyData.depthAll (ls.map .str) + 1) (max 0 (max (PyData.depthAll (gs.map gD) + 1) 0))) + 1 ≤ 3
    omega
  rw [c1, decide_eq_true (by omega)]; rfl
/-- what is wrong of the pairs -/
def badPairs (long : Int) (gs : List Pr) : Bool := gs.all fun g => decide (1 ≤ (g.1.length : Int)) && decide ((g.1.length : Int) ≤ long - 2) && decide (0 ≤ g.2) && decide (g.2 ≤ 10)
def digB (z : PySem.Str) : Bool := z.cps.toList.all dig
theorem planB_law (long sk : Int) (ls : List PySem.Str) (gs : List Pr) :
    planB long ls sk gs = (decide (2 ≤ long ∧ long ≤ 4 ∧ 1 ≤ sk ∧ sk ≤ 60 ∧ 1 ≤ ls.length ∧ ls.length ≤ 60 ∧ gs.length ≤ 40) && decide ls.Nodup && decide (gs.map (·.1)).Nodup && (ls ++ gs.map (·.1)).all digB && ls.all (fun z => decide ((z.length : Int) = long)) && badPairs long gs) := by
  have lz : ∀ z : PySem.Str, (1 ≤ (z.length : Int)) ↔ z ≠ "" := fun z => by
    constructor
    · rintro h rfl
      exact absurd h (by decide +kernel)
    · intro h
      have : z.length ≠ 0 := fun e => h (str_ext (by
        have : z.cps.toList.length = 0 := by rw [Array.length_toList]; exact e
        rw [List.eq_nil_of_length_eq_zero this]
        exact codes0.symm))
      omega
  unfold planB linesB groupsB badPairs
  rw [Bool.eq_iff_iff]
  simp only [Bool.and_eq_true, decide_eq_true_eq, List.all_eq_true, List.mem_append, figB, digB, oneG, Bool.not_eq_true', decide_eq_false_iff_not]
  constructor
  · rintro ⟨⟨⟨⟨⟨a1, a2⟩, a3⟩, a4⟩, ⟨⟨b1, b2⟩, b3⟩, b4⟩, ⟨c1, c2⟩, c3⟩
    refine ⟨⟨⟨⟨⟨⟨a1, a2, a3, a4, b1, b2, c1⟩, b3⟩, c2⟩, fun z hz => ?_⟩, fun z hz => (b4 z hz).1⟩, fun g hg => ⟨⟨⟨(lz _).mpr (c3 g hg).1.1.2.2, (c3 g hg).1.1.1⟩, (c3 g hg).1.2⟩, (c3 g hg).2⟩⟩
    rcases hz with hz | hz
    · exact (b4 z hz).2.1
    · obtain ⟨g, hg, rfl⟩ := List.mem_map.mp hz
      exact (c3 g hg).1.1.2.1
  · rintro ⟨⟨⟨⟨⟨⟨a1, a2, a3, a4, b1, b2, c1⟩, b3⟩, c2⟩, d⟩, e⟩, p⟩
    refine ⟨⟨⟨⟨⟨a1, a2⟩, a3⟩, a4⟩, ⟨⟨b1, b2⟩, b3⟩, fun z hz => ⟨e z hz, d z (.inl hz), (lz z).mp (by have := e z hz; omega)⟩⟩, ⟨c1, c2⟩, fun g hg => ⟨⟨⟨(p g hg).1.1.2, d _ (.inr (List.mem_map.mpr ⟨g, hg, rfl⟩)), (lz _).mp (p g hg).1.1.1⟩, (p g hg).1.2⟩, (p g hg).2⟩⟩
end L2.Zs
namespace L2.Zs
open PySem PySem.Spec PyProof.Rows
/-! # plans as texts -/
/-! ## split and join -/
def rSplitN : V → List V → Hp → VK → Prop := fun x xs H Q => ∃ a b, x = .str a ∧ xs = [.str b] ∧ (b.length == 0) = false ∧ a.length + 2 ≤ sizeLine ∧ rNewStrs (Txt.split a b) H Q
def rJoinN (K : PySem.W.Frag) : V → List V → Hp → VK → Prop := fun x xs H Q => ∃ a p, ∃ ys : List PySem.Str, x = .str a ∧ xs = [.ref p] ∧ (SqL K H p (ys.map V.str) ∨ SqT K H p (ys.map V.str)) ∧ (ys.map (·.length)).sum + ys.length * a.length ≤ 16777216 ∧ Q (.str (Txt.join a ys)) H
section
variable {X : Cx} {K : PySem.W.Frag} {o e : Expr} {to te : TE}
theorem k_splitN {apos pos : Pos} (ho : PE X o to) (he : PE X e te) (hs : starEach [e] X.env = [(false, eval e X.env)] := by rfl) (hbase : attributeBase o "split" X.env (eval o X.env) = eval o X.env := by rfl) (hline : (apos.endLine == pos.line) = true := by rfl) :
    PE X (.Call (.Attribute o "split" apos) [e] [] pos) (tM1 rSplitN to te) := pe_split ho he hs hbase hline
theorem k_joinN {apos pos : Pos} (hK : X.K = K) (ho : PE X o to) (he : PE X e te) (hs : starEach [e] X.env = [(false, eval e X.env)] := by rfl) (hbase : attributeBase o "join" X.env (eval o X.env) = eval o X.env := by rfl) (hline : (apos.endLine == pos.line) = true := by rfl) :
    PE X (.Call (.Attribute o "join" apos) [e] [] pos) (tM1 (rJoinN K) to te) := hK ▸ pe_join ho he hs hbase hline
end
section
variable {K : PySem.W.Frag} {σ : St} {H : Hp} {Q : VK} {r : V → List V → Hp → VK → Prop} {to te : TE} {z z2 : PySem.Str} {R : Prop} {cs ds : List As} {a : Addr} {xs : List PySem.Str}
instance : Stp (tM1 r to te σ H Q) (to σ H fun x H1 => (∃ a, x = .str a) ∧ te σ H1 fun y H2 => r x [y] H2 Q) := ⟨id⟩
instance : Stp ((∃ a, V.str z = .str a) ∧ R) R := ⟨fun h => ⟨⟨z, rfl⟩, h⟩⟩
theorem s_split (S : Sep cs H) (h : z.length ≤ 100000) (h2 : (z2.length == 0) = false) (k : ∀ p H', Sep (pt p (.lst ((Txt.split z z2).map V.str)) :: cs) H' → Q (.ref p) H') : rSplitN (.str z) [.str z2] H Q :=
  ⟨z, z2, rfl, rfl, h2, Nat.le_trans (show z.length + 2 ≤ 100002 by omega) (by decide), fun p hp => k p _ (S.new hp)⟩
theorem s_join (S : Sep cs H) (p : Pick (pt a (.lst (xs.map V.str))) cs ds) (h : (xs.map (·.length)).sum + xs.length * z.length ≤ 16777216) (k : Q (.str (Txt.join z xs)) H) : rJoinN K (.str z) [.ref a] H Q :=
  ⟨z, a, xs, rfl, rfl, .inl (SqL.of (S.get p)), h, k⟩
end
theorem spl_ne (S : List Nat) : ∀ (L : List Nat) (k : Nat) (acc : List Nat), TL.spl S k acc L ≠ []
  | [], k, acc => by rw [TL.spl_nil]; exact nofun
  | c :: r, 0, acc => by
    show (if TL.pre S (c :: r) = true then acc :: TL.spl S (S.length - 1) [] r else TL.spl S 0 (acc ++ [c]) r) ≠ []
    split
    · exact nofun
    · exact spl_ne S r 0 _
  | _ :: r, k + 1, acc => spl_ne S r k acc
theorem split_ne {x y : PySem.Str} (h1 : y.cps.toList ≠ []) (h2 : y.cps.all (· < 256) = true) : Txt.split x y ≠ [] := fun e => by
  have := TL.split_spl x y h1 (TL.kind_ok h2)
  rw [e] at this
  exact spl_ne _ _ _ _ this.symm
theorem join_part {y p : PySem.Str} : ∀ {ps : List PySem.Str}, p ∈ ps → p.length ≤ (Str.join y ps).length
  | [x], h => by rw [List.mem_singleton.mp h]; exact Nat.le_refl _
  | x :: z :: r, h => by
    show p.length ≤ (x ++ y ++ Str.join y (z :: r)).length
    rw [app_len, app_len]
    rcases List.mem_cons.mp h with h | h
    · rw [h]; omega
    · have := join_part (y := y) h
      omega
theorem split_len {x y p : PySem.Str} (h : p ∈ Txt.split x y) : p.length ≤ x.length := by
  have := join_part (y := y) h
  rwa [StrLaws.join_split] at this
/-- the number that a word of one or two figures writes -/
def smallN (w : PySem.Str) : Option Int := if figB w = false then none else if 2 < w.length then none else if w.length = 2 ∧ w.cps.toList[0]? = some 48 then none else PySem.intText? w
theorem smallN_int {w : PySem.Str} (h1 : figB w = true) (h2 : w.length ≤ 2) : ∃ n : Int, PySem.intText? w = some n := by
  have f := figB_iff.mp h1
  exact ⟨_, PySem.intText_digits (x := w) (fun c hc => f.1 c hc) (fun e => f.2 (str_ext (by rw [e]; exact codes0.symm))) (by omega)⟩
/-- a row, read -/
inductive Rw
  | long (n : Int) | seekers (n : Int) | line (z : PySem.Str) | group (z : PySem.Str) (n : Int)
def Rw.vs : Rw → List V
  | .long n => [.str "long", .int n]
  | .seekers n => [.str "seekers", .int n]
  | .line z => [.str "line", .str z]
  | .group z n => [.str "group", .str z, .int n]
def rowW : List PySem.Str → Option Rw
  | [a, b] => if a = "long" then (smallN b).map .long else if a = "seekers" then (smallN b).map .seekers else if a = "line" then some (.line b) else none
  | [a, b, c] => if a = "group" then (smallN c).map (.group b) else none
  | _ => none
def rowR (ws : List PySem.Str) : Option Rw := if ("" : PySem.Str) ∈ ws then none else rowW ws
theorem rowW_long (b : PySem.Str) : rowW ["long", b] = (smallN b).map .long := by
  unfold rowW; dsimp only; rw [if_pos rfl]
theorem rowW_seek (b : PySem.Str) : rowW ["seekers", b] = (smallN b).map .seekers := by
  unfold rowW; dsimp only; rw [if_neg (by decide +kernel), if_pos rfl]
theorem rowW_line (b : PySem.Str) : rowW ["line", b] = some (.line b) := by
  unfold rowW; dsimp only; rw [if_neg (by decide +kernel), if_neg (by decide +kernel), if_pos rfl]
theorem rowW_group2 (b : PySem.Str) : rowW ["group", b] = none := by
  unfold rowW; dsimp only; rw [if_neg (by decide +kernel), if_neg (by decide +kernel), if_neg (by decide +kernel)]
theorem rowW_group (b c : PySem.Str) : rowW ["group", b, c] = (smallN c).map (.group b) := by
  unfold rowW; dsimp only; rw [if_pos rfl]
/-- what is read so far -/
structure Rd where
  td : List (PySem.Str × Int) := []
  ls : List PySem.Str := []
  gs : List Pr := []
def Rd.add (r : Rd) : Rw → Option Rd
  | .long n => if ("long" : PySem.Str) ∈ r.td.map (·.1) then none else some { r with td := r.td ++ [(("long" : PySem.Str), n)] }
  | .seekers n => if ("seekers" : PySem.Str) ∈ r.td.map (·.1) then none else some { r with td := r.td ++ [(("seekers" : PySem.Str), n)] }
  | .line z => some { r with ls := r.ls ++ [z] }
  | .group z n => some { r with gs := r.gs ++ [(z, n)] }
def Rd.rows : Rd → List PySem.Str → Option Rd
  | r, [] => some r
  | r, z :: zs => match rowR (Txt.split z " ") with
    | none => none
    | some w => match r.add w with
      | none => none
      | some r2 => r2.rows zs
/-- a plan's parts as a text writes them -/
structure Rp where
  long : Int
  sk : Int
  ls : List PySem.Str
  gs : List Pr
def Rd.done (r : Rd) : Option Rp := match r.td.lookup ("long" : PySem.Str), r.td.lookup ("seekers" : PySem.Str) with
  | some a, some b => some ⟨a, b, r.ls, r.gs⟩
  | _, _ => none
def readT (z : PySem.Str) : Option Rp := match (Rd.rows {} (Txt.split z "\n")) with
  | none => none
  | some r => r.done
theorem Rd.rows_app {z : PySem.Str} : ∀ {zs : List PySem.Str} {r : Rd}, Rd.rows r (zs ++ [z]) = match Rd.rows r zs with
    | none => none
    | some r1 => match rowR (Txt.split z " ") with
      | none => none
      | some w => r1.add w := by
  intro zs
  induction zs with
  | nil =>
    intro r
    show (match rowR (Txt.split z " ") with | none => none | some w => match r.add w with | none => none | some r2 => some r2) = match rowR (Txt.split z " ") with | none => none | some w => r.add w
    cases rowR (Txt.split z " ") with
    | none => rfl
    | some w => dsimp only; cases r.add w <;> rfl
  | cons y zs ih =>
    intro r
    rw [List.cons_append]
    unfold Rd.rows
    cases rowR (Txt.split y " ") with
    | none => rfl
    | some w =>
      dsimp only
      cases r.add w with
      | none => rfl
      | some r2 => exact ih
theorem Rd.rows_none {zs : List PySem.Str} {i : Nat} : ∀ {r : Rd}, Rd.rows r (zs.take i) = none → Rd.rows r zs = none := by
  induction zs generalizing i with
  | nil => intro r h; rw [List.take_nil] at h; exact h
  | cons y zs ih =>
    intro r h
    cases i with
    | zero => cases h
    | succ i =>
      rw [List.take_succ_cons] at h
      unfold Rd.rows at h ⊢
      cases e : rowR (Txt.split y " ") with
      | none => rfl
      | some w =>
        rw [e] at h
        dsimp only at h ⊢
        cases e2 : r.add w with
        | none => rfl
        | some r2 =>
          rw [e2] at h
          exact ih h
/-- of what kinds it is -/
structure RdOk (m k : Nat) (r : Rd) : Prop where
  nd : (r.td.map (·.1)).Nodup
  ks : ∀ x ∈ r.td.map (·.1), x = ("long" : PySem.Str) ∨ x = ("seekers" : PySem.Str)
  l : r.ls.length ≤ k
  lz : ∀ z ∈ r.ls, z.length ≤ m
  g : r.gs.length ≤ k
  gz : ∀ g ∈ r.gs, g.1.length ≤ m
def Rw.fits (m : Nat) : Rw → Prop
  | .line z => z.length ≤ m
  | .group z _ => z.length ≤ m
  | _ => True
theorem RdOk.new (m : Nat) : RdOk m 0 {} := ⟨List.nodup_nil, (fun _ h => nomatch h), Nat.le_refl _, (fun _ h => nomatch h), Nat.le_refl _, (fun _ h => nomatch h)⟩
theorem RdOk.add {m k : Nat} {r r2 : Rd} {w : Rw} (o : RdOk m k r) (f : w.fits m) (e : r.add w = some r2) : RdOk m (k + 1) r2 := by
  have l1 := o.l
  have g1 := o.g
  have put : ∀ {x : PySem.Str} {n : Int}, x ∉ r.td.map (·.1) → (x = "long" ∨ x = "seekers") → RdOk m (k + 1) { r with td := r.td ++ [(x, n)] } := fun {x n} h hx => by
    refine ⟨?_, fun y hy => ?_, Nat.le_succ_of_le o.l, o.lz, Nat.le_succ_of_le o.g, o.gz⟩
    · show ((r.td ++ [(x, n)]).map (·.1)).Nodup
      rw [List.map_append]
      exact List.nodup_append.mpr ⟨o.nd, List.pairwise_singleton _ _, fun a ha b hb e => by
        have : b = x := by simpa using hb
        subst this; subst e; exact h ha⟩
    · have hy : y ∈ (r.td ++ [(x, n)]).map (·.1) := hy
      rw [List.map_append] at hy
      rcases List.mem_append.mp hy with hy | hy
      · exact o.ks y hy
      · have : y = x := by simpa using hy
        rw [this]; exact hx
  cases w with
  | long n =>
    unfold Rd.add at e
    dsimp only at e
    split at e
    · cases e
    · rename_i h; cases e; exact put h (.inl rfl)
  | seekers n =>
    unfold Rd.add at e
    dsimp only at e
    split at e
    · cases e
    · rename_i h; cases e; exact put h (.inr rfl)
  | line z =>
    cases e
    refine ⟨o.nd, o.ks, by show (r.ls ++ [z]).length ≤ _; rw [List.length_append]; show r.ls.length + 1 ≤ _; omega, fun y hy => ?_, Nat.le_succ_of_le o.g, o.gz⟩
    rcases List.mem_append.mp hy with hy | hy
    · exact o.lz y hy
    · rw [List.mem_singleton.mp hy]; exact f
  | group z n =>
    cases e
    refine ⟨o.nd, o.ks, Nat.le_succ_of_le o.l, o.lz, by show (r.gs ++ [(z, n)]).length ≤ _; rw [List.length_append]; show r.gs.length + 1 ≤ _; omega, fun y hy => ?_⟩
    rcases List.mem_append.mp hy with hy | hy
    · exact o.gz y hy
    · rw [List.mem_singleton.mp hy]; exact f
def tdK (td : List (PySem.Str × Int)) : List (Key × V) := td.map fun p => (.inr p.1, .int p.2)
theorem valV_td (x : PySem.Str) : ∀ td : List (PySem.Str × Int), valV (tdK td) (.inr x) = (td.lookup x).map V.int
  | [] => rfl
  | p :: td => by
    by_cases e : x = p.1
    · subst e
      rw [show tdK (p :: td) = (.inr p.1, .int p.2) :: tdK td from rfl, vv_hd]
      simp [List.lookup]
    · rw [show tdK (p :: td) = (.inr p.1, .int p.2) :: tdK td from rfl, vv_tl (fun z => e z.symm) (valV_td x td)]
      have : (x == p.1) = false := beq_eq_false_iff_ne.mpr e
      simp [List.lookup, this]
theorem lookup_td {x : PySem.Str} : ∀ {td : List (PySem.Str × Int)}, x ∈ td.map (·.1) ↔ (td.lookup x).isSome = true
  | [] => by simp [List.lookup]
  | p :: td => by
    by_cases e : x = p.1
    · subst e; simp [List.lookup]
    · have : (x == p.1) = false := beq_eq_false_iff_ne.mpr e
      have ih := lookup_td (x := x) (td := td)
      simp only [List.map_cons, List.mem_cons, e, false_or]
      rw [ih]
      simp [List.lookup, this]
theorem putK_td {x : PySem.Str} {n : Int} {td : List (PySem.Str × Int)} (h : x ∉ td.map (·.1)) : putK (tdK td) (.inr x) (.int n) = tdK (td ++ [(x, n)]) := by
  have e : tdK td = (td.map fun p => (Sum.inr p.1 : Key)).zip (td.map fun p => V.int p.2) := by
    unfold tdK
    induction td with
    | nil => rfl
    | cons p td ih => rw [List.map_cons, List.map_cons, List.map_cons, List.zip_cons_cons, ih (fun z => h (by rw [List.map_cons]; exact List.mem_cons_of_mem _ z))]
  have e2 : tdK (td ++ [(x, n)]) = (td.map fun p => (Sum.inr p.1 : Key)).zip (td.map fun p => V.int p.2) ++ [(.inr x, .int n)] := by
    rw [← e]; unfold tdK; rw [List.map_append]; rfl
  rw [e, putK_zip (by rw [List.length_map, List.length_map]) (fun m => h (by
    obtain ⟨p, hp, e⟩ := List.mem_map.mp m
    have e := Sum.inr.inj e
    subst e
    exact List.mem_map.mpr ⟨p, hp, rfl⟩)), e2, List.zip_append (by rw [List.length_map, List.length_map])]
  rfl
/-- both are there just where there are two -/
theorem RdOk.two {m k : Nat} {r : Rd} (o : RdOk m k r) : r.td.length = 2 ↔ ∃ a b, r.td.lookup ("long" : PySem.Str) = some a ∧ r.td.lookup ("seekers" : PySem.Str) = some b := by
  have nl : ("long" : PySem.Str) ≠ "seekers" := by decide +kernel
  constructor
  · intro h
    have hh : ∀ x : PySem.Str, (x = "long" ∨ x = "seekers") → x ∈ r.td.map (·.1) := by
      match e : r.td, h with
      | [p, q], _ =>
        have nd := o.nd
        have ks := o.ks
        rw [e] at nd ks
        have h1 := ks p.1 (by simp)
        have h2 := ks q.1 (by simp)
        have ne : p.1 ≠ q.1 := by simpa using nd
        intro x hx
        simp only [List.map_cons, List.map_nil, List.mem_cons, List.not_mem_nil, or_false]
        rcases h1 with h1 | h1 <;> rcases h2 with h2 | h2
        · exact absurd (h1.trans h2.symm) ne
        · rcases hx with hx | hx
          · exact .inl (hx.trans h1.symm)
          · exact .inr (hx.trans h2.symm)
        · rcases hx with hx | hx
          · exact .inr (hx.trans h2.symm)
          · exact .inl (hx.trans h1.symm)
        · exact absurd (h1.trans h2.symm) ne
    obtain ⟨a, ha⟩ := Option.isSome_iff_exists.mp (lookup_td.mp (hh _ (.inl rfl)))
    obtain ⟨b, hb⟩ := Option.isSome_iff_exists.mp (lookup_td.mp (hh _ (.inr rfl)))
    exact ⟨a, b, ha, hb⟩
  · rintro ⟨a, b, ha, hb⟩
    have h1 : ("long" : PySem.Str) ∈ r.td.map (·.1) := lookup_td.mpr (by rw [ha]; rfl)
    have h2 : ("seekers" : PySem.Str) ∈ r.td.map (·.1) := lookup_td.mpr (by rw [hb]; rfl)
    have p : (r.td.map (·.1)).Perm [("long" : PySem.Str), "seekers"] := perm_of_mem o.nd (by simp [nl]) fun z => ⟨fun h => by
      rcases o.ks z h with h | h <;> simp [h], fun h => by
      simp only [List.mem_cons, List.not_mem_nil, or_false] at h
      rcases h with rfl | rfl
      · exact h1
      · exact h2⟩
    have := p.length_eq
    rwa [List.length_map] at this
theorem RdOk.le2 {m k : Nat} {r : Rd} (o : RdOk m k r) : r.td.length ≤ 2 := by
  have := Hs.len_sub (ys := [("long" : PySem.Str), "seekers"]) o.nd fun x hx => by
    rcases o.ks x hx with h | h <;> simp [h]
  rwa [List.length_map] at this
/-- the rows of a plan -/
def numS (n : Nat) : PySem.Str := toString ((n : Nat) : Int)
def rowsOf (d : Pd) : List PySem.Str := [("long " : PySem.Str) ++ numS d.long, ("seekers " : PySem.Str) ++ numS d.sk] ++ d.lines.map (fun l => ("line " : PySem.Str) ++ l) ++ d.gs.map (fun g => ("group " : PySem.Str) ++ g.1 ++ " " ++ toString g.2)
def spPlanText (ad : Ad) : Sp := fun vs H Q E => ∃ (B : PL) (F : List As), vs = [.ref B.p] ∧ PdOk B.d ∧ Sep (planC ad B F) H ∧ ∀ H', Sep (planC ad B F) H' → Q (.str (Txt.join "\n" (rowsOf B.d))) H'
theorem len_plantext {ad vs H Q E} (h : spPlanText ad vs H Q E) : vs.length = 1 := by obtain ⟨_, _, rfl, _⟩ := h; rfl
def spSmall : Sp := fun vs H Q E => ∃ (z : PySem.Str), vs = [.str z] ∧ z.length ≤ 100000 ∧ Q ((smallN z).elim .non V.int) H
theorem len_small {vs H Q E} (h : spSmall vs H Q E) : vs.length = 1 := by obtain ⟨_, rfl, _⟩ := h; rfl
def spRowWords (ad : Ad) : Sp := fun vs H Q E => ∃ (z : PySem.Str) (F : List As), vs = [.str z] ∧ z.length ≤ 10000 ∧ Sep F H ∧
  (∀ r, rowR (Txt.split z " ") = some r → ∀ p H', Sep (pt p (.lst r.vs) :: F) H' → Q (.ref p) H') ∧ (rowR (Txt.split z " ") = none → ∀ H', Sep F H' → E (.ref ad.NoText) none H')
theorem len_rowwords {ad vs H Q E} (h : spRowWords ad vs H Q E) : vs.length = 1 := by obtain ⟨_, _, rfl, _⟩ := h; rfl
def spRead (ad : Ad) : Sp := fun vs H Q E => ∃ (z : PySem.Str) (F : List As), vs = [.str z] ∧ z.length ≤ 10000 ∧ (Txt.split z "\n").length ≤ 1000 ∧ Sep F H ∧
  (readT z = none → ∀ H', Sep F H' → E (.ref ad.NoText) none H') ∧
  (∀ r, readT z = some r → planB r.long r.ls r.sk r.gs = false → ∀ H', Sep F H' → E (.ref ad.BadPlan) none H') ∧
  (∀ r, readT z = some r → planB r.long r.ls r.sk r.gs = true → ∀ (B : PL) (H' : Hp), B.d.long = r.long.toNat → B.d.sk = r.sk.toNat → B.d.lines.Perm r.ls → sortedS B.d.lines = true → B.d.gs.Perm r.gs → sortedG B.d.gs → B.o.dict = none → Sep (planC ad B F) H' → Q (.ref B.p) H')
theorem len_read {ad vs H Q E} (h : spRead ad vs H Q E) : vs.length = 1 := by obtain ⟨_, _, rfl, _⟩ := h; rfl
end L2.Zs
namespace L2.Zs
open PySem PySem.Spec PyProof.Rows
set_option hygiene false
local macro_rules | `(tactic| wtm_at "pk") => `(tactic| (repeat (first | with_reducible exact Pick.here | with_reducible apply Pick.there)))
local macro_rules | `(tactic| wtm_at "cg") => `(tactic| (repeat (first | with_reducible exact Chg.here | with_reducible apply Chg.there)))
local macro_rules | `(tactic| wtm_at "sa") => `(tactic| (repeat (first | with_reducible exact SetAt.here | with_reducible apply SetAt.there)))
local macro_rules | `(tactic| wtm_at "wk1") => `(tactic| (repeat (first | with_reducible exact Wk.refl | (with_reducible apply Wk.pick; focus (wtm_at "pk"; done)) | with_reducible apply Wk.drop)))
local macro_rules | `(tactic| wtm_at "wk") => `(tactic| (refine Wk.sep ?_ (by assumption); wtm_at "wk1"))
local macro_rules | `(tactic| wtm_at "sz") => `(tactic| first | exact Nat.le_of_ble_eq_true rfl | assumption | omega)
local macro_rules | `(tactic| wtm_at "s1") => `(tactic| first
  | refine Stp.go ?_
  | ((with_reducible show rMod _ _ _ _); (with_reducible refine s_mod (by first | decide | assumption | omega) ?_))
  | ((with_reducible show rMulZ _ _ _ _); (with_reducible refine s_mulI (by first | exact cmul_l (by decide) | exact cmul_r (by decide) | (exact cmul_l (by omega)) | (exact cmul_r (by omega))) ?_))
  | ((with_reducible show rDiv _ _ _ _); (with_reducible refine s_div (cdiv_of (by decide) (by decide)) ?_))
  | ((with_reducible show rPow _ _ _ _); (with_reducible refine s_pow (cpow_of (by decide) (by decide) (by decide)) ?_))
  | ((with_reducible show rLen _ _ _ _); (with_reducible refine s_lenL (by assumption) (by wtm_at "pk") ?_))
  | ((with_reducible show rLen _ _ _ _); (with_reducible refine s_lenQ (by assumption) (by wtm_at "pk") ?_))
  | ((with_reducible show rLen _ _ _ _); (with_reducible refine s_lenT (by assumption) (by wtm_at "pk") ?_))
  | ((with_reducible show tyV _ _ _ _ ∧ _); (with_reducible refine s_tyL (by assumption) (by wtm_at "pk") ?_))
  | ((with_reducible show FldGet _ _ _ _ _); (with_reducible refine s_fldA (by assumption) (by wtm_at "pk") (by assumption) (by decide +kernel) (by infer_instance) ?_))
  | ((with_reducible show MtGo _ _ _ _ _); (with_reducible refine s_mtA (by assumption) (by wtm_at "pk") (by first | assumption | exact List.mem_cons_self | exact List.mem_cons_of_mem _ List.mem_cons_self) (by infer_instance) (by decide +kernel) ?_))
  | ((with_reducible show DG _ _ _ _); (with_reducible refine s_dgetA (by assumption) (by wtm_at "pk") (by infer_instance) ?_))
  | ((with_reducible show DG _ _ _ _); (with_reducible refine s_dgetM (by assumption) (by wtm_at "pk") (by assumption) ?_))
  | ((with_reducible show rIx _ _ _ _ _); (with_reducible refine s_ixTA (by assumption) (by wtm_at "pk") (by infer_instance) ?_))
  | ((with_reducible show rIx _ _ _ _ _); (with_reducible refine s_ixLA (by assumption) (by wtm_at "pk") (by infer_instance) ?_))
  | ((with_reducible show FldSet _ _ _ _ _ _); (with_reducible refine s_sfldA (by assumption) (by wtm_at "pk") (by assumption) (by decide +kernel) (by infer_instance) (by wtm_at "cg") (fun H S => ?_)))
  | ((with_reducible show FAug _ _ _ _ _ _); (with_reducible refine s_faugA (by assumption) (by wtm_at "pk") (by assumption) (by decide +kernel) (by infer_instance) (by infer_instance) (by wtm_at "cg") (fun H S => ?_)))
  | ((with_reducible show DP _ _ _ _ _); (with_reducible refine s_dputA (by assumption) (by wtm_at "pk") (by infer_instance) (by wtm_at "cg") (fun H S => ?_)))
  | ((with_reducible show DP _ _ _ _ _); (with_reducible refine s_dputM (by assumption) (by wtm_at "cg") (by assumption) (by first | assumption | omega) (fun H S => ?_)))
  | ((with_reducible show DI _ _ _ _ _); (with_reducible refine s_dinM (by assumption) (by wtm_at "pk") ?_))
  | ((with_reducible show DI _ _ _ _ _); (with_reducible refine s_dniM (by assumption) (by wtm_at "pk") ?_)))
local macro_rules | `(tactic| wtm_at "st") => `(tactic| (repeat (first | wtm_at "s1" | with_reducible refine s_seq ?_)))
local macro_rules | `(tactic| wtm_at "stc") => `(tactic| (repeat wtm_at "s1"))
set_option hygiene true

section
variable {P : Program} {w : World} {K : PySem.W.Frag} {mg : PySem.Str → Option Value} {base : Heap} {ad : Ad} {Cs : List Addr} {C : Addr} {f : Addr} {fd : FuncData}
set_option maxHeartbeats 2000000
theorem ok_small_number (T : Txt K mg ad) (c_are_figures : Cal P w K mg base 1 "are_figures" spFigs) (F : Fun K "small_number" "small_number" s_small_number f fd) : FnOk P w K mg base (L2.CX P w) 2 f fd ["word"] spSmall := by
  refine F.okX sc_small_number (fun vs H Q E h => len_small h) (fun cdv A outer s H vs Q E hr h => ?_)
  have tk : Takes (cxOf (L2.CX P w) P w K mg base N_small_number "small_number" (defScope s_small_number) f cdv A outer s H E) (fun cls d _ H => E cls d H) := takes_of rfl rfl rfl rfl
  have po_ : PassesOwn (model P w) (cxOf (L2.CX P w) P w K mg base N_small_number "small_number" (defScope s_small_number) f cdv A outer s H E).A (cxOf (L2.CX P w) P w K mg base N_small_number "small_number" (defScope s_small_number) f cdv A outer s H E).env (cxOf (L2.CX P w) P w K mg base N_small_number "small_number" (defScope s_small_number) f cdv A outer s H E).xe := passes_of rfl
  refine ⟨_, (pss_cons (ps_if ((pw_or (pt_not (pt_val (z_call c_are_figures tk hr (by decide) (by rfl) (pa_cons (pv 0) pa_nil)))) (pw_or (pt_cmpR zo_gt (pe_callB (k_len (K := K) rfl) (by rfl) T.b_len (by decide +kernel) (pa_cons (pv 0) pa_nil)) pe_int (nomark _)) (pw_or1 ((pw_and (pt_cmpR (k_eq (K := K) rfl hr.units) (pe_callB (k_len (K := K) rfl) (by rfl) T.b_len (by decide +kernel) (pa_cons (pv 0) pa_nil)) pe_int (nomark _)) (pw_and1 (pt_cmpR (k_eq (K := K) rfl hr.units) (pe_ix (k_ix (K := K) rfl) (pv 0) pe_int (fun _ _ => rfl)) pe_str (nomark _))))).pt)))).pt (pss_one (ps_ret pe_non)) pss_nil)
  (pss_one (ps_ret (pe_callTy z_intS (by rfl) T.b_int (by decide +kernel) (pa_cons (pv 0) pa_nil))))), ?_⟩
  have fPlan := T.fPlan
  obtain ⟨z, rfl, zl, q⟩ := h
  refine s_start (σ := [some (.str z)]) rfl ?_
  wtm_at "st"
  refine ⟨z, rfl, ?_⟩
  wtm_at "st"
  cases hf : figB z with
  | false =>
    wtm_at "st"
    have : smallN z = none := by unfold smallN; rw [if_pos hf]
    rw [this] at q
    exact q
  | true =>
    wtm_at "st"
    refine s_lenS (Nat.le_trans zl (by decide)) ?_
    wtm_at "st"
    refine s_ifd (fun c1 => ?_) (fun c1 => ?_)
    · wtm_at "st"
      have : smallN z = none := by unfold smallN; rw [if_neg (by rw [hf]; decide), if_pos (by omega)]
      rw [this] at q
      exact q
    have c1 : z.length ≤ 2 := by omega
    obtain ⟨n, hn⟩ := smallN_int hf c1
    wtm_at "st"
    refine s_lenS (Nat.le_trans zl (by decide)) ?_
    wtm_at "st"
    refine s_ifd (fun c2 => ?_) (fun c2 => ?_)
    · wtm_at "st"
      have l0 : 0 < z.cps.toList.length := by rw [len_codes]; omega
      refine s_ixS (c := z.cps.toList[0]) (Nat.le_trans zl (by decide)) (atI_of (by decide) (by rw [show (0 : Int).toNat = 0 from rfl, List.getElem?_eq_getElem l0])) ?_
      wtm_at "st"
      refine s_ifd (fun c3 => ?_) (fun c3 => ?_)
      · wtm_at "st"
        have c3 : z.cps.toList[0] = 48 := by
          have := congrArg (fun s : PySem.Str => s.cps.toList) c3
          have e : (PySem.Str.ofString "0").cps.toList = [48] := by decide +kernel
          rw [e] at this
          simpa using this
        have : smallN z = none := by unfold smallN; rw [if_neg (by rw [hf]; decide), if_neg (by omega), if_pos ⟨by omega, by rw [List.getElem?_eq_getElem l0, c3]⟩]
        rw [this] at q
        exact q
      wtm_at "st"
      refine s_intS hn (by omega) ?_
      have : smallN z = some n := by
        unfold smallN
        rw [if_neg (by rw [hf]; decide), if_neg (by omega), if_neg (fun h => c3 ?_), hn]
        have := h.2
        rw [List.getElem?_eq_getElem l0] at this
        have e := Option.some.inj this
        exact str_ext (by rw [e]; decide +kernel)
      rw [this] at q
      exact q
    wtm_at "st"
    refine s_intS hn (by omega) ?_
    have : smallN z = some n := by
      unfold smallN
      rw [if_neg (by rw [hf]; decide), if_neg (by omega), if_neg (fun h => by omega), hn]
    rw [this] at q
    exact q
theorem ok_row_words (T : Txt K mg ad) (c_small_number : Cal P w K mg base 2 "small_number" spSmall) (F : Fun K "row_words" "row_words" s_row_words f fd) : FnOk P w K mg base (L2.CX P w) 3 f fd ["row"] (spRowWords ad) := by
  refine F.okX sc_row_words (fun vs H Q E h => len_rowwords h) (fun cdv A outer s H vs Q E hr h => ?_)
  have tk : Takes (cxOf (L2.CX P w) P w K mg base N_row_words "row_words" (defScope s_row_words) f cdv A outer s H E) (fun cls d _ H => E cls d H) := takes_of rfl rfl rfl rfl
  have po_ : PassesOwn (model P w) (cxOf (L2.CX P w) P w K mg base N_row_words "row_words" (defScope s_row_words) f cdv A outer s H E).A (cxOf (L2.CX P w) P w K mg base N_row_words "row_words" (defScope s_row_words) f cdv A outer s H E).env (cxOf (L2.CX P w) P w K mg base N_row_words "row_words" (defScope s_row_words) f cdv A outer s H E).xe := passes_of rfl
  refine ⟨_, (pss_cons (ps_set (i := 1) sc_row_words.nd rfl (Or.inl rfl) (k_splitN (pv 0) pe_str))
  (pss_cons (ps_if (pt_cmpR (k_inQ (K := K) rfl) pe_str (pv 1) (by with_unfolding_all rfl)) (pss_one (z_raise rfl tk T.x_NoText rfl)) pss_nil)
  (pss_cons (ps_set (i := 2) sc_row_words.nd rfl (Or.inl rfl) (pe_disp (pps_cons pe_str pe_int (pps_cons pe_str pe_int (pps_cons pe_str pe_int (pps_cons pe_str pe_int pps_nil)))) (by rfl) (by rfl) (fun z => by cases z) (by decide)))
  (pss_cons (ps_if ((pw_or (pt_cmp (pc_dnotin (hu_of hr) (pe_ix (k_ix (K := K) rfl) (pv 1) pe_int (fun _ _ => rfl)) (pv 2))) (pw_or1 (pt_cmpR (k_ne (K := K) rfl hr.units) (pe_callB (k_len (K := K) rfl) (by rfl) T.b_len (by decide +kernel) (pa_cons (pv 1) pa_nil)) (pe_dget (hu_of hr) (pv 2) (pe_ix (k_ix (K := K) rfl) (pv 1) pe_int (fun _ _ => rfl)) (fun _ _ => rfl)) (nomark _))))).pt (pss_one (z_raise rfl tk T.x_NoText rfl)) pss_nil)
  (pss_cons (ps_if (pt_cmpR (k_ne (K := K) rfl hr.units) (pe_ix (k_ix (K := K) rfl) (pv 1) pe_int (fun _ _ => rfl)) pe_str (nomark _)) (pss_cons (ps_set (i := 3) sc_row_words.nd rfl (Or.inl rfl) (z_call c_small_number tk hr (by decide) (by rfl) (pa_cons (pe_ix (k_ix (K := K) rfl) (pv 1) (pe_un un_neg pe_int) (fun _ _ => rfl)) pa_nil)))
  (pss_cons (ps_if (pt_cmpR zo_isN (pv 3) pe_non (nomark _)) (pss_one (z_raise rfl tk T.x_NoText rfl)) pss_nil)
  (pss_one (ps_asg (pv 3) (pg_sub (pv 1) (pe_un un_neg pe_int) set_list))))) pss_nil)
  (pss_one (ps_ret (pv 1)))))))), ?_⟩
  have fPlan := T.fPlan
  obtain ⟨z, F, rfl, zl, S, q1, q2⟩ := h
  refine s_start (σ := [some (.str z), none, none, none]) rfl ?_
  wtm_at "st"
  refine s_split S (by omega) rfl fun wp H S => ?_
  obtain ⟨ws, ew⟩ : ∃ ws, ws = Txt.split z " " := ⟨_, rfl⟩
  rw [← ew] at q1 q2
  have S : Sep (pt wp (.lst (ws.map V.str)) :: F) H := by rw [ew]; exact S
  wtm_at "st"
  refine s_inL S (a := wp) (by wtm_at "pk") rfl (flatS _) ?_
  rw [inV_str]
  wtm_at "st"
  have R0 : rowR ws = if ("" : PySem.Str) ∈ ws then none else rowW ws := rfl
  refine s_ifd (fun c0 => ?_) (fun c0 => ?_)
  · wtm_at "st"
    exact q2 (by rw [R0, if_pos c0]) H S.tail
  rw [if_neg c0] at R0
  rw [R0] at q1 q2
  wtm_at "st"
  refine s_dnew S fun wd H S => ?_
  wtm_at "st"
  obtain ⟨kvs, ek⟩ : ∃ kvs : List (Key × V), kvs = [(.inr "long", .int 2), (.inr "seekers", .int 2), (.inr "line", .int 2), (.inr "group", .int 3)] := ⟨_, rfl⟩
  refine s_ddone (kvs := kvs) (ks := [.inr "long", .inr "seekers", .inr "line", .inr "group"]) S (by wtm_at "cg") (by rw [ek]; rfl) (by rw [ek]; decide) (by rw [ek]; rfl) (by decide +kernel) fun H S => ?_
  have wl : ∀ x ∈ ws, x.length ≤ 10000 := fun x hx => by rw [ew] at hx; exact Nat.le_trans (split_len hx) zl
  obtain ⟨w0, wr, rfl⟩ : ∃ w0 wr, ws = w0 :: wr := by
    cases e : ws with
    | nil => exact absurd (ew ▸ e) (split_ne (by decide +kernel) (by decide +kernel))
    | cons a b => exact ⟨a, b, rfl⟩
  have S : Sep (pt wd (.dK kvs) :: pt wp (.lst (.str w0 :: wr.map V.str)) :: F) H := S
  wtm_at "st"
  refine s_dni S (a := wd) (by wtm_at "pk") ?_
  -- the four heads
  by_cases h1 : w0 = "long" ∨ w0 = "seekers" ∨ w0 = "line" ∨ w0 = "group"
  rotate_left
  · have hv : valV kvs (.inr w0) = none := by
      have n1 : "long" ≠ w0 := fun e => h1 (.inl e.symm)
      have n2 : "seekers" ≠ w0 := fun e => h1 (.inr (.inl e.symm))
      have n3 : "line" ≠ w0 := fun e => h1 (.inr (.inr (.inl e.symm)))
      have n4 : "group" ≠ w0 := fun e => h1 (.inr (.inr (.inr e.symm)))
      rw [ek]
      exact vv_tl n1 (vv_tl n2 (vv_tl n3 (vv_tl n4 rfl)))
    rw [hv]
    wtm_at "st"
    refine q2 ?_ H (by wtm_at "wk")
    have g1 : ¬ w0 = "long" := fun e => h1 (.inl e)
    have g2 : ¬ w0 = "seekers" := fun e => h1 (.inr (.inl e))
    have g3 : ¬ w0 = "line" := fun e => h1 (.inr (.inr (.inl e)))
    have g4 : ¬ w0 = "group" := fun e => h1 (.inr (.inr (.inr e)))
    match wr with
    | [] => rfl
    | [b] => show (if w0 = "long" then _ else _) = _; rw [if_neg g1, if_neg g2, if_neg g3]
    | [b, c] => show (if w0 = "group" then _ else _) = _; rw [if_neg g4]
    | _ :: _ :: _ :: _ => rfl
  obtain ⟨m, hv, m23⟩ : ∃ m : Nat, valV kvs (.inr w0) = some (.int (m : Nat)) ∧ ((m = 2 ∧ w0 ≠ "group") ∨ (m = 3 ∧ w0 = "group")) := by
    rw [ek]
    rcases h1 with rfl | rfl | rfl | rfl
    · exact ⟨2, by decide +kernel, .inl ⟨rfl, by decide +kernel⟩⟩
    · exact ⟨2, by decide +kernel, .inl ⟨rfl, by decide +kernel⟩⟩
    · exact ⟨2, by decide +kernel, .inl ⟨rfl, by decide +kernel⟩⟩
    · exact ⟨3, by decide +kernel, .inr ⟨rfl, rfl⟩⟩
  rw [hv, show (!(some (V.int (m : Nat))).isSome) = false from rfl]
  wtm_at "st"
  rw [show (V.str w0 :: wr.map V.str).length = wr.length + 1 by rw [List.length_cons, List.length_map]]
  refine s_dget S (a := wd) (by wtm_at "pk") hv ?_
  wtm_at "st"
  refine s_ifn (fun c2 => ?_) (fun c2 => ?_)
  · wtm_at "st"
    refine q2 ?_ H (by wtm_at "wk")
    match wr, c2 with
    | [], _ => rfl
    | [b], c2 =>
      rcases m23 with ⟨rfl, g⟩ | ⟨rfl, g⟩
      · exact absurd rfl c2
      · subst g; exact rowW_group2 b
    | [b, c], c2 =>
      rcases m23 with ⟨rfl, g⟩ | ⟨rfl, g⟩
      · show (if w0 = "group" then _ else _) = _; rw [if_neg g]
      · exact absurd rfl c2
    | _ :: _ :: _ :: _, _ => rfl
  wtm_at "st"
  -- a number behind
  have S : Sep (pt wp (.lst (.str w0 :: wr.map V.str)) :: F) H := by wtm_at "wk"
  by_cases gl : w0 = "line"
  · obtain ⟨b, rfl⟩ : ∃ b, wr = [b] := by
      rcases m23 with ⟨rfl, g⟩ | ⟨rfl, g⟩
      · match wr, c2 with
        | [b], _ => exact ⟨b, rfl⟩
        | [], c2 => exact absurd c2 (by decide)
        | _ :: _ :: r, c2 => exact absurd c2 (by simp only [List.length_cons]; omega)
      · rw [gl] at g; exact absurd g (by decide +kernel)
    subst gl
    refine s_ifn (fun c => absurd rfl c) (fun _ => ?_)
    wtm_at "st"
    exact q1 (.line b) (rowW_line b) wp H S
  refine s_ifn (fun _ => ?_) (fun c => absurd c gl)
  wtm_at "st"
  -- words of two or three
  obtain ⟨b, wr2, mk, ewr, ew2, erow, evs⟩ : ∃ (b : PySem.Str) (pre_ : List PySem.Str) (mk : Int → Rw), w0 :: wr = pre_ ++ [b] ∧ (pre_.length = 1 ∨ pre_.length = 2) ∧ rowW (w0 :: wr) = (smallN b).map mk ∧ ∀ n, (mk n).vs = pre_.map V.str ++ [.int n] := by
    rcases m23 with ⟨rfl, g⟩ | ⟨rfl, g⟩
    · match wr, c2 with
      | [b], _ =>
        rcases h1 with h1 | h1 | h1 | h1
        · subst h1; exact ⟨b, [_], .long, rfl, .inl rfl, rowW_long b, fun _ => rfl⟩
        · subst h1; exact ⟨b, [_], .seekers, rfl, .inl rfl, rowW_seek b, fun _ => rfl⟩
        · exact absurd h1 gl
        · exact absurd h1 g
      | [], c2 => exact absurd c2 (by decide)
      | _ :: _ :: r, c2 => exact absurd c2 (by simp only [List.length_cons]; omega)
    · subst g
      match wr, c2 with
      | [b, c], _ => exact ⟨c, [_, b], .group b, rfl, .inr rfl, rowW_group b c, fun _ => rfl⟩
      | [], c2 => exact absurd c2 (by decide)
      | [_], c2 => exact absurd c2 (by simp only [List.length_cons, List.length_nil]; omega)
      | _ :: _ :: _ :: r, c2 => exact absurd c2 (by simp only [List.length_cons]; omega)
  rw [erow] at q1 q2
  have bz : b.length ≤ 10000 := wl b (by rw [ewr]; exact List.mem_append_right _ List.mem_cons_self)
  rw [show V.str w0 :: wr.map V.str = wr2.map V.str ++ [V.str b] by rw [show V.str w0 :: wr.map V.str = (w0 :: wr).map V.str from rfl, ewr, List.map_append]; rfl] at S
  have e1 : atI (wr2.map V.str ++ [V.str b]) (-1) = some (.str b) := by
    rcases ew2 with h | h
    · match wr2, h with
      | [_], _ => rfl
    · match wr2, h with
      | [_, _], _ => rfl
  have e2 : ixN (wr2.map V.str ++ [V.str b]).length (-1) = some wr2.length := by
    rcases ew2 with h | h
    · match wr2, h with
      | [_], _ => rfl
    · match wr2, h with
      | [_, _], _ => rfl
  refine s_ixL S (a := wp) (by wtm_at "pk") e1 ?_
  wtm_at "st"
  refine ⟨b, rfl, by omega, ?_⟩
  cases hn : smallN b with
  | none =>
    rw [hn] at q2
    wtm_at "st"
    refine s_ifd (fun _ => ?_) (fun c => absurd rfl c)
    wtm_at "st"
    exact q2 rfl H S.tail
  | some n =>
    rw [hn] at q1
    wtm_at "st"
    refine s_ifd (fun c => nomatch c) (fun _ => ?_)
    wtm_at "st"
    refine s_stL S (a := wp) (n := wr2.length) (by wtm_at "cg") e2 fun H S => ?_
    wtm_at "st"
    refine q1 (mk n) rfl wp H ?_
    rw [evs]
    have e3 : (wr2.map V.str ++ [V.str b]).set wr2.length (V.int n) = wr2.map V.str ++ [V.int n] := by
      rcases ew2 with h | h
      · match wr2, h with
        | [_], _ => rfl
      · match wr2, h with
        | [_, _], _ => rfl
    rw [show ((some n).elim V.non V.int) = V.int n from rfl, e3] at S
    exact S
theorem ok_read_plan (T : Txt K mg ad) (c_row_words : Cal P w K mg base 3 "row_words" (spRowWords ad)) (k_Plan : Mak P w K mg base 3 "Plan" ad.Plan (spPlan ad ad.Plan)) (F : Fun K "read_plan" "read_plan" s_read_plan f fd) : FnOk P w K mg base (L2.CX P w) 5 f fd ["text"] (spRead ad) := by
  refine F.okX sc_read_plan (fun vs H Q E h => len_read h) (fun cdv A outer s H vs Q E hr h => ?_)
  have tk : Takes (cxOf (L2.CX P w) P w K mg base N_read_plan "read_plan" (defScope s_read_plan) f cdv A outer s H E) (fun cls d _ H => E cls d H) := takes_of rfl rfl rfl rfl
  have po_ : PassesOwn (model P w) (cxOf (L2.CX P w) P w K mg base N_read_plan "read_plan" (defScope s_read_plan) f cdv A outer s H E).A (cxOf (L2.CX P w) P w K mg base N_read_plan "read_plan" (defScope s_read_plan) f cdv A outer s H E).env (cxOf (L2.CX P w) P w K mg base N_read_plan "read_plan" (defScope s_read_plan) f cdv A outer s H E).xe := passes_of rfl
  refine ⟨_, (pss_cons (ps_set (i := 1) sc_read_plan.nd rfl (Or.inl rfl) pe_dnewK)
  (pss_cons (ps_set (i := 2) sc_read_plan.nd rfl (Or.inl rfl) (pe_lst pa_nil))
  (pss_cons (ps_set (i := 3) sc_read_plan.nd rfl (Or.inl rfl) (pe_lst pa_nil))
  (pss_cons (ps_for (po_) rfl (k_list (K := K) rfl (k_splitN (pv 0) pe_str)) (pg_name (i := 4) sc_read_plan.nd rfl (Or.inl rfl)) (pss_cons (ps_set (i := 5) sc_read_plan.nd rfl (Or.inl rfl) (z_call c_row_words tk hr (by decide) (by rfl) (pa_cons (pv 4) pa_nil)))
  (pss_one (ps_if (pt_cmpR (k_eq (K := K) rfl hr.units) (pe_ix (k_ix (K := K) rfl) (pv 5) pe_int (fun _ _ => rfl)) pe_str (nomark _)) (pss_one (ps_expr (k_bm (K := K) rfl PySem.F.plainAttrs_list PySem.F.slot_list_append PySem.F.type_list_append z_append (pv 2) (pa_cons (pe_ix (k_ix (K := K) rfl) (pv 5) pe_int (fun _ _ => rfl)) pa_nil)))) (pss_one (ps_if (pt_cmpR (k_eq (K := K) rfl hr.units) (pe_ix (k_ix (K := K) rfl) (pv 5) pe_int (fun _ _ => rfl)) pe_str (nomark _)) (pss_one (ps_expr (k_bm (K := K) rfl PySem.F.plainAttrs_list PySem.F.slot_list_append PySem.F.type_list_append z_append (pv 3) (pa_cons (pe_tup (pa_cons (pe_ix (k_ix (K := K) rfl) (pv 5) pe_int (fun _ _ => rfl)) (pa_cons (pe_ix (k_ix (K := K) rfl) (pv 5) pe_int (fun _ _ => rfl)) pa_nil))) pa_nil)))) (pss_one (ps_if (pt_cmp (pc_din (hu_of hr) (pe_ix (k_ix (K := K) rfl) (pv 5) pe_int (fun _ _ => rfl)) (pv 1))) (pss_one (z_raise rfl tk T.x_NoText rfl)) (pss_one (ps_dput (hu_of hr) (pv 1) (pe_ix (k_ix (K := K) rfl) (pv 5) pe_int (fun _ _ => rfl)) (pe_ix (k_ix (K := K) rfl) (pv 5) pe_int (fun _ _ => rfl)) rfl))))))))))
  (pss_cons (ps_if (pt_cmpR (k_ne (K := K) rfl hr.units) (pe_callB call_lenD (by rfl) T.b_len (by decide +kernel) (pa_cons (pv 1) pa_nil)) pe_int (nomark _)) (pss_one (z_raise rfl tk T.x_NoText rfl)) pss_nil)
  (pss_one (ps_ret (z_make k_Plan tk hr (by decide) (by rfl) (pa_cons (pe_dget (hu_of hr) (pv 1) pe_str (fun _ _ => rfl)) (pa_cons (pv 2) (pa_cons (pe_dget (hu_of hr) (pv 1) pe_str (fun _ _ => rfl)) (pa_cons (pv 3) pa_nil)))))))))))), ?_⟩
  have fPlan := T.fPlan
  obtain ⟨z, F, rfl, zl, zr, S, q1, q2, q3⟩ := h
  refine s_start (σ := [some (.str z), none, none, none, none, none]) rfl ?_
  wtm_at "st"
  refine s_newD S fun td H S => ?_
  wtm_at "st"
  refine s_newL (by wtm_at "sz") S fun lp H S => ?_
  wtm_at "st"
  refine s_newL (by wtm_at "sz") S fun gp H S => ?_
  wtm_at "st"
  refine s_split S (by omega) rfl fun rp H S => ?_
  obtain ⟨rows, er⟩ : ∃ rows, rows = Txt.split z "\n" := ⟨_, rfl⟩
  have rT : readT z = match (Rd.rows {} rows) with
    | none => none
    | some r => r.done := by rw [er]; rfl
  rw [rT] at q1 q2 q3
  rw [← er] at zr
  have rz : ∀ x ∈ rows, x.length ≤ 10000 := fun x hx => by rw [er] at hx; exact Nat.le_trans (split_len hx) zl
  have S : Sep (pt rp (.lst (rows.map V.str)) :: pt gp (.lst []) :: pt lp (.lst []) :: pt td (.dK []) :: F) H := by rw [er]; exact S
  wtm_at "st"
  refine s_list S (a := rp) (by wtm_at "pk") ?_
  refine lp_list (xs := rows.map V.str) (fun i σ H => ∃ (r : Rd) (ys : List V) (v4 v5 : Option V), Rd.rows {} (rows.take i) = some r ∧ RdOk 10000 i r ∧ σ = [some (.str z), some (.ref td), some (.ref lp), some (.ref gp), v4, v5] ∧
    Sep (pt td (.dK (tdK r.td)) :: pt lp (.lst (r.ls.map V.str)) :: pt gp (.lst ys) :: ims ys (r.gs.map gD) :: pt rp (.lst (rows.map V.str)) :: F) H)
    ⟨{}, [], none, none, rfl, RdOk.new _, rfl, by
      have S := Sep.cons (fun _ h => h.ims0) (S.fr1 (pt gp (.lst [])))
      show Sep (pt td (.dK []) :: pt lp (.lst []) :: pt gp (.lst []) :: ims [] [] :: pt rp (.lst (rows.map V.str)) :: F) _
      wtm_at "wk"⟩ (fun _ _ _ _ ⟨_, _, _, _, _, _, _, S⟩ => SqL.of (S.get (by wtm_at "pk"))) ?_ ?_
  · clear S
    rintro i x σ H hx ⟨r, ys, v4, v5, er1, ok, rfl, S⟩
    rw [List.getElem?_map] at hx
    obtain ⟨y, hy, rfl⟩ := Option.map_eq_some_iff.mp hx
    have hi : i < rows.length := (List.getElem?_eq_some_iff.mp hy).1
    have ym := List.mem_of_getElem? hy
    have et : rows.take (i + 1) = rows.take i ++ [y] := by rw [List.take_succ, hy]; rfl
    have nx : Rd.rows {} (rows.take (i + 1)) = match rowR (Txt.split y " ") with
      | none => none
      | some w => r.add w := by
      first
        | (rw [et, Rd.rows_app, er1]; done)
        | (rw [et, Rd.rows_app, er1]; dsimp only; done)
        | (rw [et, Rd.rows_app, er1]; dsimp only; cases rowR (Txt.split y " ") <;> rfl)
    have bad : Rd.rows {} (rows.take (i + 1)) = none → (match Rd.rows {} rows with | none => none | some r => r.done) = (none : Option Rp) := fun e => by rw [Rd.rows_none e]
    have FR : ∀ {H}, Sep (pt td (.dK (tdK r.td)) :: pt lp (.lst (r.ls.map V.str)) :: pt gp (.lst ys) :: ims ys (r.gs.map gD) :: pt rp (.lst (rows.map V.str)) :: F) H → Sep F H := fun S => S.tail.tail.tail.tail.tail
    have yl := S.imsLen (xs := ys) (by wtm_at "pk")
    rw [List.length_map] at yl
    have l1 := ok.l
    have g1 := ok.g
    wtm_at "st"
    refine ⟨y, _, rfl, rz y ym, S, fun w hw wp H S => ?_, fun hn H S => q1 (bad (by rw [nx, hn])) H (FR S)⟩
    rw [hw] at nx
    have fit : w.fits 10000 := by
      have : ∀ ws : List PySem.Str, (∀ x ∈ ws, x.length ≤ 10000) → rowR ws = some w → w.fits 10000 := fun ws h e => by
        unfold rowR at e
        split at e
        · cases e
        · match ws, h, e with
          | [a, b], h, e =>
            unfold rowW at e
            dsimp only at e
            split at e
            · obtain ⟨_, _, rfl⟩ := Option.map_eq_some_iff.mp e; trivial
            · split at e
              · obtain ⟨_, _, rfl⟩ := Option.map_eq_some_iff.mp e; trivial
              · split at e
                · cases e; exact h b (by simp)
                · cases e
          | [a, b, c], h, e =>
            unfold rowW at e
            dsimp only at e
            split at e
            · obtain ⟨_, _, rfl⟩ := Option.map_eq_some_iff.mp e; exact h b (by simp)
            · cases e
          | [], _, e => cases e
          | [_], _, e => cases e
          | _ :: _ :: _ :: _ :: _, _, e => cases e
      exact this _ (fun x hx => Nat.le_trans (split_len hx) (rz y ym)) hw
    wtm_at "st"
    cases w with
    | line b =>
      have S : Sep (pt wp (.lst [.str "line", .str b]) :: _) H := S
      wtm_at "st"
      refine s_ifd (fun _ => ?_) (fun c => absurd rfl c)
      wtm_at "st"
      refine s_append S (a := lp) (by wtm_at "cg") (by rw [List.length_map]; exact Nat.lt_of_le_of_lt (show r.ls.length ≤ 1000 by omega) (by decide)) fun H S => ?_
      rw [map_snoc] at S
      wtm_at "st"
      exact ⟨{ r with ls := r.ls ++ [b] }, ys, _, _, nx, ok.add (w := .line b) fit rfl, rfl, by wtm_at "wk"⟩
    | group b n =>
      have S : Sep (pt wp (.lst [.str "group", .str b, .int n]) :: _) H := S
      wtm_at "st"
      refine s_ifd (fun c => absurd (show PySem.Str.ofString "group" = PySem.Str.ofString "line" from c) (by decide)) (fun _ => ?_)
      wtm_at "st"
      refine s_ifd (fun _ => ?_) (fun c => absurd rfl c)
      wtm_at "st"
      refine s_newT (by wtm_at "sz") S fun t2 H S => ?_
      have S : Sep (im (.ref t2) (gD (b, n)) :: _) H := Sep.imF S
      wtm_at "st"
      refine s_append S (a := gp) (by wtm_at "cg") (Nat.lt_of_le_of_lt (show ys.length ≤ 1000 by omega) (by decide)) fun H S => ?_
      have S := Sep.imsP (S.fr2 (ims ys _) (im (.ref t2) _))
      rw [map_snoc] at S
      wtm_at "st"
      exact ⟨{ r with gs := r.gs ++ [(b, n)] }, ys ++ [.ref t2], _, _, nx, ok.add (w := .group b n) fit rfl, rfl, by wtm_at "wk"⟩
    | long n =>
      have S : Sep (pt wp (.lst [.str "long", .int n]) :: _) H := S
      wtm_at "st"
      refine s_ifd (fun c => absurd (show PySem.Str.ofString "long" = PySem.Str.ofString "line" from c) (by decide)) (fun _ => ?_)
      wtm_at "st"
      refine s_ifd (fun c => absurd (show PySem.Str.ofString "long" = PySem.Str.ofString "group" from c) (by decide)) (fun _ => ?_)
      wtm_at "st"
      refine s_din S (a := td) (by wtm_at "pk") ?_
      rw [show valV (tdK r.td) (.inr (PySem.Str.ofString "long")) = _ from valV_td _ _]
      by_cases c : ("long" : PySem.Str) ∈ r.td.map (·.1)
      · obtain ⟨a, ha⟩ := Option.isSome_iff_exists.mp (lookup_td.mp c)
        rw [ha, show ((some a).map V.int).isSome = true from rfl]
        wtm_at "st"
        exact q1 (bad (by rw [nx]; exact if_pos c)) H (FR (by wtm_at "wk"))
      · have hn : r.td.lookup ("long" : PySem.Str) = none := Option.not_isSome_iff_eq_none.mp fun h => c (lookup_td.mpr h)
        rw [hn, show ((none : Option Int).map V.int).isSome = false from rfl]
        have e2 := ok.le2
        wtm_at "st"
        refine s_dput S (a := td) (by wtm_at "cg") (putK_td c) (by unfold tdK; rw [List.length_map]; exact Nat.lt_of_le_of_lt e2 (by decide)) fun H S => ?_
        have ea : r.add (.long n) = some { r with td := r.td ++ [(("long" : PySem.Str), n)] } := if_neg c
        exact ⟨{ r with td := r.td ++ [(("long" : PySem.Str), n)] }, ys, _, _, nx.trans ea, ok.add (w := .long n) fit ea, rfl, by wtm_at "wk"⟩
    | seekers n =>
      have S : Sep (pt wp (.lst [.str "seekers", .int n]) :: _) H := S
      wtm_at "st"
      refine s_ifd (fun c => absurd (show PySem.Str.ofString "seekers" = PySem.Str.ofString "line" from c) (by decide)) (fun _ => ?_)
      wtm_at "st"
      refine s_ifd (fun c => absurd (show PySem.Str.ofString "seekers" = PySem.Str.ofString "group" from c) (by decide)) (fun _ => ?_)
      wtm_at "st"
      refine s_din S (a := td) (by wtm_at "pk") ?_
      rw [show valV (tdK r.td) (.inr (PySem.Str.ofString "seekers")) = _ from valV_td _ _]
      by_cases c : ("seekers" : PySem.Str) ∈ r.td.map (·.1)
      · obtain ⟨a, ha⟩ := Option.isSome_iff_exists.mp (lookup_td.mp c)
        rw [ha, show ((some a).map V.int).isSome = true from rfl]
        wtm_at "st"
        exact q1 (bad (by rw [nx]; exact if_pos c)) H (FR (by wtm_at "wk"))
      · have hn : r.td.lookup ("seekers" : PySem.Str) = none := Option.not_isSome_iff_eq_none.mp fun h => c (lookup_td.mpr h)
        rw [hn, show ((none : Option Int).map V.int).isSome = false from rfl]
        have e2 := ok.le2
        wtm_at "st"
        refine s_dput S (a := td) (by wtm_at "cg") (putK_td c) (by unfold tdK; rw [List.length_map]; exact Nat.lt_of_le_of_lt e2 (by decide)) fun H S => ?_
        have ea : r.add (.seekers n) = some { r with td := r.td ++ [(("seekers" : PySem.Str), n)] } := if_neg c
        exact ⟨{ r with td := r.td ++ [(("seekers" : PySem.Str), n)] }, ys, _, _, nx.trans ea, ok.add (w := .seekers n) fit ea, rfl, by wtm_at "wk"⟩
  clear S
  rintro σ H ⟨r, ys, v4, v5, er1, ok, rfl, S⟩
  rw [List.length_map, List.take_length] at er1
  rw [er1] at q1 q2 q3
  dsimp only at q1 q2 q3
  have yl := S.imsLen (xs := ys) (by wtm_at "pk")
  rw [List.length_map] at yl
  rw [List.length_map] at ok
  wtm_at "st"
  refine ⟨td, _, rfl, S.get (by wtm_at "pk"), ?_⟩
  rw [show (tdK r.td).length = r.td.length by unfold tdK; rw [List.length_map]]
  wtm_at "st"
  refine s_ifn (fun c => ?_) (fun c => ?_)
  · wtm_at "st"
    refine q1 ?_ H S.tail.tail.tail.tail.tail
    have : ¬ ∃ a b, r.td.lookup ("long" : PySem.Str) = some a ∧ r.td.lookup ("seekers" : PySem.Str) = some b := fun h => c (by rw [ok.two.mpr h]; rfl)
    unfold Rd.done
    cases e1 : r.td.lookup ("long" : PySem.Str) with
    | none => rfl
    | some a =>
      cases e2 : r.td.lookup ("seekers" : PySem.Str) with
      | none => rfl
      | some b => exact absurd ⟨a, b, e1, e2⟩ this
  obtain ⟨a, b, ha, hb⟩ := ok.two.mp (by omega)
  have rd : r.done = some ⟨a, b, r.ls, r.gs⟩ := by unfold Rd.done; rw [ha, hb]
  wtm_at "st"
  refine s_dget S (a := td) (v := .int a) (by wtm_at "pk") (by rw [valV_td, ha]; rfl) ?_
  wtm_at "st"
  refine s_dget S (a := td) (v := .int b) (by wtm_at "pk") (by rw [valV_td, hb]; rfl) ?_
  wtm_at "st"
  have l1 := ok.l
  have g1 := ok.g
  refine s_mkR S fun p dx H S => ?_
  refine ⟨p, dx, lp, gp, a, b, r.ls, ys, r.gs, pt td (.dK (tdK r.td)) :: pt rp (.lst (rows.map V.str)) :: F, rfl, rfl, by omega, ok.lz, by omega, ok.gz, (by wtm_at "wk"), fun pb B H e0 e1 e2 p1 s1 p2 s2 dn S => ⟨rfl, ?_⟩, fun pb H S => ?_⟩
  · subst e0
    exact q3 ⟨a, b, r.ls, r.gs⟩ rd pb B H e1 e2 p1 s1 p2 s2 dn (by wtm_at "wk")
  · exact q2 ⟨a, b, r.ls, r.gs⟩ rd pb H (by wtm_at "wk")
end
end L2.Zs
namespace L2.Zs
open PySem PySem.Spec PyProof.Rows
/-! # a plan's rows, read back -/
theorem perm_planB {long sk : Int} {ls ls' : List PySem.Str} {gs gs' : List Pr} (h : planB long ls sk gs = true) (p1 : ls.Perm ls') (p2 : gs.Perm gs') : planB long ls' sk gs' = true := by
  unfold planB linesB groupsB at h ⊢
  simp only [Bool.and_eq_true, decide_eq_true_eq, List.all_eq_true] at h ⊢
  obtain ⟨⟨⟨⟨⟨a1, a2⟩, a3⟩, a4⟩, ⟨⟨b1, b2⟩, b3⟩, b4⟩, ⟨c1, c2⟩, c3⟩ := h
  have l1 := p1.length_eq
  have l2 := p2.length_eq
  exact ⟨⟨⟨⟨⟨a1, a2⟩, a3⟩, a4⟩, ⟨⟨by omega, by omega⟩, p1.nodup_iff.mp b3⟩, fun z hz => b4 z (p1.mem_iff.mpr hz)⟩, ⟨by omega, (p2.map (·.1)).nodup_iff.mp c2⟩, fun g hg => c3 g (p2.mem_iff.mpr hg)⟩
def goodN (n : Nat) : Bool := decide (smallN (numS n) = some (n : Int)) && (numS n).cps.toList.all (fun c => decide (48 ≤ c ∧ c ≤ 57)) && decide (1 ≤ (numS n).length) && decide ((numS n).length ≤ 2)
theorem goodN_all : (List.range 100).all goodN = true := by decide +kernel
theorem goodN_at {n : Nat} (h : n < 100) : smallN (numS n) = some (n : Int) ∧ (∀ c ∈ (numS n).cps.toList, 48 ≤ c ∧ c ≤ 57) ∧ 1 ≤ (numS n).length ∧ (numS n).length ≤ 2 := by
  have := List.all_eq_true.mp goodN_all n (List.mem_range.mpr h)
  unfold goodN at this
  simp only [Bool.and_eq_true, decide_eq_true_eq, List.all_eq_true] at this
  exact ⟨this.1.1.1, this.1.1.2, this.1.2, this.2⟩
/-- words of signs that are no blanks, joined, are these words -/
theorem words_join {ws : List PySem.Str} (h0 : ws ≠ []) (h : ∀ w ∈ ws, 32 ∉ w.cps.toList) : Txt.split (Txt.join " " ws) " " = ws :=
  TL.split_join (s := 32) (S := []) (by decide +kernel) (by decide +kernel) h0 h
theorem rows_join {ws : List PySem.Str} (h0 : ws ≠ []) (h : ∀ w ∈ ws, 10 ∉ w.cps.toList) : Txt.split (Txt.join "\n" ws) "\n" = ws :=
  TL.split_join (s := 10) (S := []) (by decide +kernel) (by decide +kernel) h0 h
theorem dig_no {z : PySem.Str} (h : ∀ c ∈ z.cps.toList, 48 ≤ c ∧ c ≤ 57) {k : Nat} (hk : k < 48 := by decide) : k ∉ z.cps.toList := fun m => by
  have := h k m
  omega
theorem dig_ne {z : PySem.Str} (h : 1 ≤ z.length) : z ≠ "" := fun e => by subst e; exact absurd h (by decide +kernel)
theorem no32 {z : PySem.Str} (h : (z.cps.toList.all fun c => decide (c ≠ 32 ∧ c ≠ 10)) = true) : 32 ∉ z.cps.toList ∧ 10 ∉ z.cps.toList :=
  ⟨fun m => by have := List.all_eq_true.mp h 32 m; simp at this, fun m => by have := List.all_eq_true.mp h 10 m; simp at this⟩
theorem row_of {ws : List PySem.Str} {r : Rw} (h0 : ("" : PySem.Str) ∉ ws) (h1 : ws ≠ []) (h : ∀ w ∈ ws, 32 ∉ w.cps.toList) (e : rowW ws = some r) : rowR (Txt.split (Txt.join " " ws) " ") = some r := by
  rw [words_join h1 h]
  unfold rowR
  rw [if_neg h0, e]
theorem join2 (a b : PySem.Str) : Txt.join " " [a, b] = a ++ " " ++ b := by rw [TL.join_eq]; rfl
theorem join3 (a b c : PySem.Str) : Txt.join " " [a, b, c] = a ++ " " ++ (b ++ " " ++ c) := by rw [TL.join_eq]; rfl
theorem app_assoc (a b c : PySem.Str) : a ++ b ++ c = a ++ (b ++ c) := str_ext (by rw [app_codes, app_codes, app_codes, app_codes, List.append_assoc])
theorem row_long {n : Nat} (h : n < 100) : rowR (Txt.split (("long " : PySem.Str) ++ numS n) " ") = some (.long n) := by
  obtain ⟨a, b, c, _⟩ := goodN_at h
  have e : ("long " : PySem.Str) ++ numS n = Txt.join " " ["long", numS n] := by rw [join2]; rfl
  rw [e]
  refine row_of ?_ (by simp) ?_ (by rw [rowW_long, a]; rfl)
  · intro m
    simp only [List.mem_cons, List.not_mem_nil, or_false] at m
    rcases m with m | m
    · exact absurd m (by decide +kernel)
    · exact dig_ne c m.symm
  · intro w hw
    simp only [List.mem_cons, List.not_mem_nil, or_false] at hw
    rcases hw with rfl | rfl
    · decide +kernel
    · exact dig_no b
theorem row_seek {n : Nat} (h : n < 100) : rowR (Txt.split (("seekers " : PySem.Str) ++ numS n) " ") = some (.seekers n) := by
  obtain ⟨a, b, c, _⟩ := goodN_at h
  have e : ("seekers " : PySem.Str) ++ numS n = Txt.join " " ["seekers", numS n] := by rw [join2]; rfl
  rw [e]
  refine row_of ?_ (by simp) ?_ (by rw [rowW_seek, a]; rfl)
  · intro m
    simp only [List.mem_cons, List.not_mem_nil, or_false] at m
    rcases m with m | m
    · exact absurd m (by decide +kernel)
    · exact dig_ne c m.symm
  · intro w hw
    simp only [List.mem_cons, List.not_mem_nil, or_false] at hw
    rcases hw with rfl | rfl
    · decide +kernel
    · exact dig_no b
theorem row_line {l : PySem.Str} (h1 : 1 ≤ l.length) (h : ∀ c ∈ l.cps.toList, 48 ≤ c ∧ c ≤ 57) : rowR (Txt.split (("line " : PySem.Str) ++ l) " ") = some (.line l) := by
  have e : ("line " : PySem.Str) ++ l = Txt.join " " ["line", l] := by rw [join2]; rfl
  rw [e]
  refine row_of ?_ (by simp) ?_ (rowW_line l)
  · intro m
    simp only [List.mem_cons, List.not_mem_nil, or_false] at m
    rcases m with m | m
    · exact absurd m (by decide +kernel)
    · exact dig_ne h1 m.symm
  · intro w hw
    simp only [List.mem_cons, List.not_mem_nil, or_false] at hw
    rcases hw with rfl | rfl
    · decide +kernel
    · exact dig_no h
theorem row_group {p : PySem.Str} {n : Nat} (h1 : 1 ≤ p.length) (h : ∀ c ∈ p.cps.toList, 48 ≤ c ∧ c ≤ 57) (hn : n < 100) : rowR (Txt.split (("group " : PySem.Str) ++ p ++ " " ++ numS n) " ") = some (.group p n) := by
  obtain ⟨a, b, c, _⟩ := goodN_at hn
  have e : ("group " : PySem.Str) ++ p ++ " " ++ numS n = Txt.join " " ["group", p, numS n] := by
    rw [join3, ← app_assoc, ← app_assoc]; rfl
  rw [e]
  refine row_of ?_ (by simp) ?_ (by rw [rowW_group, a]; rfl)
  · intro m
    simp only [List.mem_cons, List.not_mem_nil, or_false] at m
    rcases m with m | m | m
    · exact absurd m (by decide +kernel)
    · exact dig_ne h1 m.symm
    · exact dig_ne c m.symm
  · intro w hw
    simp only [List.mem_cons, List.not_mem_nil, or_false] at hw
    rcases hw with rfl | rfl | rfl
    · decide +kernel
    · exact dig_no h
    · exact dig_no b
/-! ## all rows, in any order -/
def Rw.td : Rw → Option (PySem.Str × Int)
  | .long n => some (("long" : PySem.Str), n)
  | .seekers n => some (("seekers" : PySem.Str), n)
  | _ => none
def Rw.l : Rw → Option PySem.Str
  | .line z => some z
  | _ => none
def Rw.g : Rw → Option Pr
  | .group z n => some (z, n)
  | _ => none
theorem rows_all : ∀ {zs : List PySem.Str} {ws : List Rw} {r : Rd}, zs.map (fun z => rowR (Txt.split z " ")) = ws.map some → ((r.td ++ ws.filterMap Rw.td).map (·.1)).Nodup → Rd.rows r zs = some ⟨r.td ++ ws.filterMap Rw.td, r.ls ++ ws.filterMap Rw.l, r.gs ++ ws.filterMap Rw.g⟩
  | [], [], r, _, _ => by simp [Rd.rows]
  | [], _ :: _, _, h, _ => by cases h
  | _ :: _, [], _, h, _ => by cases h
  | z :: zs, w :: ws, r, h, nd => by
    rw [List.map_cons, List.map_cons] at h
    injection h with h1 h2
    unfold Rd.rows
    rw [h1]
    dsimp only
    have go : ∀ r2 : Rd, r.add w = some r2 → r2.td = r.td ++ [w].filterMap Rw.td → r2.ls = r.ls ++ [w].filterMap Rw.l → r2.gs = r.gs ++ [w].filterMap Rw.g →
        (match r.add w with | none => none | some r2 => r2.rows zs) = some ⟨r.td ++ (w :: ws).filterMap Rw.td, r.ls ++ (w :: ws).filterMap Rw.l, r.gs ++ (w :: ws).filterMap Rw.g⟩ := fun r2 e e1 e2 e3 => by
      rw [e]
      dsimp only
      have nd2 : ((r2.td ++ ws.filterMap Rw.td).map (·.1)).Nodup := by
        rw [e1, List.append_assoc, ← List.filterMap_append]; exact nd
      rw [rows_all h2 nd2, e1, e2, e3, List.append_assoc, List.append_assoc, List.append_assoc, ← List.filterMap_append, ← List.filterMap_append, ← List.filterMap_append]
      rfl
    have fresh : ∀ x n, Rw.td w = some (x, n) → x ∉ r.td.map (·.1) := fun x n e m => by
      rw [List.filterMap_cons_some e, List.map_append, List.map_cons] at nd
      exact (List.nodup_append.mp nd).2.2 x m x List.mem_cons_self rfl
    cases w with
    | long n => exact go _ (if_neg (fresh _ n rfl)) rfl (by simp [Rw.l]) (by simp [Rw.g])
    | seekers n => exact go _ (if_neg (fresh _ n rfl)) rfl (by simp [Rw.l]) (by simp [Rw.g])
    | line z => exact go _ rfl (by simp [Rw.td]) rfl (by simp [Rw.g])
    | group z n => exact go _ rfl (by simp [Rw.td]) (by simp [Rw.l]) rfl
def rwsOf (d : Pd) : List Rw := [.long d.long, .seekers d.sk] ++ d.lines.map .line ++ d.gs.map (fun g => .group g.1 g.2)
theorem rwsOf_td (d : Pd) : (rwsOf d).filterMap Rw.td = [(("long" : PySem.Str), (d.long : Int)), (("seekers" : PySem.Str), (d.sk : Int))] := by
  unfold rwsOf
  rw [List.filterMap_append, List.filterMap_append, List.filterMap_map, List.filterMap_map]
  have e1 : d.lines.filterMap (Rw.td ∘ Rw.line) = [] := by rw [List.filterMap_eq_nil_iff]; exact fun _ _ => rfl
  have e2 : d.gs.filterMap (Rw.td ∘ fun g : Pr => Rw.group g.1 g.2) = [] := by rw [List.filterMap_eq_nil_iff]; exact fun _ _ => rfl
  rw [e1, e2]; rfl
theorem rwsOf_l (d : Pd) : (rwsOf d).filterMap Rw.l = d.lines := by
  unfold rwsOf
  rw [List.filterMap_append, List.filterMap_append, List.filterMap_map, List.filterMap_map]
  have e1 : d.lines.filterMap (Rw.l ∘ Rw.line) = d.lines := by rw [show Rw.l ∘ Rw.line = some from rfl, List.filterMap_some]
  have e2 : d.gs.filterMap (Rw.l ∘ fun g : Pr => Rw.group g.1 g.2) = [] := by rw [List.filterMap_eq_nil_iff]; exact fun _ _ => rfl
  rw [e1, e2, List.append_nil]; rfl
theorem rwsOf_g (d : Pd) : (rwsOf d).filterMap Rw.g = d.gs := by
  unfold rwsOf
  rw [List.filterMap_append, List.filterMap_append, List.filterMap_map, List.filterMap_map]
  have e1 : d.lines.filterMap (Rw.g ∘ Rw.line) = [] := by rw [List.filterMap_eq_nil_iff]; exact fun _ _ => rfl
  have e2 : d.gs.filterMap (Rw.g ∘ fun g : Pr => Rw.group g.1 g.2) = d.gs := by
    rw [show (Rw.g ∘ fun g : Pr => Rw.group g.1 g.2) = some from rfl, List.filterMap_some]
  rw [e1, e2, List.append_nil]; rfl
theorem rows_of {d : Pd} (o : PdOk d) : (rowsOf d).map (fun z => rowR (Txt.split z " ")) = (rwsOf d).map some := by
  have g4 := o.g4
  have s60 := o.s60
  have g2 := o.g2
  unfold rowsOf rwsOf
  rw [List.map_append, List.map_append, List.map_append, List.map_append, List.map_map, List.map_map, List.map_map, List.map_map]
  congr 1
  · congr 1
    · show [rowR _, rowR _] = [some _, some _]
      rw [row_long (by omega), row_seek (by omega)]
    · exact List.map_congr_left fun l hl => row_line (by have := (o.lf l hl).1; omega) (o.lf l hl).2
  · refine List.map_congr_left fun g hg => ?_
    have gf := o.gf g hg
    show rowR (Txt.split (("group " : PySem.Str) ++ g.1 ++ " " ++ toString g.2) " ") = some (Rw.group g.1 g.2)
    have n1 : 1 ≤ g.1.length := by
      rcases Nat.eq_zero_or_pos g.1.length with h | h
      · exact absurd (str_ext (by rw [List.eq_nil_of_length_eq_zero (l := g.1.cps.toList) (by rw [len_codes]; exact h)]; exact codes0.symm)) gf.1
      · exact h
    have := row_group n1 gf.2.2.1 (n := g.2.toNat) (by have := gf.2.2.2.2; omega)
    rw [Int.toNat_of_nonneg gf.2.2.2.1] at this
    rw [← this]
    unfold numS
    rw [Int.toNat_of_nonneg gf.2.2.2.1]
theorem rowsOf_signs {d : Pd} (o : PdOk d) : ∀ z ∈ rowsOf d, 10 ∉ z.cps.toList ∧ z.length ≤ 20 ∧ tz z := by
  have g4 := o.g4
  have s60 := o.s60
  have app : ∀ {a b : PySem.Str}, 10 ∉ a.cps.toList ∧ tz a → 10 ∉ b.cps.toList ∧ tz b → 10 ∉ (a ++ b).cps.toList ∧ tz (a ++ b) := fun h1 h2 => ⟨fun m => by
    rw [app_codes] at m
    rcases List.mem_append.mp m with m | m
    · exact h1.1 m
    · exact h2.1 m, tz_app h1.2 h2.2⟩
  have dg : ∀ {z : PySem.Str}, (∀ c ∈ z.cps.toList, 48 ≤ c ∧ c ≤ 57) → 10 ∉ z.cps.toList ∧ tz z := fun h => ⟨dig_no h, tz_dig h⟩
  have lit : ∀ z : PySem.Str, (z.cps.toList.all fun c => decide (c ≠ 10 ∧ c < 200)) = true → 10 ∉ z.cps.toList ∧ tz z := fun z h => by
    rw [List.all_eq_true] at h
    exact ⟨fun m => by have := h 10 m; simp at this, tz_iff.mpr fun c hc => by have := of_decide_eq_true (h c hc); omega⟩
  intro z hz
  unfold rowsOf at hz
  rcases List.mem_append.mp hz with hz | hz
  · rcases List.mem_append.mp hz with hz | hz
    · simp only [List.mem_cons, List.not_mem_nil, or_false] at hz
      rcases hz with rfl | rfl
      · have a := goodN_at (n := d.long) (by omega)
        have b := app (lit "long " (by decide +kernel)) (dg a.2.1)
        exact ⟨b.1, by rw [app_len, show ("long " : PySem.Str).length = 5 by decide +kernel]; have := a.2.2.2; omega, b.2⟩
      · have a := goodN_at (n := d.sk) (by omega)
        have b := app (lit "seekers " (by decide +kernel)) (dg a.2.1)
        exact ⟨b.1, by rw [app_len, show ("seekers " : PySem.Str).length = 8 by decide +kernel]; have := a.2.2.2; omega, b.2⟩
    · obtain ⟨l, hl, rfl⟩ := List.mem_map.mp hz
      have f := o.lf l hl
      have b := app (lit "line " (by decide +kernel)) (dg f.2)
      exact ⟨b.1, by rw [app_len, show ("line " : PySem.Str).length = 5 by decide +kernel]; have := f.1; omega, b.2⟩
  · obtain ⟨g, hg, rfl⟩ := List.mem_map.mp hz
    have gf := o.gf g hg
    have e : (toString g.2 : PySem.Str) = numS g.2.toNat := by unfold numS; rw [Int.toNat_of_nonneg gf.2.2.2.1]
    have a := goodN_at (n := g.2.toNat) (by have := gf.2.2.2.2; omega)
    have b := app (app (app (lit "group " (by decide +kernel)) (dg gf.2.2.1)) (lit " " (by decide +kernel))) (dg a.2.1)
    rw [e]
    exact ⟨b.1, by rw [app_len, app_len, app_len, show ("group " : PySem.Str).length = 6 by decide +kernel, show (" " : PySem.Str).length = 1 by decide +kernel]; have := a.2.2.2; have := gf.2.1; omega, b.2⟩
theorem rowsOf_len {d : Pd} (o : PdOk d) : 1 ≤ (rowsOf d).length ∧ (rowsOf d).length ≤ 102 := by
  have := o.l60
  have := o.gn
  unfold rowsOf
  rw [List.length_append, List.length_append, List.length_map, List.length_map]
  show 1 ≤ 2 + _ + _ ∧ 2 + _ + _ ≤ 102
  omega
theorem join_len {y : PySem.Str} {n : Nat} : ∀ {ps : List PySem.Str}, (∀ p ∈ ps, p.length ≤ n) → (ps.map (·.length)).sum ≤ ps.length * n
  | [], _ => Nat.zero_le _
  | p :: ps, h => by
    have := join_len (y := y) fun q hq => h q (List.mem_cons_of_mem _ hq)
    have := h p List.mem_cons_self
    rw [List.map_cons, List.sum_cons, List.length_cons, Nat.add_mul, Nat.one_mul]
    omega
/-- a text of a plan's rows, in any order -/
structure PlTx (d : Pd) (z : PySem.Str) : Prop where
  len : z.length ≤ 10000
  rows : (Txt.split z "\n").length ≤ 1000
  rd : ∃ r : Rp, readT z = some r ∧ r.long = d.long ∧ r.sk = d.sk ∧ d.lines.Perm r.ls ∧ d.gs.Perm r.gs
theorem PlTx.of {d : Pd} (o : PdOk d) {rows : List PySem.Str} (p : rows.Perm (rowsOf d)) : PlTx d (Txt.join "\n" rows) := by
  have sg := rowsOf_signs o
  have ln := rowsOf_len o
  have pl := p.length_eq
  have r0 : rows ≠ [] := fun e => by rw [e] at pl; have : 0 = (rowsOf d).length := pl; omega
  have sp := rows_join r0 fun z hz => (sg z (p.mem_iff.mp hz)).1
  refine ⟨?_, by rw [sp]; omega, ?_⟩
  · rw [TL.join_eq]
    have h1 := StrLaws.join_length_le "\n" rows
    have h2 := join_len (y := "\n") (n := 20) (ps := rows) fun z hz => (sg z (p.mem_iff.mp hz)).2.1
    rw [show ("\n" : PySem.Str).length = 1 by decide +kernel] at h1
    omega
  · have e1 := rows_of o
    obtain ⟨ws, ew, pw⟩ : ∃ ws : List Rw, rows.map (fun z => rowR (Txt.split z " ")) = ws.map some ∧ ws.Perm (rwsOf d) := by
      have q := p.map (fun z => rowR (Txt.split z " "))
      rw [e1] at q
      have all : ∀ x ∈ rows.map (fun z => rowR (Txt.split z " ")), ∃ w, x = some w := fun x hx => by
        obtain ⟨w, _, e⟩ := List.mem_map.mp (q.mem_iff.mp hx)
        exact ⟨w, e.symm⟩
      obtain ⟨ws, ew⟩ : ∃ ws : List Rw, rows.map (fun z => rowR (Txt.split z " ")) = ws.map some := by
        generalize rows.map (fun z => rowR (Txt.split z " ")) = xs at all
        clear q
        induction xs with
        | nil => exact ⟨[], rfl⟩
        | cons x xs ih =>
          obtain ⟨ws, e⟩ := ih fun y hy => all y (List.mem_cons_of_mem _ hy)
          obtain ⟨w, rfl⟩ := all x List.mem_cons_self
          exact ⟨w :: ws, by rw [e]; rfl⟩
      refine ⟨ws, ew, ?_⟩
      rw [ew] at q
      have := q.filterMap id
      rw [List.filterMap_map, List.filterMap_map, show (id ∘ some : Rw → Option Rw) = some from rfl, List.filterMap_some, List.filterMap_some] at this
      exact this
    have ptd := pw.filterMap Rw.td
    rw [rwsOf_td] at ptd
    have pl2 := pw.filterMap Rw.l
    rw [rwsOf_l] at pl2
    have pg := pw.filterMap Rw.g
    rw [rwsOf_g] at pg
    have nd : ((ws.filterMap Rw.td).map (·.1)).Nodup := (ptd.map Prod.fst).nodup_iff.mpr (show [("long" : PySem.Str), "seekers"].Nodup by decide +kernel)
    have er := rows_all (r := {}) ew (by exact nd)
    have lk : ∀ {x : PySem.Str} {n : Int}, (x, n) ∈ ws.filterMap Rw.td → (ws.filterMap Rw.td).lookup x = some n := fun {x n} m => by
      generalize ws.filterMap Rw.td = td at nd m
      clear ptd er
      induction td with
      | nil => cases m
      | cons p td ih =>
        rw [List.map_cons, List.nodup_cons] at nd
        rcases List.mem_cons.mp m with m | m
        · rw [← m]; simp [List.lookup]
        · have ne : (x == p.1) = false := beq_eq_false_iff_ne.mpr fun e => nd.1 (List.mem_map.mpr ⟨(x, n), m, e⟩)
          simp only [List.lookup, ne]
          exact ih nd.2 m
    refine ⟨⟨d.long, d.sk, ws.filterMap Rw.l, ws.filterMap Rw.g⟩, ?_, rfl, rfl, pl2.symm, pg.symm⟩
    unfold readT
    rw [sp, er]
    unfold Rd.done
    dsimp only
    rw [show (({} : Rd).td ++ ws.filterMap Rw.td) = ws.filterMap Rw.td from rfl, lk (x := ("long" : PySem.Str)) (n := d.long) (ptd.mem_iff.mpr List.mem_cons_self), lk (x := ("seekers" : PySem.Str)) (n := d.sk) (ptd.mem_iff.mpr (List.mem_cons_of_mem _ List.mem_cons_self))]
    rfl
/-! ## plans, many -/
set_option hygiene false
local macro_rules | `(tactic| wtm_at "pk") => `(tactic| (repeat (first | with_reducible exact Pick.here | with_reducible apply Pick.there)))
local macro_rules | `(tactic| wtm_at "wk1") => `(tactic| (repeat (first | with_reducible exact Wk.refl | (with_reducible apply Wk.pick; focus (wtm_at "pk"; done)) | with_reducible apply Wk.drop)))
local macro_rules | `(tactic| wtm_at "wk") => `(tactic| (refine Wk.sep ?_ (by assumption); wtm_at "wk1"))
set_option hygiene true
@[reducible] def plsC (ad : Ad) : List PL → List As → List As
  | [], F => F
  | B :: Bs, F => planC ad B (plsC ad Bs F)
theorem Sep.cons4 {a b c e : As} {cs cs' : List As} {H : Hp} (f : ∀ H, Sep cs H → Sep cs' H) (S : Sep (a :: b :: c :: e :: cs) H) : Sep (a :: b :: c :: e :: cs') H :=
  Sep.cons (fun _ h => Sep.cons (fun _ h => Sep.cons (fun _ h => Sep.cons f h) h) h) S
theorem plsC_at {ad : Ad} {B : PL} {F : List As} : ∀ {Bs : List PL}, B ∈ Bs → ∃ G, ∀ H, Sep (plsC ad Bs F) H ↔ Sep (planC ad B G) H
  | C :: Bs, m => by
    rcases List.mem_cons.mp m with e | m
    · subst e; exact ⟨_, fun H => Iff.rfl⟩
    · obtain ⟨G, h⟩ := plsC_at (ad := ad) (F := F) m
      refine ⟨planC ad C G, fun H => ⟨fun S => ?_, fun S => ?_⟩⟩
      · have S : Sep (planC ad C (planC ad B G)) H := Sep.cons4 (fun H => (h H).mp) S
        exact by wtm_at "wk"
      · have S : Sep (planC ad C (planC ad B G)) H := by wtm_at "wk"
        exact Sep.cons4 (fun H => (h H).mpr) S
theorem log_small {n : Nat} (h : n < 1000) : ((n : Nat) : Int).natAbs.log2 < 1920 := by
  rw [Int.natAbs_natCast]
  rcases Nat.eq_zero_or_pos n with e | e
  · subst e; decide
  · exact Nat.lt_of_lt_of_le ((Nat.log2_lt (by omega)).mpr (show n < 2 ^ 10 by omega)) (by decide)
/-- many plans, as one chunk -/
def plsA (ad : Ad) (Bs : List PL) : As := star (plsC ad Bs [])
theorem Sep.pls0 {ad : Ad} {F : List As} {H : Hp} (h : Sep F H) : Sep (plsA ad [] :: F) H := h.unflat (ps := [])
theorem Sep.plsAdd {ad : Ad} {B : PL} {Bs : List PL} {F : List As} {H : Hp} (h : Sep (planC ad B (plsA ad Bs :: F)) H) : Sep (plsA ad (B :: Bs) :: F) H := by
  have h2 : Sep (planC ad B (plsC ad Bs [] ++ F)) H := Sep.cons4 (fun _ h => Sep.flat h) h
  exact Sep.unflat (ps := plsC ad (B :: Bs) []) h2
theorem plsA_at {ad : Ad} {B : PL} {Bs : List PL} (m : B ∈ Bs) : ∃ g : As, ∀ F H, Sep (plsA ad Bs :: F) H ↔ Sep (planC ad B (g :: F)) H := by
  obtain ⟨G, h⟩ := plsC_at (ad := ad) (F := []) m
  refine ⟨star G, fun F H => ⟨fun S => ?_, fun S => ?_⟩⟩
  · have S1 : Sep (star (planC ad B G) :: F) H := S.imp fun H' q => (h H').mp q
    have S2 : Sep (planC ad B (G ++ F)) H := Sep.flat S1
    exact Sep.cons4 (fun _ h => Sep.unflat (ps := G) h) S2
  · have S2 : Sep (planC ad B (G ++ F)) H := Sep.cons4 (fun _ h => Sep.flat h) S
    have S1 : Sep (star (planC ad B G) :: F) H := Sep.unflat (ps := planC ad B G) S2
    exact S1.imp fun H' q => (h H').mpr q
def spPlanRows : Sp := fun vs H Q E => ∃ (t a b : Addr) (d : Pd) (ls : List PySem.Str) (xs : List V) (gs : List Pr) (F : List As), vs = [.ref t] ∧ PaOk d ls gs ∧ Sep (partC t a b d ls xs gs F) H ∧
  ∀ p H', Sep (pt p (.lst ((rowsOf d).map V.str)) :: partC t a b d ls xs gs F) H' → Q (.ref p) H'
theorem len_planrows {vs H Q E} (h : spPlanRows vs H Q E) : vs.length = 1 := by obtain ⟨_, _, _, _, _, _, _, _, rfl, _⟩ := h; rfl
def spDealt : Sp := fun vs H Q E => ∃ (a b : Addr) (rows : List PySem.Str) (ds : List Int) (F : List As), vs = [.ref a, .ref b] ∧ rows.length ≤ 1000 ∧ 1 ≤ ds.length ∧ ds.length ≤ 1000 ∧ Sep (pt a (.lst (rows.map V.str)) :: pt b (.lst (ds.map V.int)) :: F) H ∧
  ∀ (p : Addr) (found : List PySem.Str) (H' : Hp), found.Perm rows → Sep (pt p (.lst (found.map V.str)) :: pt a (.lst (rows.map V.str)) :: pt b (.lst (ds.map V.int)) :: F) H' → Q (.ref p) H'
theorem len_dealt {vs H Q E} (h : spDealt vs H Q E) : vs.length = 2 := by obtain ⟨_, _, _, _, _, rfl, _⟩ := h; rfl
def spParts (ad : Ad) : Sp := fun vs H Q E => ∃ (B : PL) (F : List As), vs = [.ref B.p] ∧ Sep (planC ad B F) H ∧ ∀ p H', Sep (pt p (.tup [.int B.d.long, .ref B.l, .int B.d.sk, .ref B.g]) :: planC ad B F) H' → Q (.ref p) H'
theorem len_parts {ad vs H Q E} (h : spParts ad vs H Q E) : vs.length = 1 := by obtain ⟨_, _, rfl, _⟩ := h; rfl
theorem ins_perm {α : Type} (xs : List α) (i : Nat) (x : α) : (xs.take i ++ [x] ++ xs.drop i).Perm (xs ++ [x]) := by
  have : (xs.take i ++ [x] ++ xs.drop i).Perm ([x] ++ (xs.take i ++ xs.drop i)) := by
    rw [← List.append_assoc]
    exact List.Perm.append_right _ List.perm_append_comm
  rw [List.take_append_drop] at this
  exact this.trans List.perm_append_comm
/-! ## what is told of plans -/
def plD (d : Pd) : PyData := .tuple [.int d.long, .tuple (d.lines.map .str), .int d.sk, .tuple (d.gs.map gD)]
def partV (B : PL) : List V := [.int B.d.long, .ref B.l, .int B.d.sk, .ref B.g]
theorem shaped_pls {ds : List Pd} (h : ∀ d ∈ ds, PdOk d) : SeqAt.shaped (.list (ds.map plD)) = true := by
  have one : ∀ d ∈ ds, (plD d).canLay0 = true ∧ (plD d).depth ≤ 3 := fun d hd => by
    have o := h d hd
    have := shaped_pl d.long d.sk (ls := d.lines) (gs := d.gs) (fun z hz => tz_figs (o.lf z hz)) (fun g hg => tz_dig (o.gf g hg).2.2.1)
    unfold SeqAt.shaped at this
    rw [Bool.and_eq_true] at this
    refine ⟨this.1, ?_⟩
    have d1 : PyData.depthAll (d.lines.map .str) = 0 := by rw [← dV_strs]; exact depAll_flat _
    have d2 : PyData.depthAll (d.gs.map gD) ≤ 1 := depthAll_le fun d hd => by
      obtain ⟨g, _, rfl⟩ := List.mem_map.mp hd
      exact (by decide : (1 : Nat) ≤ 1)
    show max 0 (max (PyData.depthAll (d.lines.map .str) + 1) (max 0 (max (PyData.depthAll (d.gs.map gD) + 1) 0))) + 1 ≤ 3
    omega
  have a : PyData.canLayAll0 (ds.map plD) = true := by
    clear h
    induction ds with
    | nil => rfl
    | cons d ds ih =>
      show (PyData.canLay0 (plD d) && PyData.canLayAll0 (ds.map plD)) = true
      rw [(one d List.mem_cons_self).1, ih fun x hx => one x (List.mem_cons_of_mem _ hx)]; rfl
  have b : PyData.depthAll (ds.map plD) ≤ 3 := depthAll_le fun x hx => by
    obtain ⟨d, hd, rfl⟩ := List.mem_map.mp hx
    exact (one d hd).2
  unfold SeqAt.shaped
  show (PyData.canLayAll0 (ds.map plD) && decide (PyData.depthAll (ds.map plD) + 1 ≤ 64)) = true
  rw [a, decide_eq_true (by omega)]; rfl
theorem dpAll_map {α : Type} {K : PySem.W.Frag} {H : Hp} (f : α → V) (g : α → PyData) : ∀ xs : List α, (∀ x ∈ xs, Dp K H (f x) (g x)) → DpAll K H (xs.map f) (xs.map g)
  | [], _ => .nil
  | x :: xs, h => .cons (h x List.mem_cons_self) (dpAll_map f g xs fun y hy => h y (List.mem_cons_of_mem _ hy))
theorem Dp.part {K : PySem.W.Frag} {ad : Ad} {B : PL} {t : Addr} {G : List As} {H : Hp} (o : PdOk B.d) (S : Sep (planC ad B G) H) (h : H t = some (.tup (partV B))) : Dp K H (.ref t) (plD B.d) := by
  have zstr := dpAll_flat (K := K) (H := H) (tz_strs fun z hz => tz_figs (o.lf z hz))
  rw [dV_strs] at zstr
  exact .tup (SqT.of h) (.cons (.int _) (.cons (.tup (SqT.frz (a := B.l) S (.there .here)) zstr) (.cons (.int _) (.cons (.tup (SqT.frz (a := B.g) S (.there (.there .here))) (S.imsGet (v := B.gx) (.there (.there (.there .here)))).dp) .nil))))
theorem tz_join {y : PySem.Str} (hy : tz y) : ∀ {ps : List PySem.Str}, (∀ p ∈ ps, tz p) → tz (Txt.join y ps) := fun {ps} h => by
  rw [TL.join_eq]
  induction ps with
  | nil => exact tz_nil
  | cons p ps ih =>
    cases ps with
    | nil => exact h p List.mem_cons_self
    | cons q r =>
      show tz (p ++ y ++ Str.join y (q :: r))
      exact tz_app (tz_app (h p List.mem_cons_self) hy) (ih fun x hx => h x (List.mem_cons_of_mem _ hx))
/-- a plan that is read is the plan that was written -/
theorem PlTx.same {d e : Pd} (o : PdOk d) (sd : sortedS d.lines = true) (sg : sortedG d.gs) {r : Rp} (h1 : r.long = d.long) (h2 : r.sk = d.sk) (p1 : d.lines.Perm r.ls) (p2 : d.gs.Perm r.gs)
    (e1 : e.long = r.long.toNat) (e2 : e.sk = r.sk.toNat) (q1 : e.lines.Perm r.ls) (t1 : sortedS e.lines = true) (q2 : e.gs.Perm r.gs) (t2 : sortedG e.gs) : e = d := by
  have a1 : e.lines = d.lines := sortS_eq (q1.trans p1.symm) t1 sd
  have a2 : e.gs = d.gs := sortedG_eq (q2.trans p2.symm) t2 sg
  have a3 : e.long = d.long := by rw [e1, h1, Int.toNat_natCast]
  have a4 : e.sk = d.sk := by rw [e2, h2, Int.toNat_natCast]
  obtain ⟨_, _, _, _⟩ := e
  obtain ⟨_, _, _, _⟩ := d
  simp only at a1 a2 a3 a4
  subst a1 a2 a3 a4
  rfl
theorem PlTx.pb {d : Pd} {ls : List PySem.Str} {gs : List Pr} (pa : PaOk d ls gs) {r : Rp} (h1 : r.long = d.long) (h2 : r.sk = d.sk) (p1 : d.lines.Perm r.ls) (p2 : d.gs.Perm r.gs) : planB r.long r.ls r.sk r.gs = true := by
  rw [h1, h2]
  exact perm_planB pa.pb (pa.p1.symm.trans p1) (pa.p2.symm.trans p2)
theorem four_of {α : Type} : ∀ {l : List α}, l.length = 4 → ∃ a b c d, l = [a, b, c, d]
  | [a, b, c, d], _ => ⟨a, b, c, d, rfl⟩
  | [], h => by cases h
  | [_], h => by cases h
  | [_, _], h => by cases h
  | [_, _, _], h => by cases h
  | _ :: _ :: _ :: _ :: _ :: _, h => by simp at h
end L2.Zs
namespace L2.Zs
open PySem PySem.Spec PyProof.Rows
set_option hygiene false
local macro_rules | `(tactic| wtm_at "pk") => `(tactic| (repeat (first | with_reducible exact Pick.here | with_reducible apply Pick.there)))
local macro_rules | `(tactic| wtm_at "cg") => `(tactic| (repeat (first | with_reducible exact Chg.here | with_reducible apply Chg.there)))
local macro_rules | `(tactic| wtm_at "sa") => `(tactic| (repeat (first | with_reducible exact SetAt.here | with_reducible apply SetAt.there)))
local macro_rules | `(tactic| wtm_at "wk1") => `(tactic| (repeat (first | with_reducible exact Wk.refl | (with_reducible apply Wk.pick; focus (wtm_at "pk"; done)) | with_reducible apply Wk.drop)))
local macro_rules | `(tactic| wtm_at "wk") => `(tactic| (refine Wk.sep ?_ (by assumption); wtm_at "wk1"))
local macro_rules | `(tactic| wtm_at "sz") => `(tactic| first | exact Nat.le_of_ble_eq_true rfl | assumption | omega)
local macro_rules | `(tactic| wtm_at "s1") => `(tactic| first
  | refine Stp.go ?_
  | ((with_reducible show rMod _ _ _ _); (with_reducible refine s_mod (by first | decide | assumption | omega) ?_))
  | ((with_reducible show rMulZ _ _ _ _); (with_reducible refine s_mulI (by first | exact cmul_l (by decide) | exact cmul_r (by decide) | (exact cmul_l (by omega)) | (exact cmul_r (by omega))) ?_))
  | ((with_reducible show rDiv _ _ _ _); (with_reducible refine s_div (cdiv_of (by decide) (by decide)) ?_))
  | ((with_reducible show rPow _ _ _ _); (with_reducible refine s_pow (cpow_of (by decide) (by decide) (by decide)) ?_))
  | ((with_reducible show rLen _ _ _ _); (with_reducible refine s_lenL (by assumption) (by wtm_at "pk") ?_))
  | ((with_reducible show rLen _ _ _ _); (with_reducible refine s_lenQ (by assumption) (by wtm_at "pk") ?_))
  | ((with_reducible show rLen _ _ _ _); (with_reducible refine s_lenT (by assumption) (by wtm_at "pk") ?_))
  | ((with_reducible show tyV _ _ _ _ ∧ _); (with_reducible refine s_tyL (by assumption) (by wtm_at "pk") ?_))
  | ((with_reducible show FldGet _ _ _ _ _); (with_reducible refine s_fldA (by assumption) (by wtm_at "pk") (by assumption) (by decide +kernel) (by infer_instance) ?_))
  | ((with_reducible show MtGo _ _ _ _ _); (with_reducible refine s_mtA (by assumption) (by wtm_at "pk") (by first | assumption | exact List.mem_cons_self | exact List.mem_cons_of_mem _ List.mem_cons_self) (by infer_instance) (by decide +kernel) ?_))
  | ((with_reducible show DG _ _ _ _); (with_reducible refine s_dgetA (by assumption) (by wtm_at "pk") (by infer_instance) ?_))
  | ((with_reducible show DG _ _ _ _); (with_reducible refine s_dgetM (by assumption) (by wtm_at "pk") (by assumption) ?_))
  | ((with_reducible show rIx _ _ _ _ _); (with_reducible refine s_ixTA (by assumption) (by wtm_at "pk") (by infer_instance) ?_))
  | ((with_reducible show rIx _ _ _ _ _); (with_reducible refine s_ixLA (by assumption) (by wtm_at "pk") (by infer_instance) ?_))
  | ((with_reducible show FldSet _ _ _ _ _ _); (with_reducible refine s_sfldA (by assumption) (by wtm_at "pk") (by assumption) (by decide +kernel) (by infer_instance) (by wtm_at "cg") (fun H S => ?_)))
  | ((with_reducible show FAug _ _ _ _ _ _); (with_reducible refine s_faugA (by assumption) (by wtm_at "pk") (by assumption) (by decide +kernel) (by infer_instance) (by infer_instance) (by wtm_at "cg") (fun H S => ?_)))
  | ((with_reducible show DP _ _ _ _ _); (with_reducible refine s_dputA (by assumption) (by wtm_at "pk") (by infer_instance) (by wtm_at "cg") (fun H S => ?_)))
  | ((with_reducible show DP _ _ _ _ _); (with_reducible refine s_dputM (by assumption) (by wtm_at "cg") (by assumption) (by first | assumption | omega) (fun H S => ?_)))
  | ((with_reducible show DI _ _ _ _ _); (with_reducible refine s_dinM (by assumption) (by wtm_at "pk") ?_))
  | ((with_reducible show DI _ _ _ _ _); (with_reducible refine s_dniM (by assumption) (by wtm_at "pk") ?_)))
local macro_rules | `(tactic| wtm_at "st") => `(tactic| (repeat (first | wtm_at "s1" | with_reducible refine s_seq ?_)))
local macro_rules | `(tactic| wtm_at "stc") => `(tactic| (repeat wtm_at "s1"))
set_option hygiene true

section
variable {P : Program} {w : World} {K : PySem.W.Frag} {mg : PySem.Str → Option Value} {base : Heap} {ad : Ad} {Cs : List Addr} {C : Addr} {f : Addr} {fd : FuncData}
set_option maxHeartbeats 2000000
theorem ok_plan_text (T : Txt K mg ad) (F : Fun K "plan_text" "plan_text" s_plan_text f fd) : FnOk P w K mg base (L2.CX P w) 1 f fd ["plan"] (spPlanText ad) := by
  refine F.okX sc_plan_text (fun vs H Q E h => len_plantext h) (fun cdv A outer s H vs Q E hr h => ?_)
  have tk : Takes (cxOf (L2.CX P w) P w K mg base N_plan_text "plan_text" (defScope s_plan_text) f cdv A outer s H E) (fun cls d _ H => E cls d H) := takes_of rfl rfl rfl rfl
  have po_ : PassesOwn (model P w) (cxOf (L2.CX P w) P w K mg base N_plan_text "plan_text" (defScope s_plan_text) f cdv A outer s H E).A (cxOf (L2.CX P w) P w K mg base N_plan_text "plan_text" (defScope s_plan_text) f cdv A outer s H E).env (cxOf (L2.CX P w) P w K mg base N_plan_text "plan_text" (defScope s_plan_text) f cdv A outer s H E).xe := passes_of rfl
  refine ⟨_, (pss_cons (ps_set (i := 1) sc_plan_text.nd rfl (Or.inl rfl) (pe_lst (pa_cons (pe_op zo_add pe_str (pe_callTy z_strI (by rfl) T.b_str (by decide +kernel) (pa_cons (k_fld (K := K) rfl (pv 0) rfl) pa_nil))) (pa_cons (pe_op zo_add pe_str (pe_callTy z_strI (by rfl) T.b_str (by decide +kernel) (pa_cons (k_fld (K := K) rfl (pv 0) rfl) pa_nil))) pa_nil))))
  (pss_cons (ps_expr (k_bm (K := K) rfl PySem.F.plainAttrs_list PySem.F.slot_list_extend PySem.F.type_list_extend z_extend (pv 1) (pa_cons (pe_lc (own := [("line", 2)]) (g := gName 2) (tt := tYes) rfl sc_plan_text.nd (k_tup (K := K) rfl (k_fld (K := K) rfl (pv 0) rfl)) (blkOk_by (N := N_plan_text) (sc := defScope s_plan_text) (by decide +kernel)) (fun _ _ _ _ _ => (pg_name (i := 2) sc_plan_text.nd rfl (Or.inl rfl))) (fun _ _ _ _ _ => pts_nil) (fun _ _ _ _ _ => (pe_op zo_add pe_str (pv 2)))) pa_nil)))
  (pss_cons (ps_expr (k_bm (K := K) rfl PySem.F.plainAttrs_list PySem.F.slot_list_extend PySem.F.type_list_extend z_extend (pv 1) (pa_cons (pe_lc (own := [("prefix", 3), ("many", 4)])  (tt := tYes) rfl sc_plan_text.nd (k_tup (K := K) rfl (k_fld (K := K) rfl (pv 0) rfl)) (blkOk_by (N := N_plan_text) (sc := defScope s_plan_text) (by decide +kernel)) (fun _ _ _ _ _ => (k_gtup (K := K) (n := 2) rfl rfl (pgs_cons (pg_name (i := 3) sc_plan_text.nd rfl (Or.inl rfl)) (pgs_cons (pg_name (i := 4) sc_plan_text.nd rfl (Or.inl rfl)) pgs_nil)))) (fun _ _ _ _ _ => pts_nil) (fun _ _ _ _ _ => (pe_op zo_add (pe_op zo_add (pe_op zo_add pe_str (pv 3)) pe_str) (pe_callTy z_strI (by rfl) T.b_str (by decide +kernel) (pa_cons (pv 4) pa_nil))))) pa_nil)))
  (pss_one (ps_ret (k_joinN (K := K) rfl pe_str (pv 1))))))), ?_⟩
  have fPlan := T.fPlan
  obtain ⟨B, F, rfl, o, S, q⟩ := h
  refine s_start (σ := [some (.ref B.p), none, none, none, none]) rfl ?_
  have g4 := o.g4
  have s60 := o.s60
  have sg := rowsOf_signs o
  have ln := rowsOf_len o
  wtm_at "st"
  have big : ∀ {n : Nat}, n < 1000 → ((n : Nat) : Int).natAbs.log2 < 1920 := fun h => log_small h
  obtain ⟨r0, er0⟩ : ∃ r0, r0 = ("long " : PySem.Str) ++ numS B.d.long := ⟨_, rfl⟩
  obtain ⟨r1, er1⟩ : ∃ r1, r1 = ("seekers " : PySem.Str) ++ numS B.d.sk := ⟨_, rfl⟩
  have m0 : r0 ∈ rowsOf B.d := by rw [er0]; unfold rowsOf; exact List.mem_append_left _ (List.mem_append_left _ List.mem_cons_self)
  have m1 : r1 ∈ rowsOf B.d := by rw [er1]; unfold rowsOf; exact List.mem_append_left _ (List.mem_append_left _ (List.mem_cons_of_mem _ List.mem_cons_self))
  refine s_strI (big (by omega)) ?_
  refine s_addS (by have := (sg r0 m0).2.1; rw [er0, app_len] at this; exact Nat.le_trans this (by decide)) ?_
  wtm_at "st"
  refine s_strI (big (by omega)) ?_
  refine s_addS (by have := (sg r1 m1).2.1; rw [er1, app_len] at this; exact Nat.le_trans this (by decide)) ?_
  wtm_at "st"
  refine s_newL (by wtm_at "sz") S fun rp H S => ?_
  have S : Sep (pt rp (.lst ([r0, r1].map V.str)) :: planC ad B F) H := by rw [er0, er1]; exact S
  wtm_at "st"
  refine s_forF S (a := B.l) (by wtm_at "pk") ?_
  refine s_lcT (xs := B.d.lines.map V.str) S (fun D i H' => Sep (pt D (.lst (((B.d.lines.take i).map fun l => ("line " : PySem.Str) ++ l).map V.str)) :: pt rp (.lst ([r0, r1].map V.str)) :: planC ad B F) H') (fun D H' S => S) (fun D i H' _ S => SqT.frz (a := B.l) S (by wtm_at "pk")) ?_ ?_
  · clear S
    intro D i x H hx S
    rw [List.getElem?_map] at hx
    obtain ⟨l, hl, rfl⟩ := Option.map_eq_some_iff.mp hx
    have lf := o.lf l (List.mem_of_getElem? hl)
    dsimp only [List.map, wipe, List.set]
    wtm_at "st"
    refine ⟨rfl, ?_⟩
    wtm_at "st"
    refine s_addS (by rw [lf.1]; exact Nat.le_trans (show 5 + B.d.long ≤ 100 by omega) (by decide)) ?_
    refine s_lcput S (by wtm_at "cg") (by rw [List.length_map, List.length_map, List.length_take]; exact Nat.lt_of_le_of_lt (Nat.le_trans (Nat.min_le_right _ _) o.l60) (by decide)) fun H S => ?_
    rw [List.take_succ, hl, List.map_append, List.map_append]
    exact S
  clear S
  intro D H S
  rw [List.length_map, List.take_length] at S
  wtm_at "st"
  refine s_extend S (a := rp) (b := D) (by wtm_at "cg") (by wtm_at "pk") (by rw [List.length_map, List.length_map, List.length_map]; exact Nat.le_trans (show 2 + B.d.lines.length ≤ 100 by have := o.l60; omega) (by decide)) fun H S => ?_
  rw [← List.map_append] at S
  have S : Sep (pt rp (.lst (([r0, r1] ++ B.d.lines.map fun l => ("line " : PySem.Str) ++ l).map V.str)) :: planC ad B F) H := by wtm_at "wk"
  obtain ⟨rs, ers⟩ : ∃ rs, rs = [r0, r1] ++ B.d.lines.map fun l => ("line " : PySem.Str) ++ l := ⟨_, rfl⟩
  have rsl : rs.length ≤ 62 := by rw [ers, List.length_append, List.length_map]; show 2 + _ ≤ 62; have := o.l60; omega
  rw [← ers] at S
  have xl := S.imsLen (xs := B.gx) (by wtm_at "pk")
  rw [List.length_map] at xl
  wtm_at "st"
  refine s_forF S (a := B.g) (by wtm_at "pk") ?_
  refine s_lcT (xs := B.gx) S (fun D i H' => Sep (pt D (.lst (((B.d.gs.take i).map fun g => ("group " : PySem.Str) ++ g.1 ++ " " ++ toString g.2).map V.str)) :: pt rp (.lst (rs.map V.str)) :: planC ad B F) H') (fun D H' S => S) (fun D i H' _ S => SqT.frz (a := B.g) S (by wtm_at "pk")) ?_ ?_
  · clear S
    intro D i x H hx S
    obtain ⟨d, hd, hI⟩ := (S.imsGet (v := B.gx) (by wtm_at "pk")).at_ hx
    rw [List.getElem?_map] at hd
    obtain ⟨g, hg, rfl⟩ := Option.map_eq_some_iff.mp hd
    obtain ⟨t, rfl, htt⟩ := hI.tup2
    have gm := List.mem_of_getElem? hg
    have gf := o.gf g gm
    have zg := (sg (("group " : PySem.Str) ++ g.1 ++ " " ++ toString g.2) (by unfold rowsOf; exact List.mem_append_right _ (List.mem_map.mpr ⟨g, gm, rfl⟩))).2.1
    rw [app_len, app_len, app_len] at zg
    dsimp only [List.map, wipe, List.set]
    refine s_gtupH2 htt rfl ?_
    wtm_at "st"
    refine ⟨rfl, ?_⟩
    wtm_at "st"
    refine s_addS (Nat.le_trans (show _ ≤ 20 by omega) (by decide)) ?_
    wtm_at "st"
    refine s_addS (Nat.le_trans (show _ ≤ 20 by rw [app_len]; omega) (by decide)) ?_
    wtm_at "st"
    refine s_strI (by rw [← Int.toNat_of_nonneg gf.2.2.2.1]; exact big (by have := gf.2.2.2.2; omega)) ?_
    refine s_addS (Nat.le_trans (show _ ≤ 20 by rw [app_len, app_len]; omega) (by decide)) ?_
    refine s_lcput S (by wtm_at "cg") (by rw [List.length_map, List.length_map, List.length_take]; exact Nat.lt_of_le_of_lt (Nat.le_trans (Nat.min_le_right _ _) o.gn) (by decide)) fun H S => ?_
    rw [List.take_succ, hg, List.map_append, List.map_append]
    exact S
  clear S
  intro D2 H S
  rw [xl, List.take_length] at S
  wtm_at "st"
  refine s_extend S (a := rp) (b := D2) (by wtm_at "cg") (by wtm_at "pk") (by rw [List.length_map, List.length_map, List.length_map]; exact Nat.le_trans (show rs.length + B.d.gs.length ≤ 200 by have := o.gn; omega) (by decide)) fun H S => ?_
  rw [← List.map_append] at S
  have er : rs ++ (B.d.gs.map fun g => ("group " : PySem.Str) ++ g.1 ++ " " ++ toString g.2) = rowsOf B.d := by rw [ers, er0, er1]; rfl
  rw [er] at S
  wtm_at "st"
  refine s_join S (a := rp) (by wtm_at "pk") ?_ ?_
  · have := join_len (y := "\n") (n := 20) (ps := rowsOf B.d) fun z hz => (sg z hz).2.1
    rw [show (PySem.Str.ofString "\n").length = 1 by decide +kernel]
    omega
  exact q H (by wtm_at "wk")
theorem ok_Lplan_rows (T : Txt K mg ad) (F : Fun K "_law_plan_rows" "_law_plan_rows" s_Lplan_rows f fd) : FnOk P w K mg base (L2.CX P w) 1 f fd ["parts"] spPlanRows := by
  refine F.okX sc_Lplan_rows (fun vs H Q E h => len_planrows h) (fun cdv A outer s H vs Q E hr h => ?_)
  have tk : Takes (cxOf (L2.CX P w) P w K mg base N_Lplan_rows "_law_plan_rows" (defScope s_Lplan_rows) f cdv A outer s H E) (fun cls d _ H => E cls d H) := takes_of rfl rfl rfl rfl
  have po_ : PassesOwn (model P w) (cxOf (L2.CX P w) P w K mg base N_Lplan_rows "_law_plan_rows" (defScope s_Lplan_rows) f cdv A outer s H E).A (cxOf (L2.CX P w) P w K mg base N_Lplan_rows "_law_plan_rows" (defScope s_Lplan_rows) f cdv A outer s H E).env (cxOf (L2.CX P w) P w K mg base N_Lplan_rows "_law_plan_rows" (defScope s_Lplan_rows) f cdv A outer s H E).xe := passes_of rfl
  refine ⟨_, (pss_cons (ps_asg (pv 0) (k_gtup (K := K) (n := 4) rfl rfl (pgs_cons (pg_name (i := 1) sc_Lplan_rows.nd rfl (Or.inl rfl)) (pgs_cons (pg_name (i := 2) sc_Lplan_rows.nd rfl (Or.inl rfl)) (pgs_cons (pg_name (i := 3) sc_Lplan_rows.nd rfl (Or.inl rfl)) (pgs_cons (pg_name (i := 4) sc_Lplan_rows.nd rfl (Or.inl rfl)) pgs_nil))))))
  (pss_cons (ps_set (i := 6) sc_Lplan_rows.nd rfl (Or.inl rfl) (pe_op zo_add (pe_lst (pa_cons (pe_op zo_add pe_str (pe_callTy z_strI (by rfl) T.b_str (by decide +kernel) (pa_cons (pv 1) pa_nil))) (pa_cons (pe_op zo_add pe_str (pe_callTy z_strI (by rfl) T.b_str (by decide +kernel) (pa_cons (pv 3) pa_nil))) pa_nil))) (pe_lc (own := [("line", 5)]) (g := gName 5) (tt := tYes) rfl sc_Lplan_rows.nd (k_list (K := K) rfl (pe_callB (k_sortedS (K := K) rfl) (by rfl) T.b_sorted (by decide +kernel) (pa_cons (pv 2) pa_nil))) (blkOk_by (N := N_Lplan_rows) (sc := defScope s_Lplan_rows) (by decide +kernel)) (fun _ _ _ _ _ => (pg_name (i := 5) sc_Lplan_rows.nd rfl (Or.inl rfl))) (fun _ _ _ _ _ => pts_nil) (fun _ _ _ _ _ => (pe_op zo_add pe_str (pv 5))))))
  (pss_one (ps_ret (pe_op zo_add (pv 6) (pe_lc (own := [("prefix", 7), ("many", 8)])  (tt := tYes) rfl sc_Lplan_rows.nd (k_list (K := K) rfl (pe_callB cr_sortedG (by rfl) T.b_sorted (by decide +kernel) (pa_cons (pv 4) pa_nil))) (blkOk_by (N := N_Lplan_rows) (sc := defScope s_Lplan_rows) (by decide +kernel)) (fun _ _ _ _ _ => (k_gtup (K := K) (n := 2) rfl rfl (pgs_cons (pg_name (i := 7) sc_Lplan_rows.nd rfl (Or.inl rfl)) (pgs_cons (pg_name (i := 8) sc_Lplan_rows.nd rfl (Or.inl rfl)) pgs_nil)))) (fun _ _ _ _ _ => pts_nil) (fun _ _ _ _ _ => (pe_op zo_add (pe_op zo_add (pe_op zo_add pe_str (pv 7)) pe_str) (pe_callTy z_strI (by rfl) T.b_str (by decide +kernel) (pa_cons (pv 8) pa_nil)))))))))), ?_⟩
  have fPlan := T.fPlan
  obtain ⟨t, a, b, d, ls, xs, gs, F, rfl, pa, S, q⟩ := h
  refine s_start (σ := [some (.ref t), none, none, none, none, none, none, none, none]) rfl ?_
  have o := pa.ok
  have g4 := o.g4
  have s60 := o.s60
  have sg := rowsOf_signs o
  have ll := pa.ll
  have big : ∀ {n : Nat}, n < 1000 → ((n : Nat) : Int).natAbs.log2 < 1920 := fun h => log_small h
  obtain ⟨r0, er0⟩ : ∃ r0, r0 = ("long " : PySem.Str) ++ numS d.long := ⟨_, rfl⟩
  obtain ⟨r1, er1⟩ : ∃ r1, r1 = ("seekers " : PySem.Str) ++ numS d.sk := ⟨_, rfl⟩
  have m0 : r0 ∈ rowsOf d := by rw [er0]; unfold rowsOf; exact List.mem_append_left _ (List.mem_append_left _ List.mem_cons_self)
  have m1 : r1 ∈ rowsOf d := by rw [er1]; unfold rowsOf; exact List.mem_append_left _ (List.mem_append_left _ (List.mem_cons_of_mem _ List.mem_cons_self))
  wtm_at "st"
  refine s_gtup S (a := t) (by wtm_at "pk") rfl ?_
  wtm_at "st"
  refine s_strI (big (by omega)) ?_
  refine s_addS (by have := (sg r0 m0).2.1; rw [er0, app_len] at this; exact Nat.le_trans this (by decide)) ?_
  wtm_at "st"
  refine s_strI (big (by omega)) ?_
  refine s_addS (by have := (sg r1 m1).2.1; rw [er1, app_len] at this; exact Nat.le_trans this (by decide)) ?_
  wtm_at "st"
  refine s_newL (by wtm_at "sz") S fun rp H S => ?_
  have S : Sep (pt rp (.lst ([r0, r1].map V.str)) :: partC t a b d ls xs gs F) H := by rw [er0, er1]; exact S
  wtm_at "st"
  refine s_sortedS S (a := a) (by wtm_at "pk") (by omega) fun zs lp H pm so S => ?_
  have ez : zs = d.lines := sortS_eq (pm.trans pa.p1.symm) so pa.s1
  subst ez
  wtm_at "st"
  refine ⟨lp, rfl, ⟨_, SqL.of (S.get (by wtm_at "pk"))⟩, ?_⟩
  refine s_lcL (xs := d.lines.map V.str) S (fun D i H' => Sep (pt D (.lst (((d.lines.take i).map fun l => ("line " : PySem.Str) ++ l).map V.str)) :: pt lp (.lst (d.lines.map V.str)) :: pt rp (.lst ([r0, r1].map V.str)) :: partC t a b d ls xs gs F) H') (fun D H' S => S) (fun D i H' _ S => SqL.of (S.get (by wtm_at "pk"))) ?_ ?_
  · clear S
    intro D i x H hx S
    rw [List.getElem?_map] at hx
    obtain ⟨l, hl, rfl⟩ := Option.map_eq_some_iff.mp hx
    have lf := o.lf l (List.mem_of_getElem? hl)
    dsimp only [List.map, wipe, List.set]
    wtm_at "st"
    refine ⟨rfl, ?_⟩
    wtm_at "st"
    refine s_addS (by rw [lf.1]; exact Nat.le_trans (show 5 + d.long ≤ 100 by omega) (by decide)) ?_
    refine s_lcput S (by wtm_at "cg") (by rw [List.length_map, List.length_map, List.length_take]; exact Nat.lt_of_le_of_lt (Nat.le_trans (Nat.min_le_right _ _) o.l60) (by decide)) fun H S => ?_
    rw [List.take_succ, hl, List.map_append, List.map_append]
    exact S
  clear S
  intro D H S
  rw [List.length_map, List.take_length] at S
  wtm_at "st"
  refine s_addL S (a := rp) (b := D) (by wtm_at "pk") (by wtm_at "pk") (by rw [List.length_map, List.length_map, List.length_map]; exact Nat.le_trans (show 2 + d.lines.length ≤ 100 by have := o.l60; omega) (by decide)) fun rp2 H S => ?_
  rw [← List.map_append] at S
  obtain ⟨rs, ers⟩ : ∃ rs, rs = [r0, r1] ++ d.lines.map fun l => ("line " : PySem.Str) ++ l := ⟨_, rfl⟩
  have rsl : rs.length ≤ 62 := by rw [ers, List.length_append, List.length_map]; show 2 + _ ≤ 62; have := o.l60; omega
  rw [← ers] at S
  have S : Sep (pt rp2 (.lst (rs.map V.str)) :: partC t a b d ls xs gs F) H := by wtm_at "wk"
  wtm_at "st"
  refine s_sortedG S (a := b) (xs := xs) (gs := gs) (by wtm_at "pk") (by wtm_at "pk") fun ys gs2 gp H q3 q4 S => ?_
  have eg : gs2 = d.gs := sortedG_eq (q3.trans pa.p2.symm) q4 pa.s2
  subst eg
  have yl := S.imsLen (xs := ys) (by wtm_at "pk")
  rw [List.length_map] at yl
  wtm_at "st"
  refine ⟨gp, rfl, ⟨_, SqL.of (S.get (by wtm_at "pk"))⟩, ?_⟩
  refine s_lcL (xs := ys) S (fun D i H' => Sep (pt D (.lst (((d.gs.take i).map fun g => ("group " : PySem.Str) ++ g.1 ++ " " ++ toString g.2).map V.str)) :: pt gp (.lst ys) :: ims ys (d.gs.map gD) :: pt rp2 (.lst (rs.map V.str)) :: partC t a b d ls xs gs F) H') (fun D H' S => S) (fun D i H' _ S => SqL.of (S.get (by wtm_at "pk"))) ?_ ?_
  · clear S
    intro D i x H hx S
    obtain ⟨d', hd, hI⟩ := (S.imsGet (v := ys) (by wtm_at "pk")).at_ hx
    rw [List.getElem?_map] at hd
    obtain ⟨g, hg, rfl⟩ := Option.map_eq_some_iff.mp hd
    obtain ⟨t2, rfl, htt⟩ := hI.tup2
    have gm := List.mem_of_getElem? hg
    have gf := o.gf g gm
    have zg := (sg (("group " : PySem.Str) ++ g.1 ++ " " ++ toString g.2) (by unfold rowsOf; exact List.mem_append_right _ (List.mem_map.mpr ⟨g, gm, rfl⟩))).2.1
    rw [app_len, app_len, app_len] at zg
    dsimp only [List.map, wipe, List.set]
    refine s_gtupH2 htt rfl ?_
    wtm_at "st"
    refine ⟨rfl, ?_⟩
    wtm_at "st"
    refine s_addS (Nat.le_trans (show _ ≤ 20 by omega) (by decide)) ?_
    wtm_at "st"
    refine s_addS (Nat.le_trans (show _ ≤ 20 by rw [app_len]; omega) (by decide)) ?_
    wtm_at "st"
    refine s_strI (by rw [← Int.toNat_of_nonneg gf.2.2.2.1]; exact big (by have := gf.2.2.2.2; omega)) ?_
    refine s_addS (Nat.le_trans (show _ ≤ 20 by rw [app_len, app_len]; omega) (by decide)) ?_
    refine s_lcput S (by wtm_at "cg") (by rw [List.length_map, List.length_map, List.length_take]; exact Nat.lt_of_le_of_lt (Nat.le_trans (Nat.min_le_right _ _) o.gn) (by decide)) fun H S => ?_
    rw [List.take_succ, hg, List.map_append, List.map_append]
    exact S
  clear S
  intro D2 H S
  rw [yl, List.take_length] at S
  wtm_at "st"
  refine s_addL S (a := rp2) (b := D2) (by wtm_at "pk") (by wtm_at "pk") (by rw [List.length_map, List.length_map, List.length_map]; exact Nat.le_trans (show rs.length + d.gs.length ≤ 200 by have := o.gn; omega) (by decide)) fun rp3 H S => ?_
  rw [← List.map_append] at S
  have er : rs ++ (d.gs.map fun g => ("group " : PySem.Str) ++ g.1 ++ " " ++ toString g.2) = rowsOf d := by rw [ers, er0, er1]; rfl
  rw [er] at S
  exact q rp3 H (by wtm_at "wk")
theorem ok_Ldealt (T : Txt K mg ad) (F : Fun K "_law_dealt" "_law_dealt" s_Ldealt f fd) : FnOk P w K mg base (L2.CX P w) 1 f fd ["rows", "draws"] spDealt := by
  refine F.okX sc_Ldealt (fun vs H Q E h => len_dealt h) (fun cdv A outer s H vs Q E hr h => ?_)
  have tk : Takes (cxOf (L2.CX P w) P w K mg base N_Ldealt "_law_dealt" (defScope s_Ldealt) f cdv A outer s H E) (fun cls d _ H => E cls d H) := takes_of rfl rfl rfl rfl
  have po_ : PassesOwn (model P w) (cxOf (L2.CX P w) P w K mg base N_Ldealt "_law_dealt" (defScope s_Ldealt) f cdv A outer s H E).A (cxOf (L2.CX P w) P w K mg base N_Ldealt "_law_dealt" (defScope s_Ldealt) f cdv A outer s H E).env (cxOf (L2.CX P w) P w K mg base N_Ldealt "_law_dealt" (defScope s_Ldealt) f cdv A outer s H E).xe := passes_of rfl
  refine ⟨_, (pss_cons (ps_set (i := 2) sc_Ldealt.nd rfl (Or.inl rfl) (pe_lst pa_nil))
  (pss_cons (ps_for (po_) rfl (pi_range1 (by rfl) T.b_range (pa_cons (pe_callB (k_len (K := K) rfl) (by rfl) T.b_len (by decide +kernel) (pa_cons (pv 0) pa_nil)) pa_nil)) (pg_name (i := 3) sc_Ldealt.nd rfl (Or.inl rfl)) (pss_one (ps_expr (k_bm (K := K) rfl PySem.F.plainAttrs_list PySem.F.slot_list_insert PySem.F.type_list_insert mt_insert (pv 2) (pa_cons (pe_op zo_mod (pe_op zo_div (pe_ix (k_ix (K := K) rfl) (pv 1) (pe_op zo_mod (pv 3) (pe_callB (k_len (K := K) rfl) (by rfl) T.b_len (by decide +kernel) (pa_cons (pv 1) pa_nil))) (fun _ _ => rfl)) (pe_op zo_add pe_int (pe_op zo_mod (pv 3) pe_int))) (pe_op zo_add (pv 3) pe_int)) (pa_cons (pe_ix (k_ix (K := K) rfl) (pv 0) (pv 3) (fun _ _ => rfl)) pa_nil))))))
  (pss_one (ps_ret (pv 2))))), ?_⟩
  have fPlan := T.fPlan
  obtain ⟨a, b, rows, ds, F, rfl, r1, d1, d2, S, q⟩ := h
  refine s_start (σ := [some (.ref a), some (.ref b), none, none]) rfl ?_
  wtm_at "st"
  refine s_newL (by wtm_at "sz") S fun fp H S => ?_
  have S : Sep (pt fp (.lst (([] : List PySem.Str).map V.str)) :: _) H := S
  wtm_at "st"
  rw [List.length_map]
  refine s_rng1 (by omega) (by omega) ?_
  rw [Int.toNat_natCast]
  refine lp_range (fun i σ H => ∃ (found : List PySem.Str) (v3 : Option V), found.Perm (rows.take i) ∧ σ = [some (.ref a), some (.ref b), some (.ref fp), v3] ∧ Sep (pt fp (.lst (found.map V.str)) :: pt a (.lst (rows.map V.str)) :: pt b (.lst (ds.map V.int)) :: F) H) ⟨[], none, by simp, rfl, S⟩ ?_ ?_
  · clear S
    rintro i σ H hi ⟨found, v3, pe, rfl, S⟩
    have fl := pe.length_eq
    rw [List.length_take] at fl
    wtm_at "st"
    rw [List.length_map]
    wtm_at "stc"
    obtain ⟨z, hz, ez, _⟩ := atI_int (ns := ds) (i := (i : Int) % (ds.length : Nat)) (Int.emod_nonneg _ (by omega)) (Int.emod_lt_of_pos _ (by omega))
    refine s_ixL S (a := b) (by wtm_at "pk") ez ?_
    have i7 := emod_in (i : Int) (p := 7) (by decide)
    wtm_at "st"
    refine s_div (cdiv_small (by omega) (by omega)) ?_
    obtain ⟨u, eu⟩ : ∃ u, u = z / (1 + (i : Int) % 7) := ⟨_, rfl⟩
    rw [← eu]
    have u0 := Int.emod_nonneg u (show ((i : Int) + 1) ≠ 0 by omega)
    have u1 := Int.emod_lt_of_pos u (show 0 < (i : Int) + 1 by omega)
    wtm_at "st"
    obtain ⟨k, ek⟩ : ∃ k : Nat, u % ((i : Int) + 1) = (k : Nat) := ⟨(u % ((i : Int) + 1)).toNat, by omega⟩
    rw [ek] at u0 u1 ⊢
    refine s_ixL S (a := a) (v := .str rows[i]) (by wtm_at "pk") (atI_of (by omega) (by rw [Int.toNat_natCast, List.getElem?_map, List.getElem?_eq_getElem hi]; rfl)) ?_
    wtm_at "st"
    have S2 := S.set (H := H) (show Chg (pt fp (.lst (found.map V.str))) (pt fp (.lst ((found.map V.str).take k ++ [.str rows[i]] ++ (found.map V.str).drop k))) _ _ by wtm_at "cg") rfl
    refine ⟨fp, found.map V.str, (k : Nat), .str rows[i], rfl, rfl, S.get (by wtm_at "pk"), (by rw [List.length_map]; exact Nat.lt_of_le_of_lt (show found.length ≤ 1000 by omega) (by decide)), by omega, by omega, ?_⟩
    rw [Int.toNat_natCast]
    clear S
    have S := S2
    clear S2
    generalize upd H fp _ = H at S ⊢
    rw [show (found.map V.str).take k ++ [V.str rows[i]] ++ (found.map V.str).drop k = (found.take k ++ [rows[i]] ++ found.drop k).map V.str by rw [List.map_append, List.map_append, List.map_take, List.map_drop]; rfl] at S
    wtm_at "st"
    refine ⟨found.take k ++ [rows[i]] ++ found.drop k, _, ?_, rfl, by wtm_at "wk"⟩
    rw [show rows.take (i + 1) = rows.take i ++ [rows[i]] by rw [List.take_succ, List.getElem?_eq_getElem hi]; rfl]
    exact (ins_perm found k rows[i]).trans (List.Perm.append_right _ pe)
  clear S
  rintro σ H ⟨found, v3, pe, rfl, S⟩
  rw [List.take_length] at pe
  wtm_at "st"
  exact q fp found H pe S
theorem ok_Lparts (T : Txt K mg ad) (F : Fun K "_law_parts" "_law_parts" s_Lparts f fd) : FnOk P w K mg base (L2.CX P w) 1 f fd ["plan"] (spParts ad) := by
  refine F.okX sc_Lparts (fun vs H Q E h => len_parts h) (fun cdv A outer s H vs Q E hr h => ?_)
  have tk : Takes (cxOf (L2.CX P w) P w K mg base N_Lparts "_law_parts" (defScope s_Lparts) f cdv A outer s H E) (fun cls d _ H => E cls d H) := takes_of rfl rfl rfl rfl
  have po_ : PassesOwn (model P w) (cxOf (L2.CX P w) P w K mg base N_Lparts "_law_parts" (defScope s_Lparts) f cdv A outer s H E).A (cxOf (L2.CX P w) P w K mg base N_Lparts "_law_parts" (defScope s_Lparts) f cdv A outer s H E).env (cxOf (L2.CX P w) P w K mg base N_Lparts "_law_parts" (defScope s_Lparts) f cdv A outer s H E).xe := passes_of rfl
  refine ⟨_, (pss_one (ps_ret (pe_tup (pa_cons (k_fld (K := K) rfl (pv 0) rfl) (pa_cons (k_fld (K := K) rfl (pv 0) rfl) (pa_cons (k_fld (K := K) rfl (pv 0) rfl) (pa_cons (k_fld (K := K) rfl (pv 0) rfl) pa_nil))))))), ?_⟩
  have fPlan := T.fPlan
  obtain ⟨B, F, rfl, S, q⟩ := h
  refine s_start (σ := [some (.ref B.p)]) rfl ?_
  wtm_at "st"
  refine s_newT (by wtm_at "sz") S fun t H S => ?_
  exact q t H S
end
end L2.Zs
namespace L2.Zs
open PySem PySem.Spec PyProof.Rows
set_option hygiene false
local macro_rules | `(tactic| wtm_at "pk") => `(tactic| (repeat (first | with_reducible exact Pick.here | with_reducible apply Pick.there)))
local macro_rules | `(tactic| wtm_at "cg") => `(tactic| (repeat (first | with_reducible exact Chg.here | with_reducible apply Chg.there)))
local macro_rules | `(tactic| wtm_at "sa") => `(tactic| (repeat (first | with_reducible exact SetAt.here | with_reducible apply SetAt.there)))
local macro_rules | `(tactic| wtm_at "wk1") => `(tactic| (repeat (first | with_reducible exact Wk.refl | (with_reducible apply Wk.pick; focus (wtm_at "pk"; done)) | with_reducible apply Wk.drop)))
local macro_rules | `(tactic| wtm_at "wk") => `(tactic| (refine Wk.sep ?_ (by assumption); wtm_at "wk1"))
local macro_rules | `(tactic| wtm_at "sz") => `(tactic| first | exact Nat.le_of_ble_eq_true rfl | assumption | omega)
local macro_rules | `(tactic| wtm_at "s1") => `(tactic| first
  | refine Stp.go ?_
  | ((with_reducible show rMod _ _ _ _); (with_reducible refine s_mod (by first | decide | assumption | omega) ?_))
  | ((with_reducible show rMulZ _ _ _ _); (with_reducible refine s_mulI (by first | exact cmul_l (by decide) | exact cmul_r (by decide) | (exact cmul_l (by omega)) | (exact cmul_r (by omega))) ?_))
  | ((with_reducible show rDiv _ _ _ _); (with_reducible refine s_div (cdiv_of (by decide) (by decide)) ?_))
  | ((with_reducible show rPow _ _ _ _); (with_reducible refine s_pow (cpow_of (by decide) (by decide) (by decide)) ?_))
  | ((with_reducible show rLen _ _ _ _); (with_reducible refine s_lenL (by assumption) (by wtm_at "pk") ?_))
  | ((with_reducible show rLen _ _ _ _); (with_reducible refine s_lenQ (by assumption) (by wtm_at "pk") ?_))
  | ((with_reducible show rLen _ _ _ _); (with_reducible refine s_lenT (by assumption) (by wtm_at "pk") ?_))
  | ((with_reducible show tyV _ _ _ _ ∧ _); (with_reducible refine s_tyL (by assumption) (by wtm_at "pk") ?_))
  | ((with_reducible show FldGet _ _ _ _ _); (with_reducible refine s_fldA (by assumption) (by wtm_at "pk") (by assumption) (by decide +kernel) (by infer_instance) ?_))
  | ((with_reducible show MtGo _ _ _ _ _); (with_reducible refine s_mtA (by assumption) (by wtm_at "pk") (by first | assumption | exact List.mem_cons_self | exact List.mem_cons_of_mem _ List.mem_cons_self) (by infer_instance) (by decide +kernel) ?_))
  | ((with_reducible show DG _ _ _ _); (with_reducible refine s_dgetA (by assumption) (by wtm_at "pk") (by infer_instance) ?_))
  | ((with_reducible show DG _ _ _ _); (with_reducible refine s_dgetM (by assumption) (by wtm_at "pk") (by assumption) ?_))
  | ((with_reducible show rIx _ _ _ _ _); (with_reducible refine s_ixTA (by assumption) (by wtm_at "pk") (by infer_instance) ?_))
  | ((with_reducible show rIx _ _ _ _ _); (with_reducible refine s_ixLA (by assumption) (by wtm_at "pk") (by infer_instance) ?_))
  | ((with_reducible show FldSet _ _ _ _ _ _); (with_reducible refine s_sfldA (by assumption) (by wtm_at "pk") (by assumption) (by decide +kernel) (by infer_instance) (by wtm_at "cg") (fun H S => ?_)))
  | ((with_reducible show FAug _ _ _ _ _ _); (with_reducible refine s_faugA (by assumption) (by wtm_at "pk") (by assumption) (by decide +kernel) (by infer_instance) (by infer_instance) (by wtm_at "cg") (fun H S => ?_)))
  | ((with_reducible show DP _ _ _ _ _); (with_reducible refine s_dputA (by assumption) (by wtm_at "pk") (by infer_instance) (by wtm_at "cg") (fun H S => ?_)))
  | ((with_reducible show DP _ _ _ _ _); (with_reducible refine s_dputM (by assumption) (by wtm_at "cg") (by assumption) (by first | assumption | omega) (fun H S => ?_)))
  | ((with_reducible show DI _ _ _ _ _); (with_reducible refine s_dinM (by assumption) (by wtm_at "pk") ?_))
  | ((with_reducible show DI _ _ _ _ _); (with_reducible refine s_dniM (by assumption) (by wtm_at "pk") ?_)))
local macro_rules | `(tactic| wtm_at "st") => `(tactic| (repeat (first | wtm_at "s1" | with_reducible refine s_seq ?_)))
local macro_rules | `(tactic| wtm_at "stc") => `(tactic| (repeat wtm_at "s1"))
set_option hygiene true

section
variable {P : Program} {w : World} {K : PySem.W.Frag} {mg : PySem.Str → Option Value} {base : Heap} {ad : Ad} {Cs : List Addr} {C : Addr} {f : Addr} {fd : FuncData}
set_option maxHeartbeats 4000000
theorem ok_law (T : Txt K mg ad) (c_Lplan : Cal P w K mg base 3 "_law_plan" (spLPlan K)) (c_Ldraws : Cal P w K mg base 2 "_law_draws" (spDraws K)) (c_Lplan_rows : Cal P w K mg base 1 "_law_plan_rows" spPlanRows) (k_Plan : Mak P w K mg base 3 "Plan" ad.Plan (spPlan ad ad.Plan)) (c_plan_text : Cal P w K mg base 1 "plan_text" (spPlanText ad)) (c_read_plan : Cal P w K mg base 5 "read_plan" (spRead ad)) (c_Ldealt : Cal P w K mg base 1 "_law_dealt" spDealt) (c_Lparts : Cal P w K mg base 1 "_law_parts" (spParts ad)) (F : Fun K "law" "law" s_law f fd) : FnOk P w K mg base (L2.CX P w) 6 f fd ["script"] (spLawK K) := by
  refine F.okX sc_law (fun vs H Q E h => len_law h) (fun cdv A outer s H vs Q E hr h => ?_)
  have tk : Takes (cxOf (L2.CX P w) P w K mg base N_law "law" (defScope s_law) f cdv A outer s H E) (fun cls d _ H => E cls d H) := takes_of rfl rfl rfl rfl
  have po_ : PassesOwn (model P w) (cxOf (L2.CX P w) P w K mg base N_law "law" (defScope s_law) f cdv A outer s H E).A (cxOf (L2.CX P w) P w K mg base N_law "law" (defScope s_law) f cdv A outer s H E).env (cxOf (L2.CX P w) P w K mg base N_law "law" (defScope s_law) f cdv A outer s H E).xe := passes_of rfl
  refine ⟨_, (pss_cons (ps_set (i := 1) sc_law.nd rfl (Or.inl rfl) (pe_lst pa_nil))
  (pss_cons (ps_set (i := 2) sc_law.nd rfl (Or.inr rfl) (pe_lst pa_nil))
  (pss_cons (ps_for (po_) rfl (pi_range1 (by rfl) T.b_range (pa_cons pe_int pa_nil)) (pg_name (i := 3) sc_law.nd rfl (Or.inl rfl)) (pss_cons (ps_set (i := 4) sc_law.nd rfl (Or.inl rfl) (z_call c_Lplan tk hr (by decide) (by rfl) (pa_cons (pv 0) (pa_cons (pe_op zo_mul pe_int (pv 3)) pa_nil))))
  (pss_cons (ps_asg (pv 4) (k_gtup (K := K) (n := 4) rfl rfl (pgs_cons (pg_name (i := 5) sc_law.nd rfl (Or.inl rfl)) (pgs_cons (pg_name (i := 6) sc_law.nd rfl (Or.inl rfl)) (pgs_cons (pg_name (i := 7) sc_law.nd rfl (Or.inl rfl)) (pgs_cons (pg_name (i := 8) sc_law.nd rfl (Or.inl rfl)) pgs_nil))))))
  (pss_cons (ps_set (i := 9) sc_law.nd rfl (Or.inl rfl) (z_call c_Lplan_rows tk hr (by decide) (by rfl) (pa_cons (pv 4) pa_nil)))
  (pss_cons (ps_set (i := 10) sc_law.nd rfl (Or.inl rfl) (z_call c_plan_text tk hr (by decide) (by rfl) (pa_cons (z_make k_Plan tk hr (by decide) (by rfl) (pa_cons (pv 5) (pa_cons (pe_callTy (k_listOf (K := K) rfl) (by rfl) T.b_list (by decide +kernel) (pa_cons (pv 6) pa_nil)) (pa_cons (pv 7) (pa_cons (pe_callTy (k_listOf (K := K) rfl) (by rfl) T.b_list (by decide +kernel) (pa_cons (pv 8) pa_nil)) pa_nil))))) pa_nil)))
  (pss_cons (ps_if ((pw_or (pt_not (pt_val (pe_callB (k_isi (K := K) rfl) (by rfl) T.b_isinstance (by decide +kernel) (pa_cons (pv 10) (pa_cons (z_ty (T := "str") (by rfl) T.b_str (by decide +kernel)) pa_nil))))) (pw_or1 (pt_cmpR (k_ne (K := K) rfl hr.units) (pv 10) (k_joinN (K := K) rfl pe_str (pv 9)) (nomark _))))).pt (pss_one (ps_ret pe_bl)) pss_nil)
  (pss_cons (ps_expr (k_bm (K := K) rfl PySem.F.plainAttrs_list PySem.F.slot_list_append PySem.F.type_list_append z_append (pv 2) (pa_cons (z_call c_read_plan tk hr (by decide) (by rfl) (pa_cons (pv 10) pa_nil)) pa_nil)))
  (pss_cons (ps_expr (k_bm (K := K) rfl PySem.F.plainAttrs_list PySem.F.slot_list_append PySem.F.type_list_append z_append (pv 2) (pa_cons (z_call c_read_plan tk hr (by decide) (by rfl) (pa_cons (k_joinN (K := K) rfl pe_str (z_call c_Ldealt tk hr (by decide) (by rfl) (pa_cons (pv 9) (pa_cons (z_call c_Ldraws tk hr (by decide) (by rfl) (pa_cons (pv 0) (pa_cons (pe_op zo_add (pe_op zo_mul pe_int (pv 3)) pe_int) (pa_cons pe_int (pa_cons pe_int pa_nil))))) pa_nil)))) pa_nil)) pa_nil)))
  (pss_one (ps_set (i := 1) sc_law.nd rfl (Or.inl rfl) (pe_op zo_add (pv 1) (pe_op zo_mul (pe_lst (pa_cons (pe_tup (pa_cons (pv 5) (pa_cons (k_tupleOf (K := K) rfl (by rfl) T.b_tuple (pe_callB (k_sortedS (K := K) rfl) (by rfl) T.b_sorted (by decide +kernel) (pa_cons (pv 6) pa_nil))) (pa_cons (pv 7) (pa_cons (k_tupleOf (K := K) rfl (by rfl) T.b_tuple (pe_callB cr_sortedG (by rfl) T.b_sorted (by decide +kernel) (pa_cons (pv 8) pa_nil))) pa_nil))))) pa_nil)) pe_int))))))))))))
  (pss_cons (ps_if (pt_cmpR (k_ne (K := K) rfl hr.units) (pe_lc (own := [("plan", 11)]) (g := gName 11) (tt := tYes) rfl sc_law.nd (k_list (K := K) rfl (pv 2)) (blkOk_by (N := N_law) (sc := defScope s_law) (by decide +kernel)) (fun _ _ _ _ _ => (pg_name (i := 11) sc_law.nd rfl (Or.inl rfl))) (fun _ _ _ _ _ => pts_nil) (fun _ _ _ _ _ => (z_call c_Lparts takes0 hr (by decide) (by rfl) (pa_cons (pv 11) pa_nil)))) (pv 1) (nomark _)) (pss_one (ps_ret pe_bl)) pss_nil)
  (pss_one (ps_ret (pe_cmpR (k_eq (K := K) rfl hr.units) (pe_lc (own := [("plan", 11)]) (g := gName 11) (tt := tYes) rfl sc_law.nd (k_list (K := K) rfl (pv 2)) (blkOk_by (N := N_law) (sc := defScope s_law) (by decide +kernel)) (fun _ _ _ _ _ => (pg_name (i := 11) sc_law.nd rfl (Or.inl rfl))) (fun _ _ _ _ _ => pts_nil) (fun _ _ _ _ _ => (z_call c_plan_text takes0 hr (by decide) (by rfl) (pa_cons (pv 11) pa_nil)))) (pe_lc (own := [("k", 3)]) (g := gName 3) (tt := tYes) rfl sc_law.nd (pi_range1 (by rfl) T.b_range (pa_cons pe_int pa_nil)) (blkOk_by (N := N_law) (sc := defScope s_law) (by decide +kernel)) (fun _ _ _ _ _ => (pg_name (i := 3) sc_law.nd rfl (Or.inl rfl))) (fun _ _ _ _ _ => pts_nil) (fun _ _ _ _ _ => (z_call c_plan_text takes0 hr (by decide) (by rfl) (pa_cons (pe_ix (k_ix (K := K) rfl) (pv 2) (pe_op zo_mul (pe_op zo_div (pv 3) pe_int) pe_int) (fun _ _ => rfl)) pa_nil)))) (nomark _)))))))), ?_⟩
  have fPlan := T.fPlan
  obtain ⟨s, ns, rfl, hs, hn, q⟩ := h
  have S := sep_law hs
  refine s_start (σ := [some (.ref s), none, none, none, none, none, none, none, none, none, none, none]) rfl ?_
  wtm_at "st"
  refine s_newL (by wtm_at "sz") S fun du H S => ?_
  wtm_at "st"
  refine s_newL (by wtm_at "sz") S fun pl H S => ?_
  wtm_at "st"
  refine s_rng1 (by decide) (by decide) ?_
  refine lp_range (fun i σ H => ∃ (du : Addr) (Bs : List PL) (ys : List V) (ds : List Pd) (v3 v4 v5 v6 v7 v8 v9 v10 : Option V), σ = [some (.ref s), some (.ref du), some (.ref pl), v3, v4, v5, v6, v7, v8, v9, v10, none] ∧
      ds.length = i ∧ (∀ d ∈ ds, PdOk d) ∧ Bs.map (·.d) = ds.flatMap (fun d => [d, d]) ∧
      Sep (pt du (.lst ys) :: ims ys (Bs.reverse.map fun B : PL => plD B.d) :: pt pl (.lst (Bs.reverse.map fun B : PL => V.ref B.p)) :: plsA ad Bs :: [sq K s (ns.map V.int)]) H)
    ⟨du, [], [], [], none, none, none, none, none, none, none, none, rfl, rfl, (fun _ h => nomatch h), rfl, by
      have S := Sep.cons (fun _ h => h.ims0) (S.fr1 (pt du (.lst [])))
      have S := Sep.cons (fun _ h => Sep.cons (fun _ h => Sep.cons (fun _ h => h.pls0 (ad := ad)) h) h) S
      show Sep (pt du (.lst []) :: ims [] [] :: pt pl (.lst []) :: plsA ad [] :: [sq K s (ns.map V.int)]) _
      wtm_at "wk"⟩ ?_ ?_
  · clear S
    rintro i σ H hi ⟨du, Bs, ys, ds, v3, v4, v5, v6, v7, v8, v9, v10, rfl, dl, dok, bd, S⟩
    have hi : i < 2 := hi
    have bl : Bs.length = 2 * i := by
      have := congrArg List.length bd
      rw [List.length_map] at this
      rw [this, ← dl]
      clear this bd dl dok S
      induction ds with
      | nil => rfl
      | cons d ds ih => simp only [List.flatMap_cons, List.length_append, ih, List.length_cons, List.length_nil]; omega
    have yl := S.imsLen (xs := ys) (by wtm_at "pk")
    rw [List.length_map, List.length_reverse] at yl
    obtain ⟨Y, eY⟩ : ∃ Y, Y = Bs.reverse.map fun B : PL => plD B.d := ⟨_, rfl⟩
    obtain ⟨Z, eZ⟩ : ∃ Z, Z = Bs.reverse.map fun B : PL => V.ref B.p := ⟨_, rfl⟩
    have zl : Z.length = 2 * i := by rw [eZ, List.length_map, List.length_reverse, bl]
    rw [← eY, ← eZ] at S
    wtm_at "st"
    refine ⟨s, ns, 3 * (i : Int), pt du (.lst ys) :: ims ys Y :: pt pl (.lst Z) :: plsA ad Bs :: [], rfl, by omega, by omega, (by wtm_at "wk"), fun t a b long sk ls xs gs H pb S => ?_⟩
    obtain ⟨d, dl2, ds2, pa⟩ := PaOk.of pb
    subst dl2 ds2
    have o := pa.ok
    have sg := rowsOf_signs o
    have rl := rowsOf_len o
    have ll := pa.ll
    have gl := pa.gl
    wtm_at "st"
    refine s_gtup S (a := t) (by wtm_at "pk") rfl ?_
    wtm_at "st"
    have S : Sep (partC t a b d ls xs gs (pt du (.lst ys) :: ims ys Y :: pt pl (.lst Z) :: plsA ad Bs :: [sq K s (ns.map V.int)])) H := by wtm_at "wk"
    refine ⟨t, a, b, d, ls, xs, gs, _, rfl, pa, S, fun rp H S => ?_⟩
    wtm_at "st"
    refine s_listL S (a := a) (by wtm_at "pk") fun a2 H S => ?_
    wtm_at "st"
    refine s_listL S (a := b) (by wtm_at "pk") fun b2 H S => ?_
    wtm_at "st"
    have S := Sep.dupP pers_ims (S.fr1 (ims xs (gs.map gD)))
    refine s_mkR S fun p dx H S => ?_
    refine ⟨p, dx, a2, b2, d.long, d.sk, ls, xs, gs, pt rp (.lst ((rowsOf d).map V.str)) :: partC t a b d ls xs gs (pt du (.lst ys) :: ims ys Y :: pt pl (.lst Z) :: plsA ad Bs :: [sq K s (ns.map V.int)]), rfl, rfl, by omega, pa.lz, by omega, pa.gz, (by wtm_at "wk"), fun _ B0 H e0 e1 e2 p1 s1 p2 s2 dn S => ⟨rfl, ?_⟩, fun h => by rw [pa.pb] at h; cases h⟩
    have eB : B0.d = d := pa.eq e1 e2 p1 s1 p2 s2
    subst e0
    have S : Sep (planC ad B0 (pt rp (.lst ((rowsOf d).map V.str)) :: partC t a b d ls xs gs (pt du (.lst ys) :: ims ys Y :: pt pl (.lst Z) :: plsA ad Bs :: [sq K s (ns.map V.int)]))) H := by wtm_at "wk"
    wtm_at "st"
    refine ⟨B0, _, rfl, by rw [eB]; exact o, S, fun H S => ?_⟩
    rw [eB]
    have S : Sep (pt rp (.lst ((rowsOf d).map V.str)) :: partC t a b d ls xs gs (pt du (.lst ys) :: ims ys Y :: pt pl (.lst Z) :: plsA ad Bs :: [sq K s (ns.map V.int)])) H := by wtm_at "wk"
    clear eB
    have jl : ∀ rows : List PySem.Str, rows.Perm (rowsOf d) → (rows.map (·.length)).sum + rows.length * (PySem.Str.ofString "\n").length ≤ 16777216 := fun rows pe => by
      have := join_len (y := "\n") (n := 20) (ps := rows) fun z hz => (sg z (pe.mem_iff.mp hz)).2.1
      rw [show (PySem.Str.ofString "\n").length = 1 by decide +kernel]
      have := pe.length_eq
      omega
    wtm_at "st"
    refine s_join S (a := rp) (by wtm_at "pk") (jl _ (List.Perm.refl _)) ?_
    wtm_at "st"
    refine s_ifn (fun c => absurd rfl c) (fun _ => ?_)
    wtm_at "st"
    obtain ⟨x1, x2, r, hr, h1, h2, p3, p4⟩ := PlTx.of o (List.Perm.refl (rowsOf d))
    have pb1 := PlTx.pb pa h1 h2 p3 p4
    refine ⟨_, _, rfl, x1, x2, S, fun h => (by rw [hr] at h; cases h), fun r2 h hb => (by rw [hr] at h; cases h; rw [pb1] at hb; cases hb), fun r2 h _ B1 H f1 f2 f3 f4 f5 f6 f7 S => ?_⟩
    rw [hr] at h
    cases h
    have eB1 : B1.d = d := PlTx.same o pa.s1 pa.s2 h1 h2 p3 p4 f1 f2 f3 f4 f5 f6
    have S : Sep (planC ad B1 (plsA ad Bs :: pt rp (.lst ((rowsOf d).map V.str)) :: partC t a b d ls xs gs (pt du (.lst ys) :: ims ys Y :: pt pl (.lst Z) :: [sq K s (ns.map V.int)]))) H := by wtm_at "wk"
    have S := Sep.plsAdd S
    wtm_at "st"
    refine s_append S (a := pl) (by wtm_at "cg") (by rw [zl]; exact Nat.lt_of_le_of_lt (show 2 * i ≤ 4 by omega) (by decide)) fun H S => ?_
    wtm_at "st"
    refine ⟨s, ns, 3 * (i : Int) + 2, 60, 27720, plsA ad (B1 :: Bs) :: pt rp (.lst ((rowsOf d).map V.str)) :: partC t a b d ls xs gs (pt du (.lst ys) :: ims ys Y :: pt pl (.lst (Z ++ [.ref B1.p])) :: []), rfl, (by wtm_at "wk"), by omega, by omega, by decide, by decide, cdiv_of (by decide) (by decide), fun draws dp H dl3 dr S => ?_⟩
    have dl60 : draws.length = 60 := by omega
    wtm_at "st"
    refine ⟨rp, dp, rowsOf d, draws, _, rfl, by omega, by omega, by omega, (by wtm_at "wk"), fun fp found H pf S => ?_⟩
    wtm_at "st"
    refine s_join S (a := fp) (by wtm_at "pk") (jl _ pf) ?_
    wtm_at "st"
    obtain ⟨x1, x2, r, hr, h1, h2, p3, p4⟩ := PlTx.of o pf
    have pb1 := PlTx.pb pa h1 h2 p3 p4
    refine ⟨_, _, rfl, x1, x2, S, fun h => (by rw [hr] at h; cases h), fun r2 h hb => (by rw [hr] at h; cases h; rw [pb1] at hb; cases hb), fun r2 h _ B2 H f1 f2 f3 f4 f5 f6 f7 S => ?_⟩
    rw [hr] at h
    cases h
    have eB2 : B2.d = d := PlTx.same o pa.s1 pa.s2 h1 h2 p3 p4 f1 f2 f3 f4 f5 f6
    have S : Sep (planC ad B2 (plsA ad (B1 :: Bs) :: partC t a b d ls xs gs (pt du (.lst ys) :: ims ys Y :: pt pl (.lst (Z ++ [.ref B1.p])) :: [sq K s (ns.map V.int)]))) H := by wtm_at "wk"
    have S := Sep.plsAdd S
    wtm_at "st"
    refine s_append S (a := pl) (by wtm_at "cg") (by rw [List.length_append, zl]; exact Nat.lt_of_le_of_lt (show 2 * i + 1 ≤ 4 by omega) (by decide)) fun H S => ?_
    wtm_at "st"
    refine s_sortedS S (a := a) (by wtm_at "pk") (by omega) fun zs l7 H q1 q2 S => ?_
    wtm_at "st"
    refine s_tupL S (a := l7) (by wtm_at "pk") fun l8 H S => ?_
    wtm_at "st"
    refine s_sortedG S (a := b) (xs := xs) (gs := gs) (by wtm_at "pk") (by wtm_at "pk") fun ys2 gs2 l9 H q3 q4 S => ?_
    wtm_at "st"
    refine s_tupL S (a := l9) (by wtm_at "pk") fun l10 H S => ?_
    wtm_at "st"
    refine s_newT (by wtm_at "sz") S fun tr H S => ?_
    have ez : zs = d.lines := sortS_eq (q1.trans pa.p1.symm) q2 pa.s1
    have eg : gs2 = d.gs := sortedG_eq (q3.trans pa.p2.symm) q4 pa.s2
    subst ez eg
    have S : Sep (im (.ref tr) (plD d) :: plsA ad (B2 :: B1 :: Bs) :: pt du (.lst ys) :: ims ys Y :: pt pl (.lst (Z ++ [.ref B1.p] ++ [.ref B2.p])) :: [sq K s (ns.map V.int)]) H := by
      have S := Sep.imT (S.fr2 (pt l10 _) (ims ys2 _))
      have S := Sep.imsC (Sep.cons (fun _ h => h.ims0) S)
      have S := Sep.imsC (S.free (c := im (.int d.sk) (.int d.sk)) (.int _))
      have S := Sep.imT (Sep.cons (fun _ h => h.free (IsAll.ofStrs _)) (S.fr1 (pt l8 _)))
      have S := Sep.imsC (S.fr2 (im (.ref l8) _) (ims _ _))
      have S := Sep.imsC (S.free (c := im (.int d.long) (.int d.long)) (.int _))
      have S := Sep.imT (S.fr2 (pt tr _) (ims _ _))
      have S : Sep (im (.ref tr) (plD d) :: _) H := S
      wtm_at "wk"
    wtm_at "st"
    refine s_newL (by wtm_at "sz") S fun w1 H S => ?_
    wtm_at "st"
    refine s_mulL S (a := w1) (by wtm_at "pk") (by decide) (by decide) (by show 1 * 2 ≤ sizeLine; decide) fun w2 H S => ?_
    wtm_at "st"
    have S : Sep (pt w2 (.lst [.ref tr, .ref tr]) :: _) H := S
    refine s_addL S (a := du) (b := w2) (by wtm_at "pk") (by wtm_at "pk") (Nat.le_trans (show ys.length + 2 ≤ 10 by omega) (by decide)) fun du2 H S => ?_
    have S := Sep.dupP pers_im (S.fr1 (im (.ref tr) _))
    have S := Sep.imsP (S.fr2 (ims ys _) (im (.ref tr) _))
    have S := Sep.imsP (S.fr2 (ims _ _) (im (.ref tr) _))
    wtm_at "st"
    refine ⟨du2, B2 :: B1 :: Bs, ys ++ [.ref tr, .ref tr], d :: ds, _, _, _, _, _, _, _, _, rfl, by rw [List.length_cons, dl], ?_, ?_, ?_⟩
    · intro x hx
      rcases List.mem_cons.mp hx with hx | hx
      · rw [hx]; exact o
      · exact dok x hx
    · rw [List.map_cons, List.map_cons, bd, eB1, eB2]; rfl
    · have e1 : (B2 :: B1 :: Bs).reverse.map (fun B : PL => plD B.d) = Y ++ [plD d] ++ [plD d] := by
        rw [List.reverse_cons, List.reverse_cons, List.map_append, List.map_append, ← eY, List.map_cons, List.map_cons, eB1, eB2]; rfl
      have e2 : (B2 :: B1 :: Bs).reverse.map (fun B : PL => V.ref B.p) = Z ++ [.ref B1.p] ++ [.ref B2.p] := by
        rw [List.reverse_cons, List.reverse_cons, List.map_append, List.map_append, ← eZ]; rfl
      rw [e1, e2]
      have e3 : ys ++ [.ref tr] ++ [.ref tr] = ys ++ [V.ref tr, V.ref tr] := by rw [List.append_assoc]; rfl
      rw [e3] at S
      wtm_at "wk"
  clear S
  rintro σ H ⟨du, Bs, ys, ds, v3, v4, v5, v6, v7, v8, v9, v10, rfl, dl, dok, bd, S⟩
  have dl : ds.length = 2 := dl
  obtain ⟨e2, e1, rfl⟩ : ∃ a b, ds = [a, b] := two_of dl
  have bd : Bs.map (·.d) = [e2, e2, e1, e1] := bd
  obtain ⟨B3, B2, B1, B0, rfl⟩ : ∃ a b c d, Bs = [a, b, c, d] := four_of (by have := congrArg List.length bd; rwa [List.length_map] at this)
  have f3 : B3.d = e2 := by simpa using (List.cons.inj bd).1
  have f2 : B2.d = e2 := by simpa using (List.cons.inj (List.cons.inj bd).2).1
  have f1 : B1.d = e1 := by simpa using (List.cons.inj (List.cons.inj (List.cons.inj bd).2).2).1
  have f0 : B0.d = e1 := by simpa using (List.cons.inj (List.cons.inj (List.cons.inj (List.cons.inj bd).2).2).2).1
  have o1 : PdOk e1 := dok _ (List.mem_cons_of_mem _ List.mem_cons_self)
  have o2 : PdOk e2 := dok _ List.mem_cons_self
  obtain ⟨Bl, eBl⟩ : ∃ Bl, Bl = [B0, B1, B2, B3] := ⟨_, rfl⟩
  have S : Sep (pt du (.lst ys) :: ims ys (Bl.map fun B : PL => plD B.d) :: pt pl (.lst (Bl.map fun B : PL => V.ref B.p)) :: plsA ad [B3, B2, B1, B0] :: [sq K s (ns.map V.int)]) H := by rw [eBl]; exact S
  have blm : ∀ {B : PL}, B ∈ Bl → B ∈ [B3, B2, B1, B0] := fun {B} h => by
    rw [eBl] at h
    simp only [List.mem_cons, List.not_mem_nil, or_false] at h ⊢
    rcases h with h | h | h | h <;> simp [h]
  have bok : ∀ B ∈ Bl, PdOk B.d := fun B h => by
    rw [eBl] at h
    simp only [List.mem_cons, List.not_mem_nil, or_false] at h
    rcases h with rfl | rfl | rfl | rfl
    · rw [f0]; exact o1
    · rw [f1]; exact o1
    · rw [f2]; exact o2
    · rw [f3]; exact o2
  have bl4 : Bl.length = 4 := by rw [eBl]; rfl
  wtm_at "stc"
  with_reducible refine s_cut (fun σ H => σ = [some (.ref s), some (.ref du), some (.ref pl), v3, v4, v5, v6, v7, v8, v9, v10, none] ∧ Sep (pt pl (.lst (Bl.map fun B : PL => V.ref B.p)) :: plsA ad [B3, B2, B1, B0] :: [sq K s (ns.map V.int)]) H) ?_ (fun N go => ?_)
  rotate_left
  · wtm_at "st"
    refine ⟨pl, rfl, ⟨_, SqL.of (S.get (by wtm_at "pk"))⟩, ?_⟩
    refine s_lcL (xs := Bl.map fun B : PL => V.ref B.p) S (fun D i H' => ∃ ts : List Addr, ts.length = i ∧ Sep (pt D (.lst (ts.map V.ref)) :: tl ts ((Bl.take i).map partV) :: pt pl (.lst (Bl.map fun B : PL => V.ref B.p)) :: plsA ad [B3, B2, B1, B0] :: pt du (.lst ys) :: ims ys (Bl.map fun B : PL => plD B.d) :: [sq K s (ns.map V.int)]) H') (fun D H' S => ⟨[], rfl, (by
      have S := S.tl0
      have S : Sep (tl [] [] :: pt D (.lst []) :: _) H' := S
      show Sep (pt D (.lst []) :: tl [] [] :: _) H'
      wtm_at "wk")⟩) (fun D i H' _ ⟨_, _, S⟩ => SqL.of (S.get (by wtm_at "pk"))) ?_ ?_
    · clear S
      rintro D i x H hx ⟨ts, tsl, S⟩
      have hi : i < 4 := by rw [← bl4]; have := (List.getElem?_eq_some_iff.mp hx).1; rwa [List.length_map] at this
      rw [List.getElem?_map] at hx
      obtain ⟨B, hB, rfl⟩ := Option.map_eq_some_iff.mp hx
      obtain ⟨g, hg⟩ := plsA_at (ad := ad) (blm (List.mem_of_getElem? hB))
      have S := (hg _ _).mp (S.fr1 (plsA ad _))
      dsimp only [List.map, wipe, List.set]
      wtm_at "st"
      refine ⟨rfl, ?_⟩
      wtm_at "st"
      refine ⟨B, _, rfl, S, fun t H S => ?_⟩
      refine s_lcput S (D := D) (by wtm_at "cg") (by rw [List.length_map]; exact Nat.lt_of_le_of_lt (show ts.length ≤ 4 by omega) (by decide)) fun H S => ?_
      have S : Sep (pt t (.tup (partV B)) :: planC ad B (g :: pt D (.lst (ts.map V.ref ++ [.ref t])) :: tl ts ((Bl.take i).map partV) :: pt pl (.lst (Bl.map fun B : PL => V.ref B.p)) :: pt du (.lst ys) :: ims ys (Bl.map fun B : PL => plD B.d) :: [sq K s (ns.map V.int)])) H := S
      have S := S.fr2 (pt t _) (tl ts _)
      have S := S.tlAdd (n := 1)
      have S : Sep (planC ad B (g :: tl (ts ++ List.replicate 1 t) ((Bl.take i).map partV ++ List.replicate 1 (partV B)) :: pt D (.lst (ts.map V.ref ++ [.ref t])) :: pt pl (.lst (Bl.map fun B : PL => V.ref B.p)) :: pt du (.lst ys) :: ims ys (Bl.map fun B : PL => plD B.d) :: [sq K s (ns.map V.int)])) H := by wtm_at "wk"
      have S := (hg _ _).mpr S
      refine ⟨ts ++ [t], by rw [List.length_append, tsl]; rfl, ?_⟩
      rw [List.map_append, List.take_succ, hB, List.map_append]
      have S : Sep (plsA ad [B3, B2, B1, B0] :: tl (ts ++ [t]) ((Bl.take i).map partV ++ [partV B]) :: _) H := S
      show Sep (pt D (.lst (ts.map V.ref ++ [.ref t])) :: tl (ts ++ [t]) ((Bl.take i).map partV ++ [partV B]) :: _) H
      wtm_at "wk"
    clear S
    rintro D H ⟨ts, tsl, S⟩
    rw [List.length_map] at tsl
    rw [List.length_map, List.take_length] at S
    wtm_at "st"
    have sh : SeqAt.shaped (.list (Bl.map fun B : PL => plD B.d)) = true := by
      have := shaped_pls (ds := Bl.map (·.d)) (fun d hd => by obtain ⟨B, hB, rfl⟩ := List.mem_map.mp hd; exact bok B hB)
      rwa [List.map_map] at this
    have dT : DpAll K H (ts.map V.ref) (Bl.map fun B : PL => plD B.d) := by
      have tg := S.tlGet (as := ts) (by wtm_at "pk")
      have key : ∀ i (t : Addr) (B : PL), ts[i]? = some t → Bl[i]? = some B → Dp K H (.ref t) (plD B.d) := fun i t B h1 h2 => by
        have ht := tg.2 i t (partV B) h1 (by rw [List.getElem?_map, h2]; rfl)
        obtain ⟨g, hg⟩ := plsA_at (ad := ad) (blm (List.mem_of_getElem? h2))
        exact Dp.part (bok B (List.mem_of_getElem? h2)) ((hg _ _).mp (S.fr1 (plsA ad _))) ht
      rw [eBl] at key tsl ⊢
      obtain ⟨t0, t1, t2, t3, rfl⟩ := four_of (l := ts) tsl
      exact .cons (key 0 t0 B0 rfl rfl) (.cons (key 1 t1 B1 rfl rfl) (.cons (key 2 t2 B2 rfl rfl) (.cons (key 3 t3 B3 rfl rfl) .nil)))
    refine s_neD (.lst (SqL.of (S.get (a := D) (by wtm_at "pk"))) dT) (.lst (SqL.of (S.get (a := du) (by wtm_at "pk"))) (S.imsGet (v := ys) (by wtm_at "pk")).dp) sh sh ?_
    rw [eqv_same sh]
    wtm_at "st"
    exact go _ _ ⟨rfl, by wtm_at "wk"⟩
  clear S
  rintro σ H ⟨rfl, S⟩
  obtain ⟨tx, etx⟩ : ∃ tx : PL → PySem.Str, tx = fun B => Txt.join "\n" (rowsOf B.d) := ⟨_, rfl⟩
  wtm_at "st"
  refine ⟨pl, rfl, ⟨_, SqL.of (S.get (by wtm_at "pk"))⟩, ?_⟩
  refine s_lcL (xs := Bl.map fun B : PL => V.ref B.p) S (fun D i H' => Sep (pt D (.lst (((Bl.take i).map tx).map V.str)) :: pt pl (.lst (Bl.map fun B : PL => V.ref B.p)) :: plsA ad [B3, B2, B1, B0] :: [sq K s (ns.map V.int)]) H') (fun D H' S => S) (fun D i H' _ S => SqL.of (S.get (by wtm_at "pk"))) ?_ ?_
  · clear S
    intro D i x H hx S
    have hi : i < 4 := by rw [← bl4]; have := (List.getElem?_eq_some_iff.mp hx).1; rwa [List.length_map] at this
    rw [List.getElem?_map] at hx
    obtain ⟨B, hB, rfl⟩ := Option.map_eq_some_iff.mp hx
    obtain ⟨g, hg⟩ := plsA_at (ad := ad) (blm (List.mem_of_getElem? hB))
    have S := (hg _ _).mp (S.fr1 (plsA ad _))
    dsimp only [List.map, wipe, List.set]
    wtm_at "st"
    refine ⟨rfl, ?_⟩
    wtm_at "st"
    refine ⟨B, _, rfl, bok B (List.mem_of_getElem? hB), S, fun H S => ?_⟩
    have S := (hg _ _).mpr S
    refine s_lcput S (D := D) (by wtm_at "cg") (by rw [List.length_map, List.length_map, List.length_take]; exact Nat.lt_of_le_of_lt (Nat.le_trans (Nat.min_le_left _ _) (show i ≤ 4 by omega)) (by decide)) fun H S => ?_
    rw [List.take_succ, hB, List.map_append, List.map_append, etx]
    rw [etx] at S
    show Sep (pt D (.lst (_ ++ [V.str (Txt.join "\n" (rowsOf B.d))])) :: _) H
    wtm_at "wk"
  clear S
  intro D H S
  rw [List.length_map, List.take_length] at S
  wtm_at "st"
  refine ⟨4, rfl, by decide, by decide, ?_⟩
  refine s_lcR S (fun D2 i H' => Sep (pt D2 (.lst (((Bl.take i).map tx).map V.str)) :: pt D (.lst ((Bl.map tx).map V.str)) :: pt pl (.lst (Bl.map fun B : PL => V.ref B.p)) :: plsA ad [B3, B2, B1, B0] :: [sq K s (ns.map V.int)]) H') (fun D H' S => S) ?_ ?_
  · clear S
    intro D2 i H hi S
    have hi : i < 4 := hi
    obtain ⟨B, B', hB, hB', ebb⟩ : ∃ B B', Bl[i]? = some B ∧ atI (Bl.map fun B : PL => V.ref B.p) ((0 + (i : Int)) / 2 * 2) = some (.ref B'.p) ∧ B' ∈ Bl ∧ B'.d = B.d := by
      rw [eBl]
      have : i = 0 ∨ i = 1 ∨ i = 2 ∨ i = 3 := by omega
      rcases this with rfl | rfl | rfl | rfl
      · exact ⟨B0, B0, rfl, rfl, by simp, rfl⟩
      · exact ⟨B1, B0, rfl, rfl, by simp, f0.trans f1.symm⟩
      · exact ⟨B2, B2, rfl, rfl, by simp, rfl⟩
      · exact ⟨B3, B2, rfl, rfl, by simp, f2.trans f3.symm⟩
    obtain ⟨g, hg⟩ := plsA_at (ad := ad) (blm ebb.1)
    dsimp only [List.map, wipe, List.set]
    wtm_at "st"
    refine ⟨rfl, ?_⟩
    wtm_at "st"
    refine s_ixL S (a := pl) (by wtm_at "pk") hB' ?_
    have S := (hg _ _).mp (S.fr1 (plsA ad _))
    wtm_at "st"
    refine ⟨B', _, rfl, bok B' ebb.1, S, fun H S => ?_⟩
    have S := (hg _ _).mpr S
    rw [ebb.2]
    refine s_lcput S (D := D2) (by wtm_at "cg") (by rw [List.length_map, List.length_map, List.length_take]; exact Nat.lt_of_le_of_lt (Nat.le_trans (Nat.min_le_left _ _) (show i ≤ 4 by omega)) (by decide)) fun H S => ?_
    rw [List.take_succ, hB, List.map_append, List.map_append, etx]
    rw [etx] at S
    show Sep (pt D2 (.lst (_ ++ [V.str (Txt.join "\n" (rowsOf B.d))])) :: _) H
    wtm_at "wk"
  clear S
  intro D2 H S
  rw [show Bl.take (Int.toNat 4) = Bl by rw [eBl]; rfl] at S
  wtm_at "st"
  refine s_eqLL S (a := D) (b := D2) (by wtm_at "pk") (by wtm_at "pk") (tz_strs fun z hz => ?_) ?_
  · obtain ⟨B, hB, rfl⟩ := List.mem_map.mp hz
    rw [etx]
    exact tz_join (tz_iff.mpr (by decide +kernel)) fun p hp => (rowsOf_signs (bok B hB) p hp).2.2
  exact q H
end
end L2.Zs
namespace L2.Zs
open PySem PySem.Spec PyProof.Rows
theorem kit_not {K : PySem.W.Frag} {D C : Addr} (s : PySem.W.subIn K (.ref D) (.ref C) = some false) (sc : PySem.W.subIn K (.ref C) (.ref C) = some true) (i : PySem.W.isClsIn K C = true) (t : PySem.W.typeIn K (.ref C) = some (.type "type")) : PySem.W.kitOne K (.ref D) (.ref C) = some false :=
  kit_ref (fun h => by
    have e : D = C := by simpa using h
    subst e
    rw [s] at sc
    cases sc) i t s
set_option maxHeartbeats 16000000 in
theorem all_mk {l : PySem.W.OpenLaw} {w : World} {K : PySem.W.Frag} {h : Heap} {mg : PySem.Str → Option Value} {fa : Addr} (X : K.In h) (G : h.Ns mainGlobals mg) (hfa : mg "law" = some (.ref fa))
    {C_HallError C_BadPlan C_NoText C_Plan : Addr}
    {k_k1 : Tok}
    {k_k2 : Tok}
    {k_k3 : Tok}
    {k_k4 : Tok}
    {f_Lcell : Addr} {od_Lcell an_Lcell : Option Addr} {sl_Lcell : Array (Option Value)} {oc_Lcell kV_Lcell dc_Lcell pm_Lcell cd_Lcell ct_Lcell : Value}
    {f_Ldraws : Addr} {od_Ldraws an_Ldraws : Option Addr} {sl_Ldraws : Array (Option Value)} {oc_Ldraws kV_Ldraws dc_Ldraws pm_Ldraws cd_Ldraws ct_Ldraws : Value}
    {f_Lnumber : Addr} {od_Lnumber an_Lnumber : Option Addr} {sl_Lnumber : Array (Option Value)} {oc_Lnumber kV_Lnumber dc_Lnumber pm_Lnumber cd_Lnumber ct_Lnumber : Value}
    {f_Lplan : Addr} {od_Lplan an_Lplan : Option Addr} {sl_Lplan : Array (Option Value)} {oc_Lplan kV_Lplan dc_Lplan pm_Lplan cd_Lplan ct_Lplan : Value}
    {f_Lplan_rows : Addr} {od_Lplan_rows an_Lplan_rows : Option Addr} {sl_Lplan_rows : Array (Option Value)} {oc_Lplan_rows kV_Lplan_rows dc_Lplan_rows pm_Lplan_rows cd_Lplan_rows ct_Lplan_rows : Value}
    {f_are_figures : Addr} {od_are_figures an_are_figures : Option Addr} {sl_are_figures : Array (Option Value)} {oc_are_figures kV_are_figures dc_are_figures pm_are_figures cd_are_figures ct_are_figures : Value}
    {f_all_unlike : Addr} {od_all_unlike an_all_unlike : Option Addr} {sl_all_unlike : Array (Option Value)} {oc_all_unlike kV_all_unlike dc_all_unlike pm_all_unlike cd_all_unlike ct_all_unlike : Value}
    {f_are_lines : Addr} {od_are_lines an_are_lines : Option Addr} {sl_are_lines : Array (Option Value)} {oc_are_lines kV_are_lines dc_are_lines pm_are_lines cd_are_lines ct_are_lines : Value}
    {f_are_groups : Addr} {od_are_groups an_are_groups : Option Addr} {sl_are_groups : Array (Option Value)} {oc_are_groups kV_are_groups dc_are_groups pm_are_groups cd_are_groups ct_are_groups : Value}
    {f_PlanQ_initQ : Addr} {od_PlanQ_initQ an_PlanQ_initQ : Option Addr} {sl_PlanQ_initQ : Array (Option Value)} {oc_PlanQ_initQ kV_PlanQ_initQ dc_PlanQ_initQ pm_PlanQ_initQ cd_PlanQ_initQ ct_PlanQ_initQ : Value}
    {f_plan_text : Addr} {od_plan_text an_plan_text : Option Addr} {sl_plan_text : Array (Option Value)} {oc_plan_text kV_plan_text dc_plan_text pm_plan_text cd_plan_text ct_plan_text : Value}
    {f_small_number : Addr} {od_small_number an_small_number : Option Addr} {sl_small_number : Array (Option Value)} {oc_small_number kV_small_number dc_small_number pm_small_number cd_small_number ct_small_number : Value}
    {f_row_words : Addr} {od_row_words an_row_words : Option Addr} {sl_row_words : Array (Option Value)} {oc_row_words kV_row_words dc_row_words pm_row_words cd_row_words ct_row_words : Value}
    {f_read_plan : Addr} {od_read_plan an_read_plan : Option Addr} {sl_read_plan : Array (Option Value)} {oc_read_plan kV_read_plan dc_read_plan pm_read_plan cd_read_plan ct_read_plan : Value}
    {f_Ldealt : Addr} {od_Ldealt an_Ldealt : Option Addr} {sl_Ldealt : Array (Option Value)} {oc_Ldealt kV_Ldealt dc_Ldealt pm_Ldealt cd_Ldealt ct_Ldealt : Value}
    {f_Lparts : Addr} {od_Lparts an_Lparts : Option Addr} {sl_Lparts : Array (Option Value)} {oc_Lparts kV_Lparts dc_Lparts pm_Lparts cd_Lparts ct_Lparts : Value}
    {f_law : Addr} {od_law an_law : Option Addr} {sl_law : Array (Option Value)} {oc_law kV_law dc_law pm_law cd_law ct_law : Value}
    (b_len : PySem.W.nsIn K mainGlobals "len" = some none)
    (b_range : PySem.W.nsIn K mainGlobals "range" = some none)
    (b_list : PySem.W.nsIn K mainGlobals "list" = some none)
    (b_tuple : PySem.W.nsIn K mainGlobals "tuple" = some none)
    (b_isinstance : PySem.W.nsIn K mainGlobals "isinstance" = some none)
    (b_int : PySem.W.nsIn K mainGlobals "int" = some none)
    (b_str : PySem.W.nsIn K mainGlobals "str" = some none)
    (b_set : PySem.W.nsIn K mainGlobals "set" = some none)
    (b_all : PySem.W.nsIn K mainGlobals "all" = some none)
    (b_min : PySem.W.nsIn K mainGlobals "min" = some none)
    (b_max : PySem.W.nsIn K mainGlobals "max" = some none)
    (b_zip : PySem.W.nsIn K mainGlobals "zip" = some none)
    (b_enumerate : PySem.W.nsIn K mainGlobals "enumerate" = some none)
    (b_sorted : PySem.W.nsIn K mainGlobals "sorted" = some none)
    (b_ValueError : PySem.W.nsIn K mainGlobals "ValueError" = some none)
    (gx_SIGNS : PySem.W.nsIn K mainGlobals "SIGNS" = some (some (.str "0123456789" k_k1)))
    (gx_MOST_LINES : PySem.W.nsIn K mainGlobals "MOST_LINES" = some (some (.int 60 k_k2)))
    (gx_MOST_GROUPS : PySem.W.nsIn K mainGlobals "MOST_GROUPS" = some (some (.int 40 k_k3)))
    (gx_MOST_SWITCHES : PySem.W.nsIn K mainGlobals "MOST_SWITCHES" = some (some (.int 10 k_k4)))
    (gx_HallError : PySem.W.nsIn K mainGlobals "HallError" = some (some (.ref C_HallError)))
    (ex_HallError : PySem.W.excIn K C_HallError [.type "ValueError", .type "Exception", .type "BaseException", .type "object"] "ValueError.__new__" = true)
    (kx_HallError : PySem.W.keepIn K (.ref C_HallError) = true)
    (bx_HallError : PySem.W.subIn K (.ref C_HallError) (.type "BaseException") = some true)
    (tx_HallError : PySem.W.typeIn K (.ref C_HallError) = some (.type "type"))
    (ix_HallError : PySem.W.isClsIn K C_HallError = true)
    (gx_BadPlan : PySem.W.nsIn K mainGlobals "BadPlan" = some (some (.ref C_BadPlan)))
    (ex_BadPlan : PySem.W.excIn K C_BadPlan [.type "ValueError", .type "Exception", .type "BaseException", .type "object"] "ValueError.__new__" = true)
    (kx_BadPlan : PySem.W.keepIn K (.ref C_BadPlan) = true)
    (bx_BadPlan : PySem.W.subIn K (.ref C_BadPlan) (.type "BaseException") = some true)
    (tx_BadPlan : PySem.W.typeIn K (.ref C_BadPlan) = some (.type "type"))
    (ix_BadPlan : PySem.W.isClsIn K C_BadPlan = true)
    (gx_NoText : PySem.W.nsIn K mainGlobals "NoText" = some (some (.ref C_NoText)))
    (ex_NoText : PySem.W.excIn K C_NoText [.type "ValueError", .type "Exception", .type "BaseException", .type "object"] "ValueError.__new__" = true)
    (kx_NoText : PySem.W.keepIn K (.ref C_NoText) = true)
    (bx_NoText : PySem.W.subIn K (.ref C_NoText) (.type "BaseException") = some true)
    (tx_NoText : PySem.W.typeIn K (.ref C_NoText) = some (.type "type"))
    (ix_NoText : PySem.W.isClsIn K C_NoText = true)
    (gx_Plan : PySem.W.nsIn K mainGlobals "Plan" = some (some (.ref C_Plan)))
    (pg_Plan : PySem.W.plainGet K C_Plan Str.empty = true)
    (hd_Plan : PySem.W.hasDictIn K C_Plan = true)
    (po_Plan : PySem.W.plainOver K C_Plan = true)
    (sa_Plan : PySem.W.findIn K (.ref C_Plan) "__setattr__" = some (some (.builtin "object.__setattr__")))
    (kc_Plan : PySem.W.keepIn K (.ref C_Plan) = true)
    (no_Plan_long : PySem.W.findIn K (.ref C_Plan) "long" = some none)
    (no_Plan_lines : PySem.W.findIn K (.ref C_Plan) "lines" = some none)
    (no_Plan_seekers : PySem.W.findIn K (.ref C_Plan) "seekers" = some none)
    (no_Plan_groups : PySem.W.findIn K (.ref C_Plan) "groups" = some none)
    (a_Lcell : PySem.W.nsIn K mainGlobals "_law_cell" = some (some (.ref f_Lcell)))
    (l_Lcell : K.lookup f_Lcell = some ⟨oc_Lcell, od_Lcell, .func (PySem.W.fnOf "_law_cell" "_law_cell" (defArgs s_Lcell) (defBody s_Lcell) (defScope s_Lcell) .none kV_Lcell dc_Lcell pm_Lcell an_Lcell cd_Lcell ct_Lcell), sl_Lcell⟩)
    (c_Lcell : PySem.W.codeIn K cd_Lcell "_law_cell" = true)
    (k_Lcell : PySem.W.keepIn K (.ref f_Lcell) = true)
    (a_Ldraws : PySem.W.nsIn K mainGlobals "_law_draws" = some (some (.ref f_Ldraws)))
    (l_Ldraws : K.lookup f_Ldraws = some ⟨oc_Ldraws, od_Ldraws, .func (PySem.W.fnOf "_law_draws" "_law_draws" (defArgs s_Ldraws) (defBody s_Ldraws) (defScope s_Ldraws) .none kV_Ldraws dc_Ldraws pm_Ldraws an_Ldraws cd_Ldraws ct_Ldraws), sl_Ldraws⟩)
    (c_Ldraws : PySem.W.codeIn K cd_Ldraws "_law_draws" = true)
    (k_Ldraws : PySem.W.keepIn K (.ref f_Ldraws) = true)
    (a_Lnumber : PySem.W.nsIn K mainGlobals "_law_number" = some (some (.ref f_Lnumber)))
    (l_Lnumber : K.lookup f_Lnumber = some ⟨oc_Lnumber, od_Lnumber, .func (PySem.W.fnOf "_law_number" "_law_number" (defArgs s_Lnumber) (defBody s_Lnumber) (defScope s_Lnumber) .none kV_Lnumber dc_Lnumber pm_Lnumber an_Lnumber cd_Lnumber ct_Lnumber), sl_Lnumber⟩)
    (c_Lnumber : PySem.W.codeIn K cd_Lnumber "_law_number" = true)
    (k_Lnumber : PySem.W.keepIn K (.ref f_Lnumber) = true)
    (a_Lplan : PySem.W.nsIn K mainGlobals "_law_plan" = some (some (.ref f_Lplan)))
    (l_Lplan : K.lookup f_Lplan = some ⟨oc_Lplan, od_Lplan, .func (PySem.W.fnOf "_law_plan" "_law_plan" (defArgs s_Lplan) (defBody s_Lplan) (defScope s_Lplan) .none kV_Lplan dc_Lplan pm_Lplan an_Lplan cd_Lplan ct_Lplan), sl_Lplan⟩)
    (c_Lplan : PySem.W.codeIn K cd_Lplan "_law_plan" = true)
    (k_Lplan : PySem.W.keepIn K (.ref f_Lplan) = true)
    (a_Lplan_rows : PySem.W.nsIn K mainGlobals "_law_plan_rows" = some (some (.ref f_Lplan_rows)))
    (l_Lplan_rows : K.lookup f_Lplan_rows = some ⟨oc_Lplan_rows, od_Lplan_rows, .func (PySem.W.fnOf "_law_plan_rows" "_law_plan_rows" (defArgs s_Lplan_rows) (defBody s_Lplan_rows) (defScope s_Lplan_rows) .none kV_Lplan_rows dc_Lplan_rows pm_Lplan_rows an_Lplan_rows cd_Lplan_rows ct_Lplan_rows), sl_Lplan_rows⟩)
    (c_Lplan_rows : PySem.W.codeIn K cd_Lplan_rows "_law_plan_rows" = true)
    (k_Lplan_rows : PySem.W.keepIn K (.ref f_Lplan_rows) = true)
    (a_are_figures : PySem.W.nsIn K mainGlobals "are_figures" = some (some (.ref f_are_figures)))
    (l_are_figures : K.lookup f_are_figures = some ⟨oc_are_figures, od_are_figures, .func (PySem.W.fnOf "are_figures" "are_figures" (defArgs s_are_figures) (defBody s_are_figures) (defScope s_are_figures) .none kV_are_figures dc_are_figures pm_are_figures an_are_figures cd_are_figures ct_are_figures), sl_are_figures⟩)
    (c_are_figures : PySem.W.codeIn K cd_are_figures "are_figures" = true)
    (k_are_figures : PySem.W.keepIn K (.ref f_are_figures) = true)
    (a_all_unlike : PySem.W.nsIn K mainGlobals "all_unlike" = some (some (.ref f_all_unlike)))
    (l_all_unlike : K.lookup f_all_unlike = some ⟨oc_all_unlike, od_all_unlike, .func (PySem.W.fnOf "all_unlike" "all_unlike" (defArgs s_all_unlike) (defBody s_all_unlike) (defScope s_all_unlike) .none kV_all_unlike dc_all_unlike pm_all_unlike an_all_unlike cd_all_unlike ct_all_unlike), sl_all_unlike⟩)
    (c_all_unlike : PySem.W.codeIn K cd_all_unlike "all_unlike" = true)
    (k_all_unlike : PySem.W.keepIn K (.ref f_all_unlike) = true)
    (a_are_lines : PySem.W.nsIn K mainGlobals "are_lines" = some (some (.ref f_are_lines)))
    (l_are_lines : K.lookup f_are_lines = some ⟨oc_are_lines, od_are_lines, .func (PySem.W.fnOf "are_lines" "are_lines" (defArgs s_are_lines) (defBody s_are_lines) (defScope s_are_lines) .none kV_are_lines dc_are_lines pm_are_lines an_are_lines cd_are_lines ct_are_lines), sl_are_lines⟩)
    (c_are_lines : PySem.W.codeIn K cd_are_lines "are_lines" = true)
    (k_are_lines : PySem.W.keepIn K (.ref f_are_lines) = true)
    (a_are_groups : PySem.W.nsIn K mainGlobals "are_groups" = some (some (.ref f_are_groups)))
    (l_are_groups : K.lookup f_are_groups = some ⟨oc_are_groups, od_are_groups, .func (PySem.W.fnOf "are_groups" "are_groups" (defArgs s_are_groups) (defBody s_are_groups) (defScope s_are_groups) .none kV_are_groups dc_are_groups pm_are_groups an_are_groups cd_are_groups ct_are_groups), sl_are_groups⟩)
    (c_are_groups : PySem.W.codeIn K cd_are_groups "are_groups" = true)
    (k_are_groups : PySem.W.keepIn K (.ref f_are_groups) = true)
    (at_PlanQ_initQ_Plan : PySem.W.findIn K (.ref C_Plan) "__init__" = some (some (.ref f_PlanQ_initQ)))
    (i_PlanQ_initQ : PySem.W.isFn K (.ref f_PlanQ_initQ) = true)
    (l_PlanQ_initQ : K.lookup f_PlanQ_initQ = some ⟨oc_PlanQ_initQ, od_PlanQ_initQ, .func (PySem.W.fnOf "__init__" "Plan.__init__" (defArgs s_PlanQ_initQ) (defBody s_PlanQ_initQ) (defScope s_PlanQ_initQ) .none kV_PlanQ_initQ dc_PlanQ_initQ pm_PlanQ_initQ an_PlanQ_initQ cd_PlanQ_initQ ct_PlanQ_initQ), sl_PlanQ_initQ⟩)
    (c_PlanQ_initQ : PySem.W.codeIn K cd_PlanQ_initQ "Plan.__init__" = true)
    (k_PlanQ_initQ : PySem.W.keepIn K (.ref f_PlanQ_initQ) = true)
    (mk_Plan : PySem.W.makesIn K C_Plan = true)
    (a_plan_text : PySem.W.nsIn K mainGlobals "plan_text" = some (some (.ref f_plan_text)))
    (l_plan_text : K.lookup f_plan_text = some ⟨oc_plan_text, od_plan_text, .func (PySem.W.fnOf "plan_text" "plan_text" (defArgs s_plan_text) (defBody s_plan_text) (defScope s_plan_text) .none kV_plan_text dc_plan_text pm_plan_text an_plan_text cd_plan_text ct_plan_text), sl_plan_text⟩)
    (c_plan_text : PySem.W.codeIn K cd_plan_text "plan_text" = true)
    (k_plan_text : PySem.W.keepIn K (.ref f_plan_text) = true)
    (a_small_number : PySem.W.nsIn K mainGlobals "small_number" = some (some (.ref f_small_number)))
    (l_small_number : K.lookup f_small_number = some ⟨oc_small_number, od_small_number, .func (PySem.W.fnOf "small_number" "small_number" (defArgs s_small_number) (defBody s_small_number) (defScope s_small_number) .none kV_small_number dc_small_number pm_small_number an_small_number cd_small_number ct_small_number), sl_small_number⟩)
    (c_small_number : PySem.W.codeIn K cd_small_number "small_number" = true)
    (k_small_number : PySem.W.keepIn K (.ref f_small_number) = true)
    (a_row_words : PySem.W.nsIn K mainGlobals "row_words" = some (some (.ref f_row_words)))
    (l_row_words : K.lookup f_row_words = some ⟨oc_row_words, od_row_words, .func (PySem.W.fnOf "row_words" "row_words" (defArgs s_row_words) (defBody s_row_words) (defScope s_row_words) .none kV_row_words dc_row_words pm_row_words an_row_words cd_row_words ct_row_words), sl_row_words⟩)
    (c_row_words : PySem.W.codeIn K cd_row_words "row_words" = true)
    (k_row_words : PySem.W.keepIn K (.ref f_row_words) = true)
    (a_read_plan : PySem.W.nsIn K mainGlobals "read_plan" = some (some (.ref f_read_plan)))
    (l_read_plan : K.lookup f_read_plan = some ⟨oc_read_plan, od_read_plan, .func (PySem.W.fnOf "read_plan" "read_plan" (defArgs s_read_plan) (defBody s_read_plan) (defScope s_read_plan) .none kV_read_plan dc_read_plan pm_read_plan an_read_plan cd_read_plan ct_read_plan), sl_read_plan⟩)
    (c_read_plan : PySem.W.codeIn K cd_read_plan "read_plan" = true)
    (k_read_plan : PySem.W.keepIn K (.ref f_read_plan) = true)
    (a_Ldealt : PySem.W.nsIn K mainGlobals "_law_dealt" = some (some (.ref f_Ldealt)))
    (l_Ldealt : K.lookup f_Ldealt = some ⟨oc_Ldealt, od_Ldealt, .func (PySem.W.fnOf "_law_dealt" "_law_dealt" (defArgs s_Ldealt) (defBody s_Ldealt) (defScope s_Ldealt) .none kV_Ldealt dc_Ldealt pm_Ldealt an_Ldealt cd_Ldealt ct_Ldealt), sl_Ldealt⟩)
    (c_Ldealt : PySem.W.codeIn K cd_Ldealt "_law_dealt" = true)
    (k_Ldealt : PySem.W.keepIn K (.ref f_Ldealt) = true)
    (a_Lparts : PySem.W.nsIn K mainGlobals "_law_parts" = some (some (.ref f_Lparts)))
    (l_Lparts : K.lookup f_Lparts = some ⟨oc_Lparts, od_Lparts, .func (PySem.W.fnOf "_law_parts" "_law_parts" (defArgs s_Lparts) (defBody s_Lparts) (defScope s_Lparts) .none kV_Lparts dc_Lparts pm_Lparts an_Lparts cd_Lparts ct_Lparts), sl_Lparts⟩)
    (c_Lparts : PySem.W.codeIn K cd_Lparts "_law_parts" = true)
    (k_Lparts : PySem.W.keepIn K (.ref f_Lparts) = true)
    (a_law : PySem.W.nsIn K mainGlobals "law" = some (some (.ref f_law)))
    (l_law : K.lookup f_law = some ⟨oc_law, od_law, .func (PySem.W.fnOf "law" "law" (defArgs s_law) (defBody s_law) (defScope s_law) .none kV_law dc_law pm_law an_law cd_law ct_law), sl_law⟩)
    (c_law : PySem.W.codeIn K cd_law "law" = true)
    (k_law : PySem.W.keepIn K (.ref f_law) = true)
    : ∃ fd : FuncData, (∀ (s : Shared) (v : Value), BindsTo s fd ⟨[v], []⟩ [("script", v)]) ∧ ∀ base : Heap, K.In base → base.Ns mainGlobals mg → FnOk l.prog w K mg base (L2.CX l.prog w) 6 fa fd ["script"] (spLawK K) := by
  have e := hfa.symm.trans (PySem.W.mg_of X G a_law)
  cases e
  have cls_Plan : Cls K C_Plan := ⟨pg_Plan, hd_Plan, po_Plan, sa_Plan⟩
  have T : Txt K mg (Ad.mk C_HallError C_HallError C_BadPlan C_NoText C_HallError C_HallError C_HallError C_HallError C_HallError C_HallError C_HallError C_HallError C_HallError C_Plan C_HallError k_k1 k_k2 k_k3 k_k4 k_k1) := { b_len := PySem.W.mg_none_of X G b_len, b_range := PySem.W.mg_none_of X G b_range, b_list := PySem.W.mg_none_of X G b_list, b_tuple := PySem.W.mg_none_of X G b_tuple, b_isinstance := PySem.W.mg_none_of X G b_isinstance, b_int := PySem.W.mg_none_of X G b_int, b_str := PySem.W.mg_none_of X G b_str, b_set := PySem.W.mg_none_of X G b_set, b_all := PySem.W.mg_none_of X G b_all, b_min := PySem.W.mg_none_of X G b_min, b_max := PySem.W.mg_none_of X G b_max, b_zip := PySem.W.mg_none_of X G b_zip, b_enumerate := PySem.W.mg_none_of X G b_enumerate, b_sorted := PySem.W.mg_none_of X G b_sorted, b_ValueError := PySem.W.mg_none_of X G b_ValueError, g_SIGNS := PySem.W.mg_of X G gx_SIGNS, g_MOST_LINES := PySem.W.mg_of X G gx_MOST_LINES, g_MOST_GROUPS := PySem.W.mg_of X G gx_MOST_GROUPS, g_MOST_SWITCHES := PySem.W.mg_of X G gx_MOST_SWITCHES, x_HallError := ⟨ex_HallError, PySem.W.mg_of X G gx_HallError, kx_HallError, bx_HallError, tx_HallError, ix_HallError⟩, x_BadPlan := ⟨ex_BadPlan, PySem.W.mg_of X G gx_BadPlan, kx_BadPlan, bx_BadPlan, tx_BadPlan, ix_BadPlan⟩, x_NoText := ⟨ex_NoText, PySem.W.mg_of X G gx_NoText, kx_NoText, bx_NoText, tx_NoText, ix_NoText⟩, fPlan := ⟨cls_Plan, List.forall_mem_cons.mpr ⟨no_Plan_long, List.forall_mem_cons.mpr ⟨no_Plan_lines, List.forall_mem_cons.mpr ⟨no_Plan_seekers, List.forall_mem_cons.mpr ⟨no_Plan_groups, fun _ z => nomatch z⟩⟩⟩⟩⟩ }
  have F_Lcell := fun_mk (st := s_Lcell) l_Lcell c_Lcell k_Lcell
  have B_Lcell := F_Lcell.binds (ps := ["script", "k"]) fun _ _ _ _ _ _ us hl => match us, hl with | [_, _], _ => rfl
  have F_Ldraws := fun_mk (st := s_Ldraws) l_Ldraws c_Ldraws k_Ldraws
  have B_Ldraws := F_Ldraws.binds (ps := ["script", "k", "many", "base"]) fun _ _ _ _ _ _ us hl => match us, hl with | [_, _, _, _], _ => rfl
  have F_Lnumber := fun_mk (st := s_Lnumber) l_Lnumber c_Lnumber k_Lnumber
  have B_Lnumber := F_Lnumber.binds (ps := ["draw", "long"]) fun _ _ _ _ _ _ us hl => match us, hl with | [_, _], _ => rfl
  have F_Lplan := fun_mk (st := s_Lplan) l_Lplan c_Lplan k_Lplan
  have B_Lplan := F_Lplan.binds (ps := ["script", "at"]) fun _ _ _ _ _ _ us hl => match us, hl with | [_, _], _ => rfl
  have F_Lplan_rows := fun_mk (st := s_Lplan_rows) l_Lplan_rows c_Lplan_rows k_Lplan_rows
  have B_Lplan_rows := F_Lplan_rows.binds (ps := ["parts"]) fun _ _ _ _ _ _ us hl => match us, hl with | [_], _ => rfl
  have F_are_figures := fun_mk (st := s_are_figures) l_are_figures c_are_figures k_are_figures
  have B_are_figures := F_are_figures.binds (ps := ["text"]) fun _ _ _ _ _ _ us hl => match us, hl with | [_], _ => rfl
  have F_all_unlike := fun_mk (st := s_all_unlike) l_all_unlike c_all_unlike k_all_unlike
  have B_all_unlike := F_all_unlike.binds (ps := ["things"]) fun _ _ _ _ _ _ us hl => match us, hl with | [_], _ => rfl
  have F_are_lines := fun_mk (st := s_are_lines) l_are_lines c_are_lines k_are_lines
  have B_are_lines := F_are_lines.binds (ps := ["long", "lines"]) fun _ _ _ _ _ _ us hl => match us, hl with | [_, _], _ => rfl
  have F_are_groups := fun_mk (st := s_are_groups) l_are_groups c_are_groups k_are_groups
  have B_are_groups := F_are_groups.binds (ps := ["long", "groups"]) fun _ _ _ _ _ _ us hl => match us, hl with | [_, _], _ => rfl
  have F_PlanQ_initQ := fun_mk (st := s_PlanQ_initQ) l_PlanQ_initQ c_PlanQ_initQ k_PlanQ_initQ
  have B_PlanQ_initQ := F_PlanQ_initQ.binds (ps := ["self", "long", "lines", "seekers", "groups"]) fun _ _ _ _ _ _ us hl => match us, hl with | [_, _, _, _, _], _ => rfl
  have F_plan_text := fun_mk (st := s_plan_text) l_plan_text c_plan_text k_plan_text
  have B_plan_text := F_plan_text.binds (ps := ["plan"]) fun _ _ _ _ _ _ us hl => match us, hl with | [_], _ => rfl
  have F_small_number := fun_mk (st := s_small_number) l_small_number c_small_number k_small_number
  have B_small_number := F_small_number.binds (ps := ["word"]) fun _ _ _ _ _ _ us hl => match us, hl with | [_], _ => rfl
  have F_row_words := fun_mk (st := s_row_words) l_row_words c_row_words k_row_words
  have B_row_words := F_row_words.binds (ps := ["row"]) fun _ _ _ _ _ _ us hl => match us, hl with | [_], _ => rfl
  have F_read_plan := fun_mk (st := s_read_plan) l_read_plan c_read_plan k_read_plan
  have B_read_plan := F_read_plan.binds (ps := ["text"]) fun _ _ _ _ _ _ us hl => match us, hl with | [_], _ => rfl
  have F_Ldealt := fun_mk (st := s_Ldealt) l_Ldealt c_Ldealt k_Ldealt
  have B_Ldealt := F_Ldealt.binds (ps := ["rows", "draws"]) fun _ _ _ _ _ _ us hl => match us, hl with | [_, _], _ => rfl
  have F_Lparts := fun_mk (st := s_Lparts) l_Lparts c_Lparts k_Lparts
  have B_Lparts := F_Lparts.binds (ps := ["plan"]) fun _ _ _ _ _ _ us hl => match us, hl with | [_], _ => rfl
  have F_law := fun_mk (st := s_law) l_law c_law k_law
  refine ⟨PySem.W.fnOf "law" "law" (defArgs s_law) (defBody s_law) (defScope s_law) .none kV_law dc_law pm_law an_law cd_law ct_law, fun s v => .of_eq rfl, fun base KB GB => ?_⟩
  have c_Lcell : Cal l.prog w K mg base 1 "_law_cell" ((spCell K)) := ⟨_, _, _, ok_Lcell T F_Lcell, PySem.W.mg_of X G a_Lcell, k_Lcell, B_Lcell⟩
  have c_Ldraws : Cal l.prog w K mg base 2 "_law_draws" ((spDraws K)) := ⟨_, _, _, ok_Ldraws T c_Lcell F_Ldraws, PySem.W.mg_of X G a_Ldraws, k_Ldraws, B_Ldraws⟩
  have c_Lnumber : Cal l.prog w K mg base 1 "_law_number" (spNumber) := ⟨_, _, _, ok_Lnumber T F_Lnumber, PySem.W.mg_of X G a_Lnumber, k_Lnumber, B_Lnumber⟩
  have c_Lplan : Cal l.prog w K mg base 3 "_law_plan" ((spLPlan K)) := ⟨_, _, _, ok_Lplan T c_Ldraws c_Lnumber F_Lplan, PySem.W.mg_of X G a_Lplan, k_Lplan, B_Lplan⟩
  have c_Lplan_rows : Cal l.prog w K mg base 1 "_law_plan_rows" (spPlanRows) := ⟨_, _, _, ok_Lplan_rows T F_Lplan_rows, PySem.W.mg_of X G a_Lplan_rows, k_Lplan_rows, B_Lplan_rows⟩
  have c_are_figures : Cal l.prog w K mg base 1 "are_figures" (spFigs) := ⟨_, _, _, ok_are_figures T F_are_figures, PySem.W.mg_of X G a_are_figures, k_are_figures, B_are_figures⟩
  have c_all_unlike : Cal l.prog w K mg base 1 "all_unlike" (spUnlike) := ⟨_, _, _, ok_all_unlike T F_all_unlike, PySem.W.mg_of X G a_all_unlike, k_all_unlike, B_all_unlike⟩
  have c_are_lines : Cal l.prog w K mg base 2 "are_lines" (spLines) := ⟨_, _, _, ok_are_lines T c_are_figures c_all_unlike F_are_lines, PySem.W.mg_of X G a_are_lines, k_are_lines, B_are_lines⟩
  have c_are_groups : Cal l.prog w K mg base 2 "are_groups" (spGroups) := ⟨_, _, _, ok_are_groups T c_are_figures c_all_unlike F_are_groups, PySem.W.mg_of X G a_are_groups, k_are_groups, B_are_groups⟩
  have k_Plan : Mak l.prog w K mg base 3 "Plan" C_Plan ((spPlan (Ad.mk C_HallError C_HallError C_BadPlan C_NoText C_HallError C_HallError C_HallError C_HallError C_HallError C_HallError C_HallError C_HallError C_HallError C_Plan C_HallError k_k1 k_k2 k_k3 k_k4 k_k1) C_Plan)) := ⟨_, _, _, ok_Plan_init T c_are_lines c_are_groups F_PlanQ_initQ, PySem.W.mg_of X G gx_Plan, ⟨mk_Plan, at_PlanQ_initQ_Plan, i_PlanQ_initQ, kc_Plan⟩, B_PlanQ_initQ⟩
  have c_plan_text : Cal l.prog w K mg base 1 "plan_text" ((spPlanText (Ad.mk C_HallError C_HallError C_BadPlan C_NoText C_HallError C_HallError C_HallError C_HallError C_HallError C_HallError C_HallError C_HallError C_HallError C_Plan C_HallError k_k1 k_k2 k_k3 k_k4 k_k1))) := ⟨_, _, _, ok_plan_text T F_plan_text, PySem.W.mg_of X G a_plan_text, k_plan_text, B_plan_text⟩
  have c_small_number : Cal l.prog w K mg base 2 "small_number" (spSmall) := ⟨_, _, _, ok_small_number T c_are_figures F_small_number, PySem.W.mg_of X G a_small_number, k_small_number, B_small_number⟩
  have c_row_words : Cal l.prog w K mg base 3 "row_words" ((spRowWords (Ad.mk C_HallError C_HallError C_BadPlan C_NoText C_HallError C_HallError C_HallError C_HallError C_HallError C_HallError C_HallError C_HallError C_HallError C_Plan C_HallError k_k1 k_k2 k_k3 k_k4 k_k1))) := ⟨_, _, _, ok_row_words T c_small_number F_row_words, PySem.W.mg_of X G a_row_words, k_row_words, B_row_words⟩
  have c_read_plan : Cal l.prog w K mg base 5 "read_plan" ((spRead (Ad.mk C_HallError C_HallError C_BadPlan C_NoText C_HallError C_HallError C_HallError C_HallError C_HallError C_HallError C_HallError C_HallError C_HallError C_Plan C_HallError k_k1 k_k2 k_k3 k_k4 k_k1))) := ⟨_, _, _, ok_read_plan T c_row_words k_Plan F_read_plan, PySem.W.mg_of X G a_read_plan, k_read_plan, B_read_plan⟩
  have c_Ldealt : Cal l.prog w K mg base 1 "_law_dealt" (spDealt) := ⟨_, _, _, ok_Ldealt T F_Ldealt, PySem.W.mg_of X G a_Ldealt, k_Ldealt, B_Ldealt⟩
  have c_Lparts : Cal l.prog w K mg base 1 "_law_parts" ((spParts (Ad.mk C_HallError C_HallError C_BadPlan C_NoText C_HallError C_HallError C_HallError C_HallError C_HallError C_HallError C_HallError C_HallError C_HallError C_Plan C_HallError k_k1 k_k2 k_k3 k_k4 k_k1))) := ⟨_, _, _, ok_Lparts T F_Lparts, PySem.W.mg_of X G a_Lparts, k_Lparts, B_Lparts⟩
  exact ok_law T c_Lplan c_Ldraws c_Lplan_rows k_Plan c_plan_text c_read_plan c_Ldealt c_Lparts F_law
theorem walk {l : PySem.W.OpenLaw} {q : Program} {loose : List PySem.Str} {XP : (PySem.Str → Option Value) → Heap → Prop} {YP : World → Heap → Prop} {d : DefRec} {K : Params → PySem.W.Frag} (hn : l.most = some 63) (hdf : d.params.defaults = [])
    (hY : ∀ (w : World) (h : Heap), YP w h → (K w.params).In h)
    (F : ∀ (w : World) (mg : PySem.Str → Option Value) (fa : Addr) (h : Heap), (K w.params).In h → h.Ns mainGlobals mg → mg d.name = some (.ref fa) →
      ∃ fd : FuncData, (∀ (s : Shared) (u : Value), BindsTo s fd ⟨[u], []⟩ [("script", u)]) ∧ ∀ base : Heap, (K w.params).In base → base.Ns mainGlobals mg → FnOk l.prog w (K w.params) mg base (L2.CX l.prog w) 6 fa fd ["script"] (spLawK (K w.params))) :
    PySem.W.WalkO q loose XP YP l.row.toRowW d [] (fun f vs => PySem.call f vs) :=
  L2.walk_of (n := 63) (k := 6) (x := "script") (CX := fun w => L2.CX l.prog w) (sp := fun w => spLawK (K w.params)) hn (by decide) hdf ⟨rfl, by decide, by decide⟩ hY F (fun _ _ a ns hl _ hS => ⟨a, ns, rfl, hS, hl, fun _ => rfl⟩) fun _ _ _ _ _ ⟨_, _, _, _, _, _, _, _, _, _, _, _, z⟩ => z
end L2.Zs
open PySem PySem.W PyProof.Rows
set_option maxRecDepth 100000 in
set_option maxHeartbeats 0 in
set_option pp.deepTerms false in
set_option pp.maxSteps 300 in
theorem PySem.Challenge.cw_stephall_k03_plans_written_and_read_holds : PySem.Challenge.rw_stephall_k03_plans_written_and_read.Holds := by
  w_on; o_law; k_head; (case hw => w_witness2)
  k_fill
  refine L2.Zs.walk (l := PySem.Challenge.rw_stephall_k03_plans_written_and_read) rfl rfl (fun w h Y => PySem.W.kIn_of Y) ?F
  case F =>
    intro w mg fa h Y G hmg
    refine' L2.Zs.all_mk Y G hmg ?b_len ?b_range ?b_list ?b_tuple ?b_isinstance ?b_int ?b_str ?b_set ?b_all ?b_min ?b_max ?b_zip ?b_enumerate ?b_sorted ?b_ValueError ?gx_SIGNS ?gx_MOST_LINES ?gx_MOST_GROUPS ?gx_MOST_SWITCHES ?gx_HallError ?ex_HallError ?kx_HallError ?bx_HallError ?tx_HallError ?ix_HallError ?gx_BadPlan ?ex_BadPlan ?kx_BadPlan ?bx_BadPlan ?tx_BadPlan ?ix_BadPlan ?gx_NoText ?ex_NoText ?kx_NoText ?bx_NoText ?tx_NoText ?ix_NoText ?gx_Plan ?pg_Plan ?hd_Plan ?po_Plan ?sa_Plan ?kc_Plan ?no_Plan_long ?no_Plan_lines ?no_Plan_seekers ?no_Plan_groups ?a_Lcell ?l_Lcell ?c_Lcell ?k_Lcell ?a_Ldraws ?l_Ldraws ?c_Ldraws ?k_Ldraws ?a_Lnumber ?l_Lnumber ?c_Lnumber ?k_Lnumber ?a_Lplan ?l_Lplan ?c_Lplan ?k_Lplan ?a_Lplan_rows ?l_Lplan_rows ?c_Lplan_rows ?k_Lplan_rows ?a_are_figures ?l_are_figures ?c_are_figures ?k_are_figures ?a_all_unlike ?l_all_unlike ?c_all_unlike ?k_all_unlike ?a_are_lines ?l_are_lines ?c_are_lines ?k_are_lines ?a_are_groups ?l_are_groups ?c_are_groups ?k_are_groups ?at_PlanQ_initQ_Plan ?i_PlanQ_initQ ?l_PlanQ_initQ ?c_PlanQ_initQ ?k_PlanQ_initQ ?mk_Plan ?a_plan_text ?l_plan_text ?c_plan_text ?k_plan_text ?a_small_number ?l_small_number ?c_small_number ?k_small_number ?a_row_words ?l_row_words ?c_row_words ?k_row_words ?a_read_plan ?l_read_plan ?c_read_plan ?k_read_plan ?a_Ldealt ?l_Ldealt ?c_Ldealt ?k_Ldealt ?a_Lparts ?l_Lparts ?c_Lparts ?k_Lparts ?a_law ?l_law ?c_law ?k_law
    (case b_len => k_is)
    (case b_range => k_is)
    (case b_list => k_is)
    (case b_tuple => k_is)
    (case b_isinstance => k_is)
    (case b_int => k_is)
    (case b_str => k_is)
    (case b_set => k_is)
    (case b_all => k_is)
    (case b_min => k_is)
    (case b_max => k_is)
    (case b_zip => k_is)
    (case b_enumerate => k_is)
    (case b_sorted => k_is)
    (case b_ValueError => k_is)
    (case gx_SIGNS => k_is)
    (case gx_MOST_LINES => k_is)
    (case gx_MOST_GROUPS => k_is)
    (case gx_MOST_SWITCHES => k_is)
    (case gx_HallError => k_is)
    (case ex_HallError => k_exc)
    (case kx_HallError => k_is)
    (case bx_HallError => k_is)
    (case tx_HallError => k_is)
    (case ix_HallError => k_is)
    (case gx_BadPlan => k_is)
    (case ex_BadPlan => k_exc)
    (case kx_BadPlan => k_is)
    (case bx_BadPlan => k_is)
    (case tx_BadPlan => k_is)
    (case ix_BadPlan => k_is)
    (case gx_NoText => k_is)
    (case ex_NoText => k_exc)
    (case kx_NoText => k_is)
    (case bx_NoText => k_is)
    (case tx_NoText => k_is)
    (case ix_NoText => k_is)
    (case gx_Plan => k_is)
    (case pg_Plan => k_is)
    (case hd_Plan => k_is)
    (case po_Plan => k_is)
    (case sa_Plan => k_is)
    (case kc_Plan => k_is)
    (case no_Plan_long => k_is)
    (case no_Plan_lines => k_is)
    (case no_Plan_seekers => k_is)
    (case no_Plan_groups => k_is)
    (case a_Lcell => k_is)
    (case l_Lcell => k_is)
    (case c_Lcell => k_is)
    (case k_Lcell => k_is)
    (case a_Ldraws => k_is)
    (case l_Ldraws => k_is)
    (case c_Ldraws => k_is)
    (case k_Ldraws => k_is)
    (case a_Lnumber => k_is)
    (case l_Lnumber => k_is)
    (case c_Lnumber => k_is)
    (case k_Lnumber => k_is)
    (case a_Lplan => k_is)
    (case l_Lplan => k_is)
    (case c_Lplan => k_is)
    (case k_Lplan => k_is)
    (case a_Lplan_rows => k_is)
    (case l_Lplan_rows => k_is)
    (case c_Lplan_rows => k_is)
    (case k_Lplan_rows => k_is)
    (case a_are_figures => k_is)
    (case l_are_figures => k_is)
    (case c_are_figures => k_is)
    (case k_are_figures => k_is)
    (case a_all_unlike => k_is)
    (case l_all_unlike => k_is)
    (case c_all_unlike => k_is)
    (case k_all_unlike => k_is)
    (case a_are_lines => k_is)
    (case l_are_lines => k_is)
    (case c_are_lines => k_is)
    (case k_are_lines => k_is)
    (case a_are_groups => k_is)
    (case l_are_groups => k_is)
    (case c_are_groups => k_is)
    (case k_are_groups => k_is)
    (case at_PlanQ_initQ_Plan => k_is)
    (case i_PlanQ_initQ => k_is)
    (case l_PlanQ_initQ => k_is)
    (case c_PlanQ_initQ => k_is)
    (case k_PlanQ_initQ => k_is)
    (case mk_Plan => k_is)
    (case a_plan_text => k_is)
    (case l_plan_text => k_is)
    (case c_plan_text => k_is)
    (case k_plan_text => k_is)
    (case a_small_number => k_is)
    (case l_small_number => k_is)
    (case c_small_number => k_is)
    (case k_small_number => k_is)
    (case a_row_words => k_is)
    (case l_row_words => k_is)
    (case c_row_words => k_is)
    (case k_row_words => k_is)
    (case a_read_plan => k_is)
    (case l_read_plan => k_is)
    (case c_read_plan => k_is)
    (case k_read_plan => k_is)
    (case a_Ldealt => k_is)
    (case l_Ldealt => k_is)
    (case c_Ldealt => k_is)
    (case k_Ldealt => k_is)
    (case a_Lparts => k_is)
    (case l_Lparts => k_is)
    (case c_Lparts => k_is)
    (case k_Lparts => k_is)
    (case a_law => k_is)
    (case l_law => k_is)
    (case c_law => k_is)
    (case k_law => k_is)
