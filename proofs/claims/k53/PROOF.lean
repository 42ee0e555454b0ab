import PyProof.Rows.All
import Wide.All
import OpenK.AllK
import Wide.FinOn
import HandS.ForMost
import HandS.SortInts
import HandS.DictComp
import HandS.Flow
import HandS.Gcd
import HandS.Wide
import HandS.Defaults
import HandS.SetKeys
import HandS.Conv
import KE.SortData
import PyProof.DictCopy
import PyProof.DictUpdate
import PyProof.DictCompW
import HandS.SetFor
import HandS.Strs
import HandS.Zip
import PySem.Challenge.RW_oddcrown_k53_whole_games_without_chance
set_option Elab.async false
set_option linter.all false
set_option maxRecDepth 100000
set_option maxHeartbeats 4200000
/-! graphs: rows of steps, wheels, what comes to a wheel; the plain laws of the program's algorithms -/
namespace OC

/-- one or more steps along R, every place behind the first in S -/
inductive Pt (R : Nat → Nat → Prop) (S : Nat → Prop) : Nat → Nat → Prop
  | one {u v : Nat} : R u v → S v → Pt R S u v
  | cons {u v w : Nat} : R u v → S v → Pt R S v w → Pt R S u w

section
variable {R R' : Nat → Nat → Prop} {S S' T : Nat → Prop} {u v w x : Nat}
theorem Pt.trans (a : Pt R S u v) (b : Pt R S v w) : Pt R S u w := by
  induction a with
  | one h s => exact .cons h s b
  | cons h s _ ih => exact .cons h s (ih b)
theorem Pt.last (a : Pt R S u v) : S v := by
  induction a with
  | one _ s => exact s
  | cons _ _ _ ih => exact ih
theorem Pt.snoc (a : Pt R S u v) (h : R v w) (s : S w) : Pt R S u w := a.trans (.one h s)
theorem Pt.mono (a : Pt R S u v) (hr : ∀ u v, R u v → R' u v) (hs : ∀ v, S v → S' v) : Pt R' S' u v := by
  induction a with
  | one h s => exact .one (hr _ _ h) (hs _ s)
  | cons h s _ ih => exact .cons (hr _ _ h) (hs _ s) ih
theorem Pt.first (a : Pt R S u w) : ∃ v, R u v ∧ S v ∧ (v = w ∨ Pt R S v w) := by
  cases a with
  | one h s => exact ⟨w, h, s, .inl rfl⟩
  | cons h s b => exact ⟨_, h, s, .inr b⟩
/-- from within T, which the steps within S do not leave, with steps that agree there -/
theorem Pt.within (a : Pt R S u v) (hu : T u) (hc : ∀ x y, T x → R x y → S y → T y ∧ R' x y) : Pt R' (fun y => S y ∧ T y) u v := by
  induction a with
  | one h s => exact .one (hc _ _ hu h s).2 ⟨s, (hc _ _ hu h s).1⟩
  | cons h s _ ih => exact .cons (hc _ _ hu h s).2 ⟨s, (hc _ _ hu h s).1⟩ (ih (hc _ _ hu h s).1)
theorem Pt.stays (a : Pt R S u v) (hu : T u) (hc : ∀ x y, T x → R x y → S y → T y) : T v :=
  (Pt.within (R' := R) a hu fun x y h r s => ⟨hc x y h r s, r⟩).last.2
/-- a row of steps lies in T, or it comes by a place that does not -/
theorem Pt.split (a : Pt R S u v) : Pt R (fun y => S y ∧ T y) u v ∨ ∃ x, S x ∧ ¬ T x ∧ Pt R S u x ∧ (x = v ∨ Pt R S x v) := by
  induction a with
  | @one u v h s =>
    by_cases t : T v
    · exact .inl (.one h ⟨s, t⟩)
    · exact .inr ⟨v, s, t, .one h s, .inl rfl⟩
  | @cons u v w h s b ih =>
    by_cases t : T v
    · rcases ih with ih | ⟨x, sx, tx, p, q⟩
      · exact .inl (.cons h ⟨s, t⟩ ih)
      · exact .inr ⟨x, sx, tx, .cons h s p, q⟩
    · exact .inr ⟨v, s, t, .one h s, .inr b⟩
/-- a circle lies in T, or there is a circle through a place that does not -/
theorem Pt.circle (a : Pt R S w w) : Pt R (fun y => S y ∧ T y) w w ∨ ∃ x, S x ∧ ¬ T x ∧ Pt R S x x ∧ Pt R S w x ∧ Pt R S x w := by
  rcases Pt.split (T := T) a with h | ⟨x, sx, tx, p, q⟩
  · exact .inl h
  · rcases q with q | q
    · subst q
      exact .inr ⟨x, sx, tx, a, a, a⟩
    · exact .inr ⟨x, sx, tx, q.trans p, p, q⟩
end

/-- w comes back to itself along marks of at most its own -/
def Wheel (R : Nat → Nat → Prop) (mk : Nat → Nat) (w : Nat) : Prop := Pt R (fun v => mk v ≤ mk w) w w
abbrev Any : Nat → Prop := fun _ => True
/-- from p a way (perhaps of no step) leads to a wheel whose mark has this parity -/
def Comes (R : Nat → Nat → Prop) (mk : Nat → Nat) (par p : Nat) : Prop := ∃ w, (w = p ∨ Pt R Any p w) ∧ mk w % 2 = par ∧ Wheel R mk w
section
variable {R R' : Nat → Nat → Prop} {mk : Nat → Nat} {par p q : Nat} {L : Nat → Prop}
theorem Comes.step (h : R p q) (c : Comes R mk par q) : Comes R mk par p := by
  obtain ⟨w, e, c⟩ := c
  refine ⟨w, .inr ?_, c⟩
  rcases e with rfl | e
  · exact .one h trivial
  · exact .cons h trivial e
theorem Comes.path (h : Pt R Any p q) (c : Comes R mk par q) : Comes R mk par p := by
  induction h with
  | one h _ => exact c.step h
  | cons h _ _ ih => exact (ih c).step h
theorem Comes.next (c : Comes R mk par p) : ∃ q, R p q ∧ Comes R mk par q := by
  obtain ⟨w, e, m, wh⟩ := c
  have a : Pt R Any p w := by
    rcases e with rfl | e
    · exact Pt.mono wh (fun _ _ h => h) fun _ _ => trivial
    · exact e
  obtain ⟨v, h, _, e⟩ := a.first
  refine ⟨v, h, w, ?_, m, wh⟩
  rcases e with e | e
  · exact .inl e.symm
  · exact .inr e
theorem Comes.mono (c : Comes R mk par p) (h : ∀ u v, R u v → R' u v) : Comes R' mk par p := by
  obtain ⟨w, e, m, wh⟩ := c
  exact ⟨w, e.imp id fun a => a.mono h fun _ s => s, m, Pt.mono wh h fun _ s => s⟩
/-- within L, which R does not leave, R' has the same steps -/
theorem Comes.agree (c : Comes R mk par p) (hp : L p) (hc : ∀ x y, L x → R x y → L y ∧ R' x y) : Comes R' mk par p := by
  obtain ⟨w, e, m, wh⟩ := c
  have hw : L w := by
    rcases e with rfl | e
    · exact hp
    · exact e.stays hp fun x y hx r _ => (hc x y hx r).1
  refine ⟨w, e.imp id fun a => (Pt.within (T := L) a hp fun x y hx r _ => hc x y hx r).mono (fun _ _ h => h) fun _ _ => trivial, m, ?_⟩
  exact (Pt.within (T := L) wh hw fun x y hx r _ => hc x y hx r).mono (fun _ _ h => h) fun _ s => s.1
theorem Comes.wheel {w : Nat} (h : Wheel R mk w) (m : mk w % 2 = par) : Comes R mk par w := ⟨w, .inl rfl, m, h⟩
/-- a set that R does not leave, and that holds no such wheel -/
theorem not_comes (hc : ∀ x y, L x → R x y → L y) (hw : ∀ w, L w → mk w % 2 = par → ¬ Wheel R mk w) (hp : L p) : ¬ Comes R mk par p := by
  rintro ⟨w, e, m, wh⟩
  refine hw w ?_ m wh
  rcases e with rfl | e
  · exact hp
  · exact e.stays hp fun x y hx r _ => hc x y hx r
end

/-! ### one way on from each place -/
section
variable {f : Nat → Nat} {R : Nat → Nat → Prop} {mk : Nat → Nat} {S : Nat → Prop} {p q w : Nat}
/-- on a circle all that is reached lies on it -/
theorem circle_all (hR : ∀ u v, R u v → v = f u) (h : Pt R S w w) (a : Pt R Any w q) : S q ∧ (q = w ∨ Pt R S q w) := by
  have key : ∀ x y, (x = w ∨ (Pt R S x w)) → R x y → (S y ∧ (y = w ∨ Pt R S y w)) := by
    intro x y hx hy
    have hx' : Pt R S x w := by
      rcases hx with rfl | hx
      · exact h
      · exact hx
    obtain ⟨v, h1, s, e⟩ := hx'.first
    have : v = y := (hR _ _ h1).trans (hR _ _ hy).symm
    subst this
    exact ⟨s, e⟩
  have : ∀ x, (x = w ∨ Pt R S x w) → Pt R Any x q → (S q ∧ (q = w ∨ Pt R S q w)) := by
    clear a
    intro x hx a
    induction a with
    | one h1 _ => exact key _ _ hx h1
    | cons h1 _ _ ih => exact ih (key _ _ hx h1).2
  exact this w (.inl rfl) a
/-- p is one of the places that come again; m the greatest mark of what it reaches -/
theorem recurrent_val (hR : ∀ u v, R u v → v = f u) (hrec : ∀ q, Pt R Any p q → (p = q ∨ Pt R Any q p)) {m : Nat} {t : Nat} (ht : t = p ∨ Pt R Any p t) (mt : mk t = m) (hm : ∀ q, (q = p ∨ Pt R Any p q) → mk q ≤ m) (he : ∃ q, Pt R Any p q)
    {par : Nat} : Comes R mk par p ↔ m % 2 = par := by
  have loop : Pt R Any p p := by
    obtain ⟨q, h⟩ := he
    rcases hrec q h with e | e
    · subst e; exact h
    · exact h.trans e
  constructor
  · rintro ⟨w, e, wm, wh⟩
    have e1 : Pt R Any p w := by
      rcases e with rfl | e
      · exact loop
      · exact e
    have e2 : Pt R Any w p := by
      rcases hrec w e1 with e | e
      · subst e; exact loop
      · exact e
    have e3 : Pt R Any w t := by
      rcases ht with rfl | ht
      · exact e2
      · exact e2.trans ht
    have h1 : mk t ≤ mk w := (circle_all hR wh e3).1
    have h2 : mk w ≤ m := hm w (.inr e1)
    have : mk w = m := by omega
    rw [← this]; exact wm
  · intro e
    have pt : Pt R Any p t := by
      rcases ht with rfl | ht
      · exact loop
      · exact ht
    have tp : Pt R Any t p := by
      rcases hrec t pt with e | e
      · rw [← e]; exact loop
      · exact e
    refine ⟨t, .inr pt, by rw [mt]; exact e, ?_⟩
    have tt : Pt R Any t t := tp.trans pt
    have : Pt R (fun y => Any y ∧ Pt R Any p y) t t := Pt.within (R' := R) tt pt fun x y hx r _ => ⟨hx.snoc r trivial, r⟩
    exact this.mono (fun _ _ h => h) fun v hv => by rw [mt]; exact hm v (.inr hv.2)
end
end OC
namespace OC
/-! ### won: regions that a side keeps and wins (own: the side's places; E: the steps; A: the arena) -/
def Rt (own : Nat → Prop) (E : Nat → Nat → Prop) (tau : Nat → Nat) (u v : Nat) : Prop := E u v ∧ (own u → v = tau u)
structure Wins (own : Nat → Prop) (E : Nat → Nat → Prop) (mk : Nat → Nat) (par : Nat) (D A : Nat → Prop) (tau : Nat → Nat) : Prop where
  sub : ∀ p, D p → A p
  mine : ∀ p, D p → own p → E p (tau p) ∧ D (tau p)
  yours : ∀ p, D p → ¬ own p → ∀ t, E p t → A t → D t
  good : ∀ w, D w → Pt (Rt own E tau) (fun v => D v ∧ mk v ≤ mk w) w w → mk w % 2 = par
/-- every place of the arena has a step within it -/
def Sub (E : Nat → Nat → Prop) (A : Nat → Prop) : Prop := ∀ p, A p → ∃ t, E p t ∧ A t
/-- found: what is pulled to H within A -/
structure Attr (own : Nat → Prop) (E : Nat → Nat → Prop) (A H found : Nat → Prop) (sg rho : Nat → Nat) : Prop where
  has : ∀ p, H p → found p
  sub : ∀ p, found p → A p
  mine : ∀ p, found p → ¬ H p → own p → E p (sg p) ∧ found (sg p) ∧ rho (sg p) < rho p
  yours : ∀ p, found p → ¬ H p → ¬ own p → ∀ t, E p t → A t → found t ∧ rho t < rho p
  outM : ∀ p, A p → ¬ found p → own p → ∀ t, E p t → A t → ¬ found t
  outY : ∀ p, A p → ¬ found p → ¬ own p → ∃ t, E p t ∧ A t ∧ ¬ found t
section
variable {own : Nat → Prop} {E : Nat → Nat → Prop} {mk : Nat → Nat} {par : Nat} {A B D F H found : Nat → Prop} {tau tau' sg rho : Nat → Nat}
theorem Wins.swap (h : Wins own E mk par D A tau) (he : ∀ p, D p → own p → tau' p = tau p) : Wins own E mk par D A tau' where
  sub := h.sub
  mine := fun p d o => by rw [he p d o]; exact h.mine p d o
  yours := h.yours
  good := fun w d a => h.good w d (by
    have : Pt (Rt own E tau) (fun y => (D y ∧ mk y ≤ mk w) ∧ D y) w w := Pt.within (T := D) a d fun x y hx r s => ⟨s.1, r.1, fun o => by rw [r.2 o, he x hx o]⟩
    exact this.mono (fun _ _ h => h) fun _ s => s.1)
theorem Wins.same {D' : Nat → Prop} (h : Wins own E mk par D A tau) (e : ∀ p, D p ↔ D' p) : Wins own E mk par D' A tau := by
  have : D = D' := funext fun p => propext (e p)
  subst this
  exact h
theorem Wins.arena {A' : Nat → Prop} (h : Wins own E mk par D A tau) (e : ∀ p, A p ↔ A' p) : Wins own E mk par D A' tau := by
  have : A = A' := funext fun p => propext (e p)
  subst this
  exact h
theorem Wins.none : Wins own E mk par (fun _ => False) A tau := ⟨fun _ h => h.elim, fun _ h => h.elim, fun _ h => h.elim, fun _ h => h.elim⟩
/-- an arena that the other side does not leave -/
theorem Wins.lift (h : Wins own E mk par D B tau) (hb : ∀ p, B p → A p) (ht : ∀ p, B p → ¬ own p → ∀ t, E p t → A t → B t) : Wins own E mk par D A tau where
  sub := fun p d => hb p (h.sub p d)
  mine := h.mine
  yours := fun p d o t e a => h.yours p d o t e (ht p (h.sub p d) o t e a)
  good := h.good
/-- .. a lesser arena that holds all of D -/
theorem Wins.less (h : Wins own E mk par D A tau) (hb : ∀ p, B p → A p) (hd : ∀ p, D p → B p) : Wins own E mk par D B tau where
  sub := hd
  mine := h.mine
  yours := fun p d o t e a => h.yours p d o t e (hb t a)
  good := h.good
/-- steps by the strategy within a won region stay in it -/
theorem Wins.stay (h : Wins own E mk par D A tau) {x y : Nat} (hx : D x) (r : Rt own E tau x y) (ha : A y) : D y := by
  by_cases o : own x
  · rw [r.2 o]; exact (h.mine x hx o).2
  · exact h.yours x hx o y r.1 ha
open Classical in
/-- F is won in A, B in what A has beside F: both together are won in A -/
theorem Wins.union (f : Wins own E mk par F A tau) (b : Wins own E mk par B (fun p => A p ∧ ¬ F p) tau') :
    Wins own E mk par (fun p => F p ∨ B p) A (fun p => if F p then tau p else tau' p) where
  sub := fun p d => d.elim (f.sub p) fun d => (b.sub p d).1
  mine := fun p d o => by
    by_cases hf : F p
    · simp only [hf, if_true]; exact ⟨(f.mine p hf o).1, .inl (f.mine p hf o).2⟩
    · simp only [hf, if_false]
      have d := d.resolve_left hf
      exact ⟨(b.mine p d o).1, .inr (b.mine p d o).2⟩
  yours := fun p d o t e a => by
    by_cases hf : F p
    · exact .inl (f.yours p hf o t e a)
    · have d := d.resolve_left hf
      by_cases ht : F t
      · exact .inl ht
      · exact .inr (b.yours p d o t e ⟨a, ht⟩)
  good := fun w d a => by
    have stay : ∀ x y, F x → Rt own E (fun p => if F p then tau p else tau' p) x y → (F y ∨ B y) ∧ mk y ≤ mk w → F y ∧ Rt own E tau x y := fun x y hx r s => by
      have r' : Rt own E tau x y := ⟨r.1, fun o => by have := r.2 o; simp only [hx, if_true] at this; exact this⟩
      exact ⟨f.stay hx r' (s.1.elim (f.sub y) fun z => (b.sub y z).1), r'⟩
    by_cases hw : F w
    · exact f.good w hw ((Pt.within (T := F) a hw stay).mono (fun _ _ h => h) fun y s => ⟨s.2, s.1.2⟩)
    · rcases Pt.circle (T := fun p => ¬ F p) a with c | ⟨x, sx, tx, cx, _, xw⟩
      · have hb : B w := d.resolve_left hw
        refine b.good w hb ?_
        have : Pt (Rt own E tau') (fun y => (((F y ∨ B y) ∧ mk y ≤ mk w) ∧ ¬ F y) ∧ ¬ F y) w w := Pt.within (T := fun p => ¬ F p) c hw fun x y hx r s => ⟨s.2, r.1, fun o => by have := r.2 o; simp only [hx, if_false] at this; exact this⟩
        exact this.mono (fun _ _ h => h) fun y s => ⟨s.1.1.1.resolve_left s.2, s.1.1.2⟩
      · have fx : F x := Classical.not_not.mp tx
        exact absurd (Pt.stays (T := F) xw fx fun x y hx r s => (stay x y hx r s).1) hw
open Classical in
/-- what is pulled to a won region is won -/
theorem Attr.wins (t : Attr own E A H found sg rho) (h : Wins own E mk par H A tau) : Wins own E mk par found A (fun p => if H p then tau p else sg p) where
  sub := t.sub
  mine := fun p d o => by
    by_cases hh : H p
    · simp only [hh, if_true]; exact ⟨(h.mine p hh o).1, t.has _ (h.mine p hh o).2⟩
    · simp only [hh, if_false]; exact ⟨(t.mine p d hh o).1, (t.mine p d hh o).2.1⟩
  yours := fun p d o q e a => by
    by_cases hh : H p
    · exact t.has _ (h.yours p hh o q e a)
    · exact (t.yours p d hh o q e a).1
  good := fun w d a => by
    have stay : ∀ x y, H x → Rt own E (fun p => if H p then tau p else sg p) x y → found y ∧ mk y ≤ mk w → H y ∧ Rt own E tau x y := fun x y hx r s => by
      have r' : Rt own E tau x y := ⟨r.1, fun o => by have := r.2 o; simp only [hx, if_true] at this; exact this⟩
      exact ⟨h.stay hx r' (t.sub y s.1), r'⟩
    have fall : ∀ x y, Pt (Rt own E (fun p => if H p then tau p else sg p)) (fun v => found v ∧ mk v ≤ mk w) x y → found x → ¬ H x → H y ∨ rho y < rho x := by
      intro x y c
      induction c with
      | @one u v r s =>
        intro fu hu
        by_cases o : own u
        · have := r.2 o
          simp only [hu, if_false] at this
          subst this
          exact .inr (t.mine u fu hu o).2.2
        · exact .inr (t.yours u fu hu o v r.1 (t.sub v s.1)).2
      | @cons u v z r s c ih =>
        intro fu hu
        have lt : rho v < rho u := by
          by_cases o : own u
          · have := r.2 o
            simp only [hu, if_false] at this
            subst this
            exact (t.mine u fu hu o).2.2
          · exact (t.yours u fu hu o v r.1 (t.sub v s.1)).2
        by_cases hv : H v
        · exact .inl (Pt.stays (T := H) c hv fun x y hx r s => (stay x y hx r s).1)
        · rcases ih s.1 hv with z | z
          · exact .inl z
          · exact .inr (by omega)
    by_cases hw : H w
    · exact h.good w hw ((Pt.within (T := H) a hw stay).mono (fun _ _ h => h) fun y s => ⟨s.2, s.1.2⟩)
    · rcases fall w w a d hw with z | z
      · exact absurd z hw
      · exact absurd z (Nat.lt_irrefl _)
open Classical in
/-- the greatest mark is the side's: what is pulled to it, and a rest that is won -/
theorem Attr.top {top : Nat} {nu : Nat → Nat} (t : Attr own E A (fun p => A p ∧ mk p = top) found sg rho) (hm : ∀ p, A p → mk p ≤ top) (hp : top % 2 = par) (hn : ∀ p, A p → mk p = top → own p → E p (nu p) ∧ A (nu p))
    (r : Wins own E mk par (fun p => A p ∧ ¬ found p) (fun p => A p ∧ ¬ found p) tau) : Wins own E mk par A A (fun p => if found p then (if mk p = top then nu p else sg p) else tau p) where
  sub := fun _ h => h
  mine := fun p a o => by
    by_cases hf : found p
    · by_cases ht : mk p = top
      · simp only [hf, ht, if_true]; exact hn p a ht o
      · simp only [hf, ht, if_true, if_false]
        have := t.mine p hf (fun z => ht z.2) o
        exact ⟨this.1, t.sub _ this.2.1⟩
    · simp only [hf, if_false]
      have := r.mine p ⟨a, hf⟩ o
      exact ⟨this.1, this.2.1⟩
  yours := fun _ _ _ _ _ a => a
  good := fun w d a => by
    have toTop : ∀ x, A x → mk x ≤ mk w → mk x = top → mk w % 2 = par := fun x ax le e => by
      have := hm w d
      have : mk w = top := by omega
      rw [this]; exact hp
    have fall : ∀ x y, Pt (Rt own E (fun p => if found p then (if mk p = top then nu p else sg p) else tau p)) (fun v => A v ∧ mk v ≤ mk w) x y → found x → ¬ mk x = top → (∃ g, A g ∧ mk g ≤ mk w ∧ mk g = top) ∨ rho y < rho x := by
      intro x y c
      induction c with
      | @one u v r s =>
        intro fu hu
        by_cases o : own u
        · have := r.2 o
          simp only [fu, hu, if_true, if_false] at this
          subst this
          exact .inr (t.mine u fu (fun z => hu z.2) o).2.2
        · exact .inr (t.yours u fu (fun z => hu z.2) o v r.1 s.1).2
      | @cons u v z r s c ih =>
        intro fu hu
        have lt : rho v < rho u ∧ found v := by
          by_cases o : own u
          · have := r.2 o
            simp only [fu, hu, if_true, if_false] at this
            subst this
            have := t.mine u fu (fun z => hu z.2) o
            exact ⟨this.2.2, this.2.1⟩
          · have := t.yours u fu (fun z => hu z.2) o v r.1 s.1
            exact ⟨this.2, this.1⟩
        by_cases hv : mk v = top
        · exact .inl ⟨v, s.1, s.2, hv⟩
        · rcases ih lt.2 hv with z | z
          · exact .inl z
          · exact .inr (by omega)
    rcases Pt.circle (T := fun p => ¬ found p) a with c | ⟨x, sx, tx, cx, _, _⟩
    · have hw : ¬ found w := c.last.2
      refine r.good w ⟨d, hw⟩ ?_
      have : Pt (Rt own E tau) (fun y => ((A y ∧ mk y ≤ mk w) ∧ ¬ found y) ∧ ¬ found y) w w := Pt.within (T := fun p => ¬ found p) c hw fun x y hx r s => ⟨s.2, r.1, fun o => by have := r.2 o; simp only [hx, if_false] at this; exact this⟩
      exact this.mono (fun _ _ h => h) fun y s => ⟨⟨s.1.1.1, s.2⟩, s.1.1.2⟩
    · have fx : found x := Classical.not_not.mp tx
      by_cases hx : mk x = top
      · exact toTop x sx.1 sx.2 hx
      · rcases fall x x cx fx hx with ⟨g, ag, le, e⟩ | z
        · exact toTop g ag le e
        · exact absurd z (Nat.lt_irrefl _)
/-- what is left beside the pulled is an arena -/
theorem Attr.subgame (t : Attr own E A H found sg rho) (s : Sub E A) : Sub E (fun p => A p ∧ ¬ found p) := fun p ⟨a, nf⟩ => by
  by_cases o : own p
  · obtain ⟨q, e, aq⟩ := s p a
    exact ⟨q, e, aq, t.outM p a nf o q e aq⟩
  · obtain ⟨q, e, aq, nq⟩ := t.outY p a nf o
    exact ⟨q, e, aq, nq⟩
/-- nothing of a region that the one side keeps is pulled by the other to what lies beside it -/
theorem Attr.apart {own' : Nat → Prop} {par' : Nat} {G lost : Nat → Prop} (hw : Wins own' E mk par' G A tau') (ho : ∀ p, own' p ↔ ¬ own p) (t : Attr own E A lost found sg rho) (hl : ∀ p, G p → ¬ lost p) (s : Sub E A) :
    ∀ n p, rho p ≤ n → G p → ¬ found p := by
  intro n
  induction n with
  | zero =>
    intro p hr g f
    by_cases o : own p
    · have := t.mine p f (hl p g) o; omega
    · have := hw.mine p g ((ho p).mpr o)
      have := t.yours p f (hl p g) o _ this.1 (hw.sub _ this.2)
      omega
  | succ n ih =>
    intro p hr g f
    by_cases o : own p
    · have m := t.mine p f (hl p g) o
      exact ih _ (by omega) (hw.yours p g (fun z => ((ho p).mp z) o) _ m.1 (t.sub _ m.2.1)) m.2.1
    · have m := hw.mine p g ((ho p).mpr o)
      have y := t.yours p f (hl p g) o _ m.1 (hw.sub _ m.2)
      exact ih _ (by omega) m.2 y.1
end
end OC
namespace OC
/-! ### keeping: places from which a fixed way leads to a wheel -/
structure Cert (f mk : Nat → Nat) (par : Nat) (Fx : Nat → Prop) (st tp ds : Nat → Nat) : Prop where
  step : ∀ p, Fx p → Fx (f p)
  low : ∀ p, Fx p → mk p ≤ st p
  top : ∀ p, Fx p → Fx (tp p) ∧ st (tp p) = st p ∧ mk (tp p) = st p ∧ tp (tp p) = tp p
  odd : ∀ p, Fx p → st p % 2 = par
  go : ∀ p, Fx p → st (f p) < st p ∨ (st (f p) = st p ∧ tp (f p) = tp p ∧ (p = tp p ∨ ds (f p) < ds p))
section
variable {f f' mk : Nat → Nat} {par : Nat} {Fx : Nat → Prop} {st tp ds : Nat → Nat} {R : Nat → Nat → Prop}
theorem Cert.nil : Cert f mk par (fun _ => False) st tp ds := ⟨fun _ h => h.elim, fun _ h => h.elim, fun _ h => h.elim, fun _ h => h.elim, fun _ h => h.elim⟩
theorem Cert.congr (h : Cert f mk par Fx st tp ds) (e : ∀ p, Fx p → f' p = f p) : Cert f' mk par Fx st tp ds :=
  ⟨fun p hp => by rw [e p hp]; exact h.step p hp, h.low, h.top, h.odd, fun p hp => by rw [e p hp]; exact h.go p hp⟩
theorem Cert.same {Fy : Nat → Prop} (h : Cert f mk par Fx st tp ds) (e : ∀ p, Fx p ↔ Fy p) : Cert f mk par Fy st tp ds := by
  have : Fx = Fy := funext fun p => propext (e p)
  subst this
  exact h
/-- from p the way leads to a lesser stage, or to its top, all along marks of at most the stage -/
theorem Cert.toTop (h : Cert f mk par Fx st tp ds) (hR : ∀ p, Fx p → R p (f p)) : ∀ n p, ds p ≤ n → Fx p →
    (∃ q, Pt R Any p q ∧ Fx q ∧ st q < st p) ∨ p = tp p ∨ Pt R (fun v => mk v ≤ st p) p (tp p) := by
  intro n
  induction n with
  | zero =>
    intro p hd hp
    rcases h.go p hp with g | ⟨g1, g2, g3 | g3⟩
    · exact .inl ⟨f p, .one (hR p hp) trivial, h.step p hp, g⟩
    · exact .inr (.inl g3)
    · omega
  | succ n ih =>
    intro p hd hp
    rcases h.go p hp with g | ⟨g1, g2, g3 | g3⟩
    · exact .inl ⟨f p, .one (hR p hp) trivial, h.step p hp, g⟩
    · exact .inr (.inl g3)
    · have lo : mk (f p) ≤ st p := by rw [← g1]; exact h.low _ (h.step p hp)
      rcases ih (f p) (by omega) (h.step p hp) with ⟨q, a, hq, lt⟩ | e | a
      · exact .inl ⟨q, .cons (hR p hp) trivial a, hq, by omega⟩
      · refine .inr (.inr ?_)
        have e' : tp p = f p := by rw [← g2]; exact e.symm
        rw [e']
        exact .one (hR p hp) lo
      · refine .inr (.inr ?_)
        rw [g1, g2] at a
        exact .cons (hR p hp) lo a
theorem Cert.fin (h : Cert f mk par Fx st tp ds) (hR : ∀ p, Fx p → R p (f p)) (p : Nat) (hp : Fx p) (less : ∀ q, Fx q → st q < st p → Comes R mk par q) : Comes R mk par p := by
  have ht := h.top p hp
  -- at the top
  have atTop : Comes R mk par (tp p) := by
    rcases h.go (tp p) ht.1 with g | ⟨g1, g2, _⟩
    · exact (less _ (h.step _ ht.1) (by omega)).step (hR _ ht.1)
    · have lo : mk (f (tp p)) ≤ st p := by
        have := h.low _ (h.step _ ht.1)
        omega
      have e : tp (f (tp p)) = tp p := by rw [g2, ht.2.2.2]
      rcases h.toTop hR _ (f (tp p)) (Nat.le_refl _) (h.step _ ht.1) with ⟨q, a, hq, lt⟩ | e' | a
      · exact (Comes.path a (less q hq (by omega))).step (hR _ ht.1)
      · refine Comes.wheel ?_ (by rw [ht.2.2.1]; exact h.odd p hp)
        rw [e] at e'
        have r := hR _ ht.1
        rw [e'] at r lo
        exact .one r (by omega)
      · refine Comes.wheel ?_ (by rw [ht.2.2.1]; exact h.odd p hp)
        rw [e] at a
        refine .cons (hR _ ht.1) (by omega) (a.mono (fun _ _ r => r) fun v hv => ?_)
        have hv' : mk v ≤ st (f (tp p)) := hv
        omega
  rcases h.toTop hR _ p (Nat.le_refl _) hp with ⟨q, a, hq, lt⟩ | e | a
  · exact Comes.path a (less q hq lt)
  · rw [e]; exact atTop
  · exact Comes.path (a.mono (fun _ _ r => r) fun _ _ => trivial) atTop
theorem Cert.comes (h : Cert f mk par Fx st tp ds) (hR : ∀ p, Fx p → R p (f p)) : ∀ n p, st p ≤ n → Fx p → Comes R mk par p := by
  intro n
  induction n with
  | zero =>
    intro p hs hp
    exact h.fin hR p hp fun q _ lt => by omega
  | succ n ih =>
    intro p hs hp
    exact h.fin hR p hp fun q hq lt => ih q (by omega) hq
open Classical in
/-- a further company C of the stage m with its top t -/
theorem Cert.add (h : Cert f mk par Fx st tp ds) {C : Nat → Prop} {t m : Nat} {far : Nat → Nat} (hf : ∀ p, Fx p → f' p = f p) (hC : ∀ p, C p → ¬ Fx p → C (f' p) ∧ (p = t ∨ far (f' p) < far p)) (low : ∀ p, C p → mk p ≤ m)
    (ct : C t) (mt : mk t = m) (nt : ¬ Fx t) (old : ∀ p, C p → Fx p → st p < m) (hm : m % 2 = par) :
    Cert f' mk par (fun p => Fx p ∨ C p) (fun p => if Fx p then st p else m) (fun p => if Fx p then tp p else t) (fun p => if Fx p then ds p else far p) := by
  have h' := h.congr hf
  refine ⟨fun p hp => ?_, fun p hp => ?_, fun p hp => ?_, fun p hp => ?_, fun p hp => ?_⟩
  · by_cases q : Fx p
    · exact .inl (h'.step p q)
    · exact .inr (hC p (hp.resolve_left q) q).1
  · by_cases q : Fx p
    · simp only [q, if_true]; exact h.low p q
    · simp only [q, if_false]; exact low p (hp.resolve_left q)
  · by_cases q : Fx p
    · have z := h.top p q
      simp only [q, z.1, if_true]
      exact ⟨.inl trivial, z.2⟩
    · simp only [q, nt, if_false]
      exact ⟨.inr ct, trivial, mt, trivial⟩
  · by_cases q : Fx p
    · simp only [q, if_true]; exact h.odd p q
    · simp only [q, if_false]; exact hm
  · by_cases q : Fx p
    · simp only [q, h'.step p q, if_true]; exact h'.go p q
    · have c := hC p (hp.resolve_left q) q
      by_cases q' : Fx (f' p)
      · simp only [q, q', if_true, if_false]; exact .inl (old _ c.1 q')
      · simp only [q, q', if_false]; exact .inr ⟨trivial, trivial, c.2⟩
end
/-! ### the best reply -/
section
variable {R R' : Nat → Nat → Prop} {mk : Nat → Nat} {par : Nat} {Fx : Nat → Prop} {f f' : Nat → Nat}
def Fn (f : Nat → Nat) : Nat → Nat → Prop := fun u v => v = f u
theorem comes_fn {p : Nat} : Comes (Fn f) mk par p ↔ Comes (Fn f) mk par (f p) := by
  constructor
  · intro c
    obtain ⟨q, e, c⟩ := c.next
    have e : q = f p := e
    subst e
    exact c
  · exact fun c => c.step (show Fn f p (f p) from rfl)
/-- nothing more to switch: the reply's places are those of the game -/
theorem best_end {Ok : Nat → Prop} (hok : ∀ p q, Ok p → R p q → Ok q) (hf : ∀ p, Ok p → R p (f p)) (hw : ∀ w, Ok w → mk w % 2 = par → Wheel R mk w → Fx w) (hx : ∀ p, Fx p → Comes (Fn f) mk par p)
    (hn : ∀ p q, Ok p → ¬ Fx p → R p q → ¬ Comes (Fn f) mk par p → ¬ Comes (Fn f) mk par q) {p : Nat} (hp : Ok p) : Comes R mk par p ↔ Comes (Fn f) mk par p := by
  constructor
  · intro c
    refine Classical.byContradiction fun nc => ?_
    refine not_comes (L := fun p => Ok p ∧ ¬ Comes (Fn f) mk par p) (fun x y hx' r => ⟨hok x y hx'.1 r, hn x y hx'.1 (fun z => hx'.2 (hx x z)) r hx'.2⟩) (fun w hw' m wh => hw'.2 (hx w (hw w hw'.1 m wh))) ⟨hp, nc⟩ c
  · intro c
    exact (c.agree (R' := R) (L := Ok) hp fun x y hx' e => by
      have e : y = f x := e
      subst e
      exact ⟨hok _ _ hx' (hf x hx'), hf x hx'⟩)
/-- switching to places that come to a wheel leaves those that do, and adds one -/
theorem switch_keep (hs : ∀ p, f' p = f p ∨ (¬ Comes (Fn f) mk par p ∧ Comes (Fn f) mk par (f' p))) {p : Nat} (c : Comes (Fn f) mk par p) : Comes (Fn f') mk par p :=
  c.agree (L := fun p => Comes (Fn f) mk par p) c fun x y hx e => by
    have e : y = f x := e
    subst e
    refine ⟨comes_fn.mp hx, ?_⟩
    rcases hs x with z | z
    · exact z.symm
    · exact absurd hx z.1
theorem switch_new (hs : ∀ p, f' p = f p ∨ (¬ Comes (Fn f) mk par p ∧ Comes (Fn f) mk par (f' p))) {p : Nat} (c : Comes (Fn f) mk par (f' p)) : Comes (Fn f') mk par p :=
  comes_fn.mpr (switch_keep hs c)
/-- for the other side: the places that do not come to a wheel stay so; own: the places of the side that switches; R: the steps with its strategy put in -/
theorem keep_less {N : Nat → Prop} (hN : ∀ p, N p → ¬ Comes R mk par p) (hc : ∀ x y, N x → R x y → N y) (ha : ∀ x y, N x → (R' x y → R x y)) {p : Nat} (hp : N p) : ¬ Comes R' mk par p := fun c =>
  hN p hp (c.agree (L := N) hp fun x y hx r => ⟨hc x y hx (ha x y hx r), ha x y hx r⟩)
end
end OC
namespace OC
/-! ### counting -/
open Classical in
noncomputable def cnt (n : Nat) (P : Nat → Prop) : Nat := (List.range n).countP fun x => decide (P x)
theorem countP_le {α : Type} {p q : α → Bool} : ∀ {l : List α}, (∀ x ∈ l, p x = true → q x = true) → l.countP p ≤ l.countP q
  | [], _ => Nat.le_refl _
  | a :: l, h => by
    have ih := countP_le (l := l) fun x hx => h x (List.mem_cons_of_mem _ hx)
    have ha := h a List.mem_cons_self
    rw [List.countP_cons, List.countP_cons]
    cases hp : p a with
    | true => rw [ha hp]; simp; exact ih
    | false => simp; omega
theorem countP_lt {α : Type} {p q : α → Bool} : ∀ {l : List α}, (∀ x ∈ l, p x = true → q x = true) → (∃ x ∈ l, q x = true ∧ p x = false) → l.countP p < l.countP q
  | [], _, ⟨x, hx, _⟩ => nomatch hx
  | a :: l, h, ⟨x, hx, h1, h2⟩ => by
    have ha := h a List.mem_cons_self
    have le := countP_le (l := l) fun x hx => h x (List.mem_cons_of_mem _ hx)
    rw [List.countP_cons, List.countP_cons]
    rcases List.mem_cons.mp hx with hx | hx
    · subst hx; rw [h1, h2]; simp; omega
    · have ih := countP_lt (l := l) (fun x hx => h x (List.mem_cons_of_mem _ hx)) ⟨x, hx, h1, h2⟩
      cases hp : p a with
      | true => rw [ha hp]; simp; exact ih
      | false => simp; omega
open Classical in
theorem cnt_le {n : Nat} {P Q : Nat → Prop} (h : ∀ x, x < n → P x → Q x) : cnt n P ≤ cnt n Q :=
  countP_le fun x hx p => decide_eq_true (h x (List.mem_range.mp hx) (of_decide_eq_true p))
open Classical in
theorem cnt_lt {n : Nat} {P Q : Nat → Prop} (h : ∀ x, x < n → P x → Q x) {x : Nat} (hx : x < n) (q : Q x) (p : ¬ P x) : cnt n P < cnt n Q :=
  countP_lt (fun x hx p => decide_eq_true (h x (List.mem_range.mp hx) (of_decide_eq_true p))) ⟨x, List.mem_range.mpr hx, decide_eq_true q, decide_eq_false p⟩
theorem cnt_bound {n : Nat} {P : Nat → Prop} : cnt n P ≤ n := by
  have := List.countP_le_length (p := fun x => @decide (P x) (Classical.propDecidable _)) (l := List.range n)
  rw [List.length_range] at this
  exact this
/-- a greatest value below a bound -/
theorem greatest {P : Nat → Prop} {mk : Nat → Nat} : ∀ (k b : Nat), (∀ x, P x → mk x ≤ b) → (∃ x, P x ∧ b ≤ mk x + k) → ∃ t, P t ∧ ∀ x, P x → mk x ≤ mk t
  | 0, b, hb, ⟨x, px, hx⟩ => ⟨x, px, fun y py => by have := hb y py; omega⟩
  | k + 1, b, hb, ⟨x, px, hx⟩ => by
    by_cases h : ∃ t, P t ∧ mk t = b
    · obtain ⟨t, pt, e⟩ := h
      exact ⟨t, pt, fun y py => by have := hb y py; omega⟩
    · by_cases hz : b = 0
      · exact absurd ⟨x, px, by have := hb x px; omega⟩ h
      · refine greatest k (b - 1) (fun y py => ?_) ⟨x, px, by omega⟩
        have h1 := hb y py
        have h2 : mk y ≠ b := fun e => h ⟨y, py, e⟩
        omega
section
variable {R : Nat → Nat → Prop} {mk : Nat → Nat} {n p : Nat}
/-- from every place a place is reached that is reached from all that it reaches -/
theorem some_recurrent (hR : ∀ p q, p < n → R p q → q < n) : ∀ (k p : Nat), cnt n (fun q => q = p ∨ Pt R Any p q) ≤ k → p < n → ∃ q, (q = p ∨ Pt R Any p q) ∧ q < n ∧ ∀ r, Pt R Any q r → (q = r ∨ Pt R Any r q) := by
  have lt : ∀ {p q : Nat}, p < n → Pt R Any p q → q < n := fun hp a => a.stays (T := fun x => x < n) hp fun x y hx r _ => hR x y hx r
  intro k
  induction k with
  | zero =>
    intro p hk hp
    have := cnt_lt (n := n) (P := fun _ => False) (Q := fun q => q = p ∨ Pt R Any p q) (fun _ _ h => h.elim) hp (.inl rfl) id
    omega
  | succ k ih =>
    intro p hk hp
    by_cases h : ∀ r, Pt R Any p r → (p = r ∨ Pt R Any r p)
    · exact ⟨p, .inl rfl, hp, h⟩
    · obtain ⟨r, h⟩ := Classical.not_forall.mp h
      obtain ⟨a, h⟩ := Classical.not_imp.mp h
      have c : cnt n (fun q => q = r ∨ Pt R Any r q) < cnt n (fun q => q = p ∨ Pt R Any p q) :=
        cnt_lt (fun x _ z => .inr (by rcases z with rfl | z; exact a; exact a.trans z)) hp (.inl rfl) h
      obtain ⟨q, e, hq⟩ := ih r (by omega) (lt hp a)
      refine ⟨q, .inr ?_, hq⟩
      rcases e with rfl | e
      · exact a
      · exact a.trans e
/-- every place comes to some wheel -/
theorem some_wheel (hR : ∀ p q, p < n → R p q → q < n) (hs : ∀ p, p < n → ∃ q, R p q) (hp : p < n) : ∃ w, (w = p ∨ Pt R Any p w) ∧ Wheel R mk w := by
  obtain ⟨q, e, hq, hrec⟩ := some_recurrent hR _ p (Nat.le_refl _) hp
  obtain ⟨r, hr⟩ := hs q hq
  have a : Pt R Any q r := .one hr trivial
  have loop : Pt R Any q q := by
    rcases hrec r a with e | e
    · rw [← e] at a; exact a
    · exact a.trans e
  have bound : ∃ b, ∀ x, x < n → mk x ≤ b := by
    clear hp hq e loop hrec hr a hs hR
    induction n with
    | zero => exact ⟨0, fun x h => absurd h (Nat.not_lt_zero x)⟩
    | succ n ih =>
      obtain ⟨b, h⟩ := ih
      refine ⟨b + mk n, fun x hx => ?_⟩
      by_cases e : x = n
      · subst e; omega
      · have := h x (by omega); omega
  obtain ⟨b, hb⟩ := bound
  have lt : ∀ {p q : Nat}, p < n → Pt R Any p q → q < n := fun hp a => a.stays (T := fun x => x < n) hp fun x y hx r _ => hR x y hx r
  obtain ⟨t, ht, hm⟩ := greatest (P := fun x => Pt R Any q x) (mk := mk) b b (fun x hx => hb x (lt hq hx)) ⟨q, loop, by omega⟩
  have tq : Pt R Any t q := by
    rcases hrec t ht with e | e
    · rw [← e]; exact loop
    · exact e
  refine ⟨t, .inr ?_, ?_⟩
  · rcases e with rfl | e
    · exact ht
    · exact e.trans ht
  · have : Pt R (fun y => Any y ∧ Pt R Any q y) t t := Pt.within (R' := R) (tq.trans ht) ht fun x y hx r _ => ⟨hx.snoc r trivial, r⟩
    exact this.mono (fun _ _ h => h) fun v hv => hm v hv.2
end
/-! ### the search for the best strategy of ours -/
section
variable {own : Nat → Prop} {E : Nat → Nat → Prop} {mk tau tau' plan : Nat → Nat} {n p : Nat}
/-- the places from which the others reach an odd wheel against the strategy -/
def Zero (own : Nat → Prop) (E : Nat → Nat → Prop) (mk tau : Nat → Nat) (p : Nat) : Prop := Comes (Rt own E tau) mk 1 p
theorem switch_N (hs : ∀ p, own p → tau' p = tau p ∨ (Zero own E mk tau p ∧ ¬ Zero own E mk tau (tau' p))) (h : ¬ Zero own E mk tau p) : ¬ Zero own E mk tau' p :=
  keep_less (R := Rt own E tau) (N := fun p => ¬ Zero own E mk tau p) (fun _ h => h) (fun x y hx r hy => hx (Comes.step r hy)) (fun x y hx r => ⟨r.1, fun o => by
    rcases hs x o with z | z
    · rw [r.2 o, z]
    · exact absurd z.1 hx⟩) h
theorem switch_Z (hs : ∀ p, own p → tau' p = tau p ∨ (Zero own E mk tau p ∧ ¬ Zero own E mk tau (tau' p))) (o : own p) (h : ¬ Zero own E mk tau (tau' p)) : ¬ Zero own E mk tau' p := fun c => by
  obtain ⟨q, r, c⟩ := Comes.next c
  rw [r.2 o] at c
  exact switch_N hs h c
theorem raise_N {K : Nat → Prop} (hK : ∀ p, K p → Zero own E mk tau p) (hs : ∀ p, own p → ¬ K p → tau' p = tau p) (h : ¬ Zero own E mk tau p) : ¬ Zero own E mk tau' p :=
  keep_less (R := Rt own E tau) (N := fun p => ¬ Zero own E mk tau p) (fun _ h => h) (fun x y hx r hy => hx (Comes.step r hy)) (fun x y hx r => ⟨r.1, fun o => by rw [r.2 o, hs x o fun k => hx (hK x k)]⟩) h
theorem raise_K {K : Nat → Prop} (hK : Wins own E mk 0 K (Zero own E mk tau) plan) (hs : ∀ p, own p → ¬ K p → tau' p = tau p) (hp : ∀ p, own p → K p → tau' p = plan p) (h : K p) : ¬ Zero own E mk tau' p := by
  have keepN : ∀ p, ¬ Zero own E mk tau p → ¬ Zero own E mk tau' p := fun p => raise_N hK.sub hs
  have stepN : ∀ x y, ¬ Zero own E mk tau x → Rt own E tau' x y → ¬ Zero own E mk tau y := fun x y hx r hy =>
    hx (Comes.step (R := Rt own E tau) ⟨r.1, fun o => by rw [r.2 o, hs x o fun k => hx (hK.sub x k)]⟩ hy)
  have stepK : ∀ x y, K x → Rt own E tau' x y → K y ∨ ¬ Zero own E mk tau y := fun x y hx r => by
    by_cases o : own x
    · rw [r.2 o, hp x o hx]; exact .inl (hK.mine x hx o).2
    · by_cases z : Zero own E mk tau y
      · exact .inl (hK.yours x hx o y r.1 z)
      · exact .inr z
  refine not_comes (L := fun p => K p ∨ ¬ Zero own E mk tau p) (fun x y hx r => ?_) (fun w hw m wh => ?_) (.inl h)
  · rcases hx with hx | hx
    · exact stepK x y hx r
    · exact .inr (stepN x y hx r)
  · rcases hw with hw | hw
    · rcases Pt.circle (T := K) wh with c | ⟨x, sx, kx, _, wx, xw⟩
      · have : Pt (Rt own E plan) (fun y => (mk y ≤ mk w ∧ K y) ∧ K y) w w := Pt.within (T := K) c hw fun x y hx r s => ⟨s.2, r.1, fun o => by rw [r.2 o, hp x o hx]⟩
        have := hK.good w hw (this.mono (fun _ _ h => h) fun y s => ⟨s.2, s.1.1⟩)
        omega
      · -- the circle leaves K: then it lies beside the zeros from there on
        have nx : ¬ Zero own E mk tau x := by
          have : K x ∨ ¬ Zero own E mk tau x := Pt.stays (T := fun p => K p ∨ ¬ Zero own E mk tau p) wx (.inl hw) fun a b ha r _ => ha.elim (fun k => stepK a b k r) fun k => .inr (stepN a b k r)
          exact this.resolve_left kx
        have nw : ¬ Zero own E mk tau w := Pt.stays (T := fun p => ¬ Zero own E mk tau p) xw nx fun a b ha r _ => stepN a b ha r
        exact nw (hK.sub w hw)
    · exact keepN w hw (Comes.wheel wh m)
/-- the end, where ours alone has a choice -/
theorem end_ours (hE : ∀ p q, p < n → E p q → q < n) (hown : ∀ p, p < n → own p → E p (tau p)) (hsome : ∀ p, p < n → ∃ q, E p q) (one : ∀ p, p < n → ¬ own p → ∀ a b, E p a → E p b → a = b)
    (hno : ∀ p, p < n → own p → Zero own E mk tau p → ∀ q, E p q → Zero own E mk tau q) {sg : Nat → Nat} (hk : Wins (fun p => ¬ own p) E mk 1 (fun p => p < n ∧ Zero own E mk tau p) (fun p => p < n ∧ Zero own E mk tau p) sg) (hp : p < n) :
    Zero own E mk tau p ↔ ¬ Comes E mk 0 p := by
  constructor
  · intro z
    have step : ∀ x y, (x < n ∧ Zero own E mk tau x) → E x y → (y < n ∧ Zero own E mk tau y) := fun x y hx e => by
      refine ⟨hE x y hx.1 e, ?_⟩
      by_cases o : own x
      · exact hno x hx.1 o hx.2 y e
      · obtain ⟨q, r, c⟩ := Comes.next hx.2
        rw [one x hx.1 o y q e r.1]
        exact c
    refine not_comes (L := fun p => p < n ∧ Zero own E mk tau p) step (fun w hw m wh => ?_) ⟨hp, z⟩
    have : Pt (Rt (fun p => ¬ own p) E sg) (fun y => mk y ≤ mk w ∧ (y < n ∧ Zero own E mk tau y)) w w := Pt.within (T := fun p => p < n ∧ Zero own E mk tau p) wh hw fun x y hx e _ =>
      ⟨step x y hx e, e, fun o => one x hx.1 o y (sg x) e (hk.mine x hx o).1⟩
    have := hk.good w hw (this.mono (fun _ _ h => h) fun y s => ⟨s.2, s.1⟩)
    omega
  · intro nc
    refine Classical.byContradiction fun nz => nc ?_
    obtain ⟨w, e, wh⟩ := some_wheel (R := Rt own E tau) (mk := mk) (n := n) (fun p q h r => hE p q h r.1) (fun p h => by
      by_cases o : own p
      · exact ⟨tau p, hown p h o, fun _ => rfl⟩
      · obtain ⟨q, e⟩ := hsome p h
        exact ⟨q, e, fun z => absurd z o⟩) hp
    have par : mk w % 2 = 0 := by
      by_cases h : mk w % 2 = 1
      · exact absurd ⟨w, e, h, wh⟩ nz
      · omega
    exact Comes.mono (R := Rt own E tau) ⟨w, e, par, wh⟩ fun _ _ r => r.1
/-- the end, where the others alone have a choice -/
theorem end_theirs (hown : ∀ p, own p → E p (tau p)) (one : ∀ p, own p → ∀ a b, E p a → E p b → a = b) : Zero own E mk tau p ↔ Comes E mk 1 p :=
  ⟨fun c => Comes.mono c fun _ _ r => r.1, fun c => Comes.mono c fun u v e => ⟨e, fun o => one u o v (tau u) e (hown u o)⟩⟩
end
end OC
namespace OC
/-! ### games without chance -/
inductive Kd where
  | draw | ours | theirs
  deriving DecidableEq
structure Pl where
  mark : Nat
  kd : Kd
  ts : List Nat
abbrev Gm := List Pl
def tsOf (G : Gm) (p : Nat) : List Nat := (G[p]?.map Pl.ts).getD []
def mkOf (G : Gm) (p : Nat) : Nat := (G[p]?.map Pl.mark).getD 0
def kdOf (G : Gm) (p : Nat) : Kd := (G[p]?.map Pl.kd).getD .draw
/-- a step -/
def Ed (G : Gm) (u v : Nat) : Prop := v ∈ tsOf G u
section
variable {G : Gm} {p : Nat} {pl : Pl}
theorem ts_at (h : G[p]? = some pl) : tsOf G p = pl.ts := by unfold tsOf; rw [h]; rfl
theorem mk_at (h : G[p]? = some pl) : mkOf G p = pl.mark := by unfold mkOf; rw [h]; rfl
theorem kd_at (h : G[p]? = some pl) : kdOf G p = pl.kd := by unfold kdOf; rw [h]; rfl
theorem pl_at (h : p < G.length) : ∃ pl, G[p]? = some pl := ⟨G[p], List.getElem?_eq_getElem h⟩
end
/-- a game: few places, small marks, places led to that are there; a draw has one branch -/
structure Wf (G : Gm) : Prop where
  len : G.length ≤ 24
  mark : ∀ p, p < G.length → mkOf G p ≤ 9
  some : ∀ p, p < G.length → 1 ≤ (tsOf G p).length ∧ (tsOf G p).length ≤ 6
  to : ∀ p, p < G.length → ∀ t ∈ tsOf G p, t < G.length
  one : ∀ p, p < G.length → kdOf G p = .draw → (tsOf G p).length = 1
section
variable {G : Gm} {p q : Nat}
theorem ed_lt (h : Ed G p q) : p < G.length := by
  unfold Ed tsOf at h
  cases e : G[p]? with
  | none => rw [e] at h; simp at h
  | some pl => exact (List.getElem?_eq_some_iff.mp e).1
theorem Wf.ed (w : Wf G) (h : Ed G p q) : q < G.length := w.to p (ed_lt h) q h
end
/-! ### strategies -/
/-- the branch that is told at p -/
def brOf (s : List (Option Nat)) (p : Nat) : Nat := (s[p]?.getD none).getD 0
/-- the place that the strategy tells at p -/
def tgOf (G : Gm) (s : List (Option Nat)) (p : Nat) : Nat := ((tsOf G p)[brOf s p]?).getD 0
/-- a strategy of the side (at the side's places a branch that is there; elsewhere anything) -/
structure IsSt (G : Gm) (sd : Kd) (s : List (Option Nat)) : Prop where
  len : s.length = G.length
  br : ∀ p, p < G.length → kdOf G p = sd → ∃ b, s[p]? = some (some b) ∧ b < (tsOf G p).length
/-- the game with a strategy put in -/
def ws1 (sd : Kd) (s : List (Option Nat)) (e : Nat × Pl) : Pl := if e.2.kd = sd then ⟨e.2.mark, .draw, [(e.2.ts[brOf s e.1]?).getD 0]⟩ else e.2
def wS (G : Gm) (sd : Kd) (s : List (Option Nat)) : Gm := (((List.range G.length).zip G)).map (ws1 sd s)
section
variable {G : Gm} {sd : Kd} {s : List (Option Nat)} {p : Nat}
theorem IsSt.at (h : IsSt G sd s) (hp : p < G.length) (hk : kdOf G p = sd) : s[p]? = some (some (brOf s p)) ∧ (tsOf G p)[brOf s p]? = some (tgOf G s p) ∧ Ed G p (tgOf G s p) := by
  obtain ⟨b, h1, h2⟩ := h.br p hp hk
  have e : brOf s p = b := by unfold brOf; rw [h1]; rfl
  have e2 : (tsOf G p)[brOf s p]? = some (tsOf G p)[b] := by rw [e]; exact List.getElem?_eq_getElem h2
  have e3 : tgOf G s p = (tsOf G p)[b] := by unfold tgOf; rw [e2]; rfl
  refine ⟨by rw [e]; exact h1, by rw [e3]; exact e2, ?_⟩
  rw [e3]
  exact List.getElem_mem h2
theorem wS_len : (wS G sd s).length = G.length := by unfold wS; rw [List.length_map, List.length_zip, List.length_range]; exact Nat.min_self _
theorem wS_get {pl : Pl} (h : G[p]? = some pl) : (wS G sd s)[p]? = some (ws1 sd s (p, pl)) := by
  have hi : p < G.length := (List.getElem?_eq_some_iff.mp h).1
  unfold wS
  rw [List.getElem?_map]
  have : ((List.range G.length).zip G)[p]? = some (p, pl) := by
    rw [List.getElem?_zip_eq_some]
    exact ⟨by rw [List.getElem?_range hi], h⟩
  rw [this]
  rfl
theorem wS_mk : mkOf (wS G sd s) p = mkOf G p := by
  unfold mkOf
  cases e : G[p]? with
  | none =>
    have : (wS G sd s)[p]? = none := List.getElem?_eq_none_iff.mpr (by rw [wS_len]; exact List.getElem?_eq_none_iff.mp e)
    rw [this]
  | some pl =>
    rw [wS_get e]
    unfold ws1
    split <;> rfl
theorem wS_side (hp : p < G.length) (hk : kdOf G p = sd) : tsOf (wS G sd s) p = [tgOf G s p] ∧ kdOf (wS G sd s) p = .draw := by
  obtain ⟨pl, e⟩ := pl_at hp
  rw [kd_at e] at hk
  rw [ts_at (wS_get e), kd_at (wS_get e)]
  unfold ws1 tgOf
  rw [if_pos hk, ts_at e]
  exact ⟨rfl, rfl⟩
theorem wS_other (hk : kdOf G p ≠ sd) : tsOf (wS G sd s) p = tsOf G p ∧ kdOf (wS G sd s) p = kdOf G p := by
  cases e : G[p]? with
  | none =>
    have : (wS G sd s)[p]? = none := List.getElem?_eq_none_iff.mpr (by rw [wS_len]; exact List.getElem?_eq_none_iff.mp e)
    unfold tsOf kdOf
    rw [this, e]
    exact ⟨rfl, rfl⟩
  | some pl =>
    rw [kd_at e] at hk
    rw [ts_at (wS_get e), kd_at (wS_get e), ts_at e, kd_at e]
    unfold ws1
    rw [if_neg hk]
    exact ⟨rfl, rfl⟩
theorem wS_wf (w : Wf G) (h : IsSt G sd s) : Wf (wS G sd s) where
  len := by rw [wS_len]; exact w.len
  mark := fun p hp => by rw [wS_mk]; exact w.mark p (by rw [wS_len] at hp; exact hp)
  some := fun p hp => by
    rw [wS_len] at hp
    by_cases k : kdOf G p = sd
    · rw [(wS_side hp k).1]; exact ⟨Nat.le_refl _, (by omega : 1 ≤ 6)⟩
    · rw [(wS_other k).1]; exact w.some p hp
  to := fun p hp t ht => by
    rw [wS_len] at hp ⊢
    by_cases k : kdOf G p = sd
    · rw [(wS_side hp k).1] at ht
      rw [List.mem_singleton.mp ht]
      exact w.ed (h.at hp k).2.2
    · rw [(wS_other k).1] at ht; exact w.to p hp t ht
  one := fun p hp hd => by
    rw [wS_len] at hp
    by_cases k : kdOf G p = sd
    · rw [(wS_side hp k).1]; rfl
    · rw [(wS_other k).2] at hd
      rw [(wS_other k).1]
      exact w.one p hp hd
/-- its steps: those of the game, at the side's places the told one -/
theorem wS_ed (h : IsSt G sd s) {u v : Nat} : Ed (wS G sd s) u v ↔ Ed G u v ∧ (kdOf G u = sd → v = tgOf G s u) := by
  by_cases hp : u < G.length
  · by_cases k : kdOf G u = sd
    · unfold Ed
      rw [(wS_side hp k).1]
      constructor
      · intro e
        rw [List.mem_singleton.mp e]
        exact ⟨(h.at hp k).2.2, fun _ => rfl⟩
      · rintro ⟨_, e⟩
        rw [e k]
        exact List.mem_singleton.mpr rfl
    · unfold Ed
      rw [(wS_other k).1]
      exact ⟨fun e => ⟨e, fun z => absurd z k⟩, fun e => e.1⟩
  · constructor
    · intro e
      exact absurd (by have := ed_lt e; rw [wS_len] at this; exact this) hp
    · rintro ⟨e, _⟩
      exact absurd (ed_lt e) hp
end
end OC
namespace OC
/-! ### what is reached -/
def OkR (G : Gm) (p q : Nat) : Prop := q = p ∨ Pt (Ed G) Any p q
theorem okR_step {G : Gm} {p y t : Nat} (h : OkR G p y) (e : Ed G y t) : OkR G p t := by
  rcases h with rfl | h
  · exact .inr (.one e trivial)
  · exact .inr (h.snoc e trivial)
/-! ### a search: S what is found, Wt what waits, pend the steps from c that are still to be looked at -/
structure Se (G : Gm) (In Ok : Nat → Prop) (p : Nat) (S Wt : List Nat) (c : Nat) (pend : List Nat) : Prop where
  sound : ∀ x ∈ S, Ok x
  wt : ∀ x ∈ Wt, x = p ∨ x ∈ S
  cl : ∀ y, (y = p ∨ y ∈ S) → ∀ t ∈ tsOf G y, In t → t ∈ S ∨ y ∈ Wt ∨ (y = c ∧ t ∈ pend)
  lt : ∀ x ∈ S, x < G.length
  len : S.length + cnt G.length (fun x => x ∉ S) ≤ G.length + 1
  wl : Wt.length ≤ S.length + 1
section
variable {G : Gm} {In Ok : Nat → Prop} {p c x t : Nat} {S Wt pend : List Nat}
theorem Se.pop (h : Se G In Ok p S (Wt ++ [x]) c []) : Se G In Ok p S Wt x (tsOf G x) where
  sound := h.sound
  wt := fun y hy => h.wt y (List.mem_append_left _ hy)
  cl := fun y hy t ht hi => by
    rcases h.cl y hy t ht hi with a | a | a
    · exact .inl a
    · rcases List.mem_append.mp a with b | b
      · exact .inr (.inl b)
      · have e := List.mem_singleton.mp b
        subst e
        exact .inr (.inr ⟨rfl, ht⟩)
    · exact absurd a.2 (by simp)
  lt := h.lt
  len := h.len
  wl := by have := h.wl; rw [List.length_append] at this; omega
theorem Se.skip (h : Se G In Ok p S Wt c (t :: pend)) (hs : In t → t ∈ S) : Se G In Ok p S Wt c pend where
  sound := h.sound
  wt := h.wt
  cl := fun y hy u hu hi => by
    rcases h.cl y hy u hu hi with a | a | ⟨a, b⟩
    · exact .inl a
    · exact .inr (.inl a)
    · rcases List.mem_cons.mp b with e | b
      · subst e; exact .inl (hs hi)
      · exact .inr (.inr ⟨a, b⟩)
  lt := h.lt
  len := h.len
  wl := h.wl
theorem cnt_out {n : Nat} {S : List Nat} (ht : t < n) (hn : t ∉ S) : cnt n (fun x => x ∉ S ++ [t]) < cnt n (fun x => x ∉ S) :=
  cnt_lt (fun x _ h z => h (List.mem_append_left _ z)) ht hn fun h => h (by simp)
theorem Se.add (h : Se G In Ok p S Wt c (t :: pend)) (ok : Ok t) (ht : t < G.length) (hn : t ∉ S) : Se G In Ok p (S ++ [t]) (Wt ++ [t]) c pend where
  sound := fun x hx => by
    rcases List.mem_append.mp hx with a | a
    · exact h.sound x a
    · rw [List.mem_singleton.mp a]; exact ok
  wt := fun x hx => by
    rcases List.mem_append.mp hx with a | a
    · exact (h.wt x a).imp id fun z => List.mem_append_left _ z
    · exact .inr (List.mem_append_right _ a)
  cl := fun y hy u hu hi => by
    rcases hy with hy | hy
    · rcases h.cl y (.inl hy) u hu hi with a | a | ⟨a, b⟩
      · exact .inl (List.mem_append_left _ a)
      · exact .inr (.inl (List.mem_append_left _ a))
      · rcases List.mem_cons.mp b with e | b
        · subst e; exact .inl (by simp)
        · exact .inr (.inr ⟨a, b⟩)
    · rcases List.mem_append.mp hy with hy | hy
      · rcases h.cl y (.inr hy) u hu hi with a | a | ⟨a, b⟩
        · exact .inl (List.mem_append_left _ a)
        · exact .inr (.inl (List.mem_append_left _ a))
        · rcases List.mem_cons.mp b with e | b
          · subst e; exact .inl (by simp)
          · exact .inr (.inr ⟨a, b⟩)
      · exact .inr (.inl (List.mem_append_right _ hy))
  lt := fun x hx => by
    rcases List.mem_append.mp hx with a | a
    · exact h.lt x a
    · rw [List.mem_singleton.mp a]; exact ht
  len := by
    have h1 := h.len
    have h2 := cnt_out ht hn
    rw [List.length_append]
    show S.length + 1 + _ ≤ _
    omega
  wl := by have := h.wl; rw [List.length_append, List.length_append]; show Wt.length + 1 ≤ S.length + 1 + 1; omega
theorem Se.done (h : Se G In Ok p S [] c []) {q : Nat} (a : Pt (Ed G) In p q) : q ∈ S := by
  have : ∀ y, (y = p ∨ y ∈ S) → Pt (Ed G) In y q → q ∈ S := by
    clear a
    intro y hy a
    have step : ∀ y t, (y = p ∨ y ∈ S) → Ed G y t → In t → t ∈ S := fun y t hy e hi => by
      rcases h.cl y hy t e hi with z | z | z
      · exact z
      · exact absurd z (by simp)
      · exact absurd z.2 (by simp)
    induction a with
    | one e s => exact step _ _ hy e s
    | cons e s _ ih => exact ih (.inr (step _ _ hy e s))
  exact this p (.inl rfl) a
/-- how a search measures -/
noncomputable def seM (n : Nat) (S Wt : List Nat) : Nat := 2 * cnt n (fun x => x ∉ S) + Wt.length
end
end OC
namespace OC
/-! ### the equations of a chain with one way on: row i says x_i = x_j, or x_i = b -/
abbrev Eqn := Sum Nat Int
def lastT : Eqn → Int
  | .inl _ => 0
  | .inr b => b
def entT (t : Eqn) (i k : Nat) : Int := if k = i then 1 else if t = .inl k then -1 else 0
def rowT (m : Nat) (t : Eqn) (i : Nat) : List Int := (List.range m).map (entT t i) ++ [lastT t]
structure Gok (m c : Nat) (V : Nat → Int) (rho : Nat → Nat) (T : Nat → Eqn) : Prop where
  l : ∀ i, i < m → ∀ j, T i = .inl j → c ≤ j ∧ j < m ∧ V i = V j ∧ rho j < rho i
  r : ∀ i, i < m → ∀ b, T i = .inr b → V i = b
def stepT (c : Nat) (T : Nat → Eqn) (i : Nat) : Eqn := if T i = .inl c then T c else T i
section
variable {m c i k : Nat} {V : Nat → Int} {rho : Nat → Nat} {T : Nat → Eqn} {t : Eqn}
theorem rowT_len : (rowT m t i).length = m + 1 := by unfold rowT; rw [List.length_append, List.length_map, List.length_range]; rfl
theorem rowT_get (hk : k < m) : (rowT m t i)[k]? = some (entT t i k) := by
  unfold rowT
  rw [List.getElem?_append_left (by rw [List.length_map, List.length_range]; exact hk), List.getElem?_map, List.getElem?_range hk]
  rfl
theorem rowT_last : (rowT m t i)[m]? = some (lastT t) := by
  unfold rowT
  rw [List.getElem?_append_right (by rw [List.length_map, List.length_range]; exact Nat.le_refl _), List.length_map, List.length_range, Nat.sub_self]
  rfl
theorem rowT_getLast : (rowT m t i).getLast? = some (lastT t) := by unfold rowT; rw [List.getLast?_append]; rfl
theorem Gok.ne (g : Gok m c V rho T) (hc : c < m) : T c ≠ .inl c := fun e => absurd (g.l c hc c e).2.2.2 (Nat.lt_irrefl _)
theorem Gok.step (g : Gok m c V rho T) (hc : c < m) : Gok m (c + 1) V rho (stepT c T) := by
  have up : ∀ i, i < m → ∀ j, T i = .inl j → j ≠ c → c + 1 ≤ j ∧ j < m ∧ V i = V j ∧ rho j < rho i := fun i hi j e ne => by
    have := g.l i hi j e
    exact ⟨by omega, this.2⟩
  refine ⟨fun i hi j e => ?_, fun i hi b e => ?_⟩
  · unfold stepT at e
    split at e
    · rename_i h
      have ne : j ≠ c := fun z => g.ne hc (by rw [z] at e; exact e)
      have h1 := up c hc j e ne
      have h2 := g.l i hi c h
      exact ⟨h1.1, h1.2.1, h2.2.2.1.trans h1.2.2.1, by omega⟩
    · rename_i h
      exact up i hi j e fun z => h (by rw [← z]; exact e)
  · unfold stepT at e
    split at e
    · rename_i h
      exact (g.l i hi c h).2.2.1.trans (g.r c hc b e)
    · exact g.r i hi b e
theorem Gok.fin (g : Gok m m V rho T) (hi : i < m) : T i = .inr (V i) := by
  cases e : T i with
  | inl j => have := g.l i hi j e; omega
  | inr b => rw [g.r i hi b e]
theorem entT_self : entT t i i = 1 := if_pos rfl
/-- the row less its part -/
theorem row_without (g : Gok m c V rho T) (hi : i < m) (hc : c < m) (ne : i ≠ c) :
    List.zipWith (fun a b => a - entT (T i) i c * b) (rowT m (T i) i) (rowT m (T c) c) = rowT m (stepT c T i) i := by
  apply List.ext_getElem?
  intro k
  rw [List.getElem?_zipWith]
  have ec : entT (T i) i c = if T i = .inl c then -1 else 0 := by unfold entT; rw [if_neg (fun z => ne z.symm)]
  rcases Nat.lt_trichotomy k m with hk | hk | hk
  · rw [rowT_get hk, rowT_get hk, rowT_get hk, ec]
    show some _ = some _
    congr 1
    unfold stepT
    by_cases h : T i = .inl c
    · simp only [if_pos h]
      have hne : T c ≠ .inl i := fun e => by
        have h1 := g.l i hi c h
        have h2 := g.l c hc i e
        omega
      unfold entT
      by_cases hki : k = i
      · subst hki
        rw [if_pos rfl, if_neg ne, if_neg hne, if_pos rfl]
        rfl
      · rw [if_neg hki, if_neg hki]
        by_cases hkc : k = c
        · subst hkc
          rw [if_pos h, if_pos rfl, if_neg (g.ne hc)]
          rfl
        · rw [if_neg hkc, if_neg (fun z => hkc (by rw [h] at z; exact (Sum.inl.inj z).symm))]
          split <;> rfl
    · simp only [if_neg h]
      rw [Int.zero_mul, Int.sub_zero]
  · subst hk
    rw [rowT_last, rowT_last, rowT_last, ec]
    show some _ = some _
    congr 1
    unfold stepT
    by_cases h : T i = .inl c
    · simp only [if_pos h]
      rw [h]
      show (0 : Int) - -1 * lastT (T c) = lastT (T c)
      omega
    · simp only [if_neg h]
      rw [Int.zero_mul, Int.sub_zero]
  · have none : ∀ t i, (rowT m t i)[k]? = none := fun t i => List.getElem?_eq_none_iff.mpr (by rw [rowT_len]; omega)
    rw [none, none, none]
end
/-! ### chains: each place has one way on -/
section
variable {C : Gm} {p q : Nat}
def fOf (C : Gm) (p : Nat) : Nat := (tsOf C p).headD 0
structure Chain (C : Gm) : Prop where
  wf : Wf C
  draw : ∀ p, p < C.length → kdOf C p = .draw
theorem Chain.ts (h : Chain C) (hp : p < C.length) : tsOf C p = [fOf C p] := by
  have := h.wf.one p hp (h.draw p hp)
  unfold fOf
  match e : tsOf C p with
  | [] => rw [e] at this; cases this
  | [t] => rfl
  | _ :: _ :: _ => rw [e] at this; cases this
theorem Chain.ed (h : Chain C) (hp : p < C.length) : Ed C p q ↔ q = fOf C p := by
  unfold Ed
  rw [h.ts hp]
  exact List.mem_singleton
theorem Chain.fn (h : Chain C) {u v : Nat} (e : Ed C u v) : v = fOf C u := (h.ed (ed_lt e)).mp e
theorem Chain.lt (h : Chain C) (hp : p < C.length) : fOf C p < C.length := h.wf.ed ((h.ed hp).mpr rfl)
open Classical in
/-- the chance of winning: nought where an odd wheel is come to -/
noncomputable def oddV (G : Gm) (p : Nat) : Int := if Comes (Ed G) (mkOf G) 1 p then 0 else 1
theorem oddV_01 {G : Gm} : oddV G p = 0 ∨ oddV G p = 1 := by unfold oddV; split <;> simp
theorem oddV_0 {G : Gm} : oddV G p = 0 ↔ Comes (Ed G) (mkOf G) 1 p := by unfold oddV; split <;> simp_all
theorem oddV_1 {G : Gm} : oddV G p = 1 ↔ ¬ Comes (Ed G) (mkOf G) 1 p := by unfold oddV; split <;> simp_all
theorem Chain.next (h : Chain C) (hp : p < C.length) : oddV C p = oddV C (fOf C p) := by
  have e : Comes (Ed C) (mkOf C) 1 p ↔ Comes (Ed C) (mkOf C) 1 (fOf C p) := by
    constructor
    · intro c
      obtain ⟨q, e, c⟩ := c.next
      rw [h.fn e] at c
      exact c
    · exact fun c => c.step ((h.ed hp).mpr rfl)
  unfold oddV
  rw [e]
/-- the places that come again -/
def Recu (C : Gm) (p : Nat) : Prop := ∀ q, OkR C p q → OkR C q p
theorem okR_trans {a b c : Nat} (h : OkR C a b) (h' : OkR C b c) : OkR C a c := by
  rcases h with rfl | h
  · exact h'
  · rcases h' with rfl | h'
    · exact .inr h
    · exact .inr (h.trans h')
theorem Chain.rank (h : Chain C) (hp : p < C.length) (nr : ¬ Recu C p) : cnt C.length (OkR C (fOf C p)) < cnt C.length (OkR C p) := by
  have e := (h.ed hp).mpr rfl
  refine cnt_lt (fun x _ hx => okR_trans (.inr (.one e trivial)) hx) hp (.inl rfl) fun back => nr ?_
  have loop : Pt (Ed C) Any p p := by
    rcases back with z | z
    · rw [← z] at e; exact .one e trivial
    · exact .cons e trivial z
  intro q hq
  rcases hq with rfl | hq
  · exact .inl rfl
  · exact (circle_all (R := Ed C) (fun u v e => h.fn e) loop hq).2.imp (fun (z : q = p) => z.symm) id
theorem Chain.recu_val (h : Chain C) (hp : p < C.length) (hr : Recu C p) {m : Nat} (ht : ∃ t, OkR C p t ∧ mkOf C t = m) (hm : ∀ q, OkR C p q → mkOf C q ≤ m) : oddV C p = if m % 2 = 0 then 1 else 0 := by
  obtain ⟨t, ht, mt⟩ := ht
  have r := recurrent_val (R := Ed C) (mk := mkOf C) (p := p) (fun u v e => h.fn e) (fun q a => (hr q (.inr a)).imp (fun z => z) id) (m := m) ht mt hm ⟨_, .one ((h.ed hp).mpr rfl) trivial⟩ (par := 1)
  unfold oddV
  by_cases e : m % 2 = 0
  · rw [if_pos e, if_neg (fun c => by have := r.mp c; omega)]
  · rw [if_neg e, if_pos (r.mpr (by omega))]
end
/-! ### the unknown places of a chain -/
section
variable {n : Nat} {kn : Nat → Option Int} {f : Nat → Nat}
def uList (n : Nat) (kn : Nat → Option Int) : List Nat := (List.range n).filter fun p => (kn p).isNone
theorem mem_uList {p : Nat} : p ∈ uList n kn ↔ p < n ∧ kn p = none := by
  unfold uList
  rw [List.mem_filter, List.mem_range, Option.isNone_iff_eq_none]
theorem uList_nodup : (uList n kn).Nodup := List.nodup_range.filter _
theorem uList_len : (uList n kn).length ≤ n := by
  have := List.length_filter_le (fun p => (kn p).isNone) (List.range n)
  rw [List.length_range] at this
  exact this
/-- the equation of the i-th unknown place -/
def eqnU (U : List Nat) (kn : Nat → Option Int) (f : Nat → Nat) (i : Nat) : Eqn := match kn (f (U[i]?.getD 0)) with
  | some z => .inr z
  | none => .inl (U.idxOf (f (U[i]?.getD 0)))
theorem idxOf_get {U : List Nat} {t : Nat} (h : t ∈ U) : U[U.idxOf t]? = some t ∧ ∀ m, m < U.idxOf t → U[m]? ≠ some t := by
  refine ⟨?_, fun m hm e => ?_⟩
  · have hl := List.idxOf_lt_length_iff.mpr h
    rw [List.getElem?_eq_getElem hl, List.getElem_idxOf hl]
  · have hl : m < U.length := (List.getElem?_eq_some_iff.mp e).1
    have e2 : U[m] = t := (List.getElem?_eq_some_iff.mp e).2
    have := List.not_of_lt_findIdx (p := fun x => x == t) (xs := U) (i := m) hm
    rw [e2] at this
    simp at this
theorem gok_U {Vf : Nat → Int} {rho : Nat → Nat} (hf : ∀ p, p < n → f p < n) (hk : ∀ p z, kn p = some z → z = Vf p) (hu : ∀ p, p < n → kn p = none → Vf p = Vf (f p) ∧ (kn (f p) = none → rho (f p) < rho p)) :
    Gok (uList n kn).length 0 (fun i => Vf ((uList n kn)[i]?.getD 0)) (fun i => rho ((uList n kn)[i]?.getD 0)) (eqnU (uList n kn) kn f) := by
  have at_ : ∀ i, i < (uList n kn).length → (uList n kn)[i]?.getD 0 ∈ uList n kn := fun i hi => by
    rw [List.getElem?_eq_getElem hi]
    exact List.getElem_mem hi
  refine ⟨fun i hi j e => ?_, fun i hi b e => ?_⟩
  · obtain ⟨h1, h2⟩ := mem_uList.mp (at_ i hi)
    unfold eqnU at e
    split at e
    · cases e
    · rename_i hn
      have e := Sum.inl.inj e
      have ht : f ((uList n kn)[i]?.getD 0) ∈ uList n kn := mem_uList.mpr ⟨hf _ h1, hn⟩
      have g := (idxOf_get ht).1
      rw [e] at g
      have hj : j < (uList n kn).length := (List.getElem?_eq_some_iff.mp g).1
      refine ⟨Nat.zero_le _, hj, ?_, ?_⟩
      · rw [g]; exact (hu _ h1 h2).1
      · rw [g]; exact (hu _ h1 h2).2 hn
  · obtain ⟨h1, h2⟩ := mem_uList.mp (at_ i hi)
    unfold eqnU at e
    split at e
    · rename_i z hz
      have e := Sum.inr.inj e
      rw [← e, hk _ _ hz]
      exact (hu _ h1 h2).1
    · cases e
/-- a row ahead of its branches, and behind -/
def row0 (m i : Nat) : List Int := (List.range m).map (fun k => if k = i then 1 else 0) ++ [0]
theorem row0_inr {m i : Nat} {b : Int} : (List.range m).map (fun k => if k = i then (1 : Int) else 0) ++ [b] = rowT m (.inr b) i := by
  unfold rowT entT
  congr 1
theorem row0_inl {m i j : Nat} (hj : j < m) (ne : j ≠ i) : (row0 m i).set j (0 - 1) = rowT m (.inl j) i := by
  apply List.ext_getElem?
  intro k
  have l0 : (row0 m i).length = m + 1 := by unfold row0; rw [List.length_append, List.length_map, List.length_range]; rfl
  have g0 : ∀ k, k < m → (row0 m i)[k]? = some (if k = i then 1 else 0) := fun k hk => by
    unfold row0
    rw [List.getElem?_append_left (by rw [List.length_map, List.length_range]; exact hk), List.getElem?_map, List.getElem?_range hk]
    rfl
  by_cases e : k = j
  · subst e
    rw [List.getElem?_set_self (by omega), rowT_get hj]
    unfold entT
    rw [if_neg ne, if_pos rfl]
    rfl
  · rw [List.getElem?_set_ne (Ne.symm e)]
    rcases Nat.lt_trichotomy k m with hk | hk | hk
    · rw [g0 k hk, rowT_get hk]
      unfold entT
      split
      · rfl
      · rw [if_neg (fun z => e (Sum.inl.inj z).symm)]
    · subst hk
      rw [rowT_last]
      unfold row0
      rw [List.getElem?_append_right (by rw [List.length_map, List.length_range]; exact Nat.le_refl _), List.length_map, List.length_range, Nat.sub_self]
      rfl
    · rw [List.getElem?_eq_none (by omega), List.getElem?_eq_none (by rw [rowT_len]; omega)]
theorem row0_get {m i j : Nat} (hj : j < m) (ne : j ≠ i) : (row0 m i)[j]? = some 0 := by
  unfold row0
  rw [List.getElem?_append_left (by rw [List.length_map, List.length_range]; exact hj), List.getElem?_map, List.getElem?_range hj]
  show some (if j = i then (1 : Int) else 0) = _
  rw [if_neg ne]
theorem row0_U {U : List Nat} (hn : U.Nodup) {i p : Nat} (h : U[i]? = some p) : U.map (fun o => if o = p then (1 : Int) else 0) ++ [0] = row0 U.length i := by
  unfold row0
  congr 1
  apply List.ext_getElem?
  intro k
  iterate 2 rw [List.getElem?_map]
  by_cases hk : k < U.length
  · rw [List.getElem?_range hk, List.getElem?_eq_getElem hk]
    show some (if U[k] = p then (1 : Int) else 0) = some (if k = i then (1 : Int) else 0)
    have ⟨hi, e⟩ := List.getElem?_eq_some_iff.mp h
    by_cases c : k = i
    · subst c
      rw [if_pos e, if_pos rfl]
    · rw [if_neg (fun z : U[k] = p => c ((List.getElem_inj hn).mp (z.trans e.symm))), if_neg c]
  · rw [List.getElem?_eq_none (by omega), List.getElem?_eq_none (by rw [List.length_range]; omega)]
    rfl
end
end OC
/-! the layer of this proof: data in the part of the heap that stands still -/
namespace OC
open PySem PySem.Spec PyProof.Rows L2

/-! ### a def of the text, and what it promises -/
def topS (i : Nat) : Stmt := PySem.Challenge.pw_oddcrown_k53_whole_games_without_chance.main.body.getD i (.Pass ⟨0, 0, 0, 0⟩)
/-- it stands as the text says -/
def Dn (K : PySem.W.Frag) (mg : Str → Option Value) (x : Str) (st : Stmt) (ps : List Str) : Prop := ∃ f fd, Fun K x x st f fd ∧ mg x = some (.ref f) ∧ Binds K fd ps []
/-- it keeps the promise sp -/
def Cal (P : Program) (w : World) (K : PySem.W.Frag) (mg : Str → Option Value) (base : Heap) (x : Str) (k : Nat) (sp : Sp) : Prop :=
  ∃ f fd ps, FnOk P w K mg base CX0 k f fd ps sp ∧ mg x = some (.ref f) ∧ PySem.W.keepIn K (.ref f) = true ∧ Binds K fd ps []
section
variable {P : Program} {w : World} {K : PySem.W.Frag} {mg : Str → Option Value} {base : Heap} {x : Str} {st : Stmt} {ps N : List Str} {k j : Nat} {sp sp' : Sp}
theorem Cal.mono (h : Cal P w K mg base x j sp) (le : j ≤ k) : Cal P w K mg base x k sp := by
  obtain ⟨f, fd, ps, F, r⟩ := h
  exact ⟨f, fd, ps, F.mono le, r⟩
theorem Cal.imp (h : Cal P w K mg base x k sp) (i : ∀ vs H Q E, sp' vs H Q E → sp vs H Q E) : Cal P w K mg base x k sp' := by
  obtain ⟨f, fd, ps, F, r⟩ := h
  exact ⟨f, fd, ps, F.imp i, r⟩
/-- the rule for a def -/
theorem Dn.ok (D : Dn K mg x st ps) (S : FnScope N ps (defScope st)) (len : ∀ vs H Q E, sp vs H Q E → vs.length = ps.length)
    (hbody : ∀ (f : Addr) (cdv : Value) (A : Around) (outer : List Env) (s : Shared) (H : Hp) (vs : List V) (Q : VK) (E : XK), Room k (A.deeper (envOfC x (defScope st) s.heap.objs.size f cdv)) → sp vs H Q E →
      ∃ t, PSs (cxOf CX0 P w K mg base N x (defScope st) f cdv A outer s H E).nox (defBody st) t ∧ t { nx := fun _ H' => Q .non H', rt := Q } (start N vs) H) : Cal P w K mg base x (k + 1) sp := by
  obtain ⟨f, fd, F, m, b⟩ := D
  exact ⟨f, fd, ps, F.ok S len (hbody f), m, F.kp, b⟩
theorem pe_c {X : Cx} {p pos : Pos} {e : Expr} {es : List Expr} {t : TA} (C : Cal X.prog X.w X.K X.mg X.base x k sp) (hr : Room k X.A) (hg : Gl X x) (ha : PA X (e :: es) t) (hdb : (x == ("__debug__" : Str)) = false := by decide)
    (he : starEach (e :: es) X.env = (false, eval e X.env) :: starEach es X.env := by rfl) (hpl : (backTo pos (starEach es X.env)).any (·.1) = false := by rfl) : PE X (.Call (.Name x p) (e :: es) [] pos) (tCall sp [] E0 t) := by
  obtain ⟨f, fd, ps, F, m, kp, b⟩ := C
  exact pe_call F hr hg m kp b .nil pass0 ha hdb he hpl
end

/-! ### the heap H and its part I that stands still -/
theorem Same.new {H : Hp} {p : Addr} {o : HO} (h : H p = none) : Same H (upd H p o) := fun b u e => by rw [upd_ne (ne_of_none e h)]; exact e
structure Gr (I H I' H' : Hp) : Prop where
  i : Same I I'
  h : Same H H'
  s : Same I' H'
  n : ∀ p, H p ≠ none → I p = none → I' p = none
section
variable {I H I' H' I1 H1 I2 H2 I0 H0 : Hp} {p q : Addr} {o u : HO}
theorem Gr.refl (s : Same I H) : Gr I H I H := ⟨.refl _, .refl _, s, fun _ _ h => h⟩
theorem Gr.trans (a : Gr I H I1 H1) (b : Gr I1 H1 I2 H2) : Gr I H I2 H2 :=
  ⟨a.i.trans b.i, a.h.trans b.h, b.s, fun p hp hi => b.n p (fun e => hp (a.h.free e)) (a.n p hp hi)⟩
/-- a new object that stands still from now on -/
theorem Gr.imm (s : Same I H) (h : H p = none) : Gr I H (upd I p o) (upd H p o) := by
  refine ⟨Same.new (s.free h), Same.new h, fun b z e => ?_, fun b hb hi => ?_⟩
  · by_cases e1 : b = p
    · subst e1; rw [upd_same] at e ⊢; exact e
    · rw [upd_ne e1] at e ⊢; exact s b z e
  · rw [upd_ne (fun e => hb (by rw [e]; exact h))]; exact hi
/-- a new object that may still change -/
theorem Gr.mut (s : Same I H) (h : H p = none) : Gr I H I (upd H p o) := ⟨.refl _, Same.new h, s.trans (Same.new h), fun _ _ h => h⟩
/-- a change at an object that came behind the base -/
theorem Gr.set (g : Gr I0 H0 I H) (h0 : H0 p = none) (hi : I p = none) : Gr I0 H0 I (upd H p o) :=
  ⟨g.i, fun b z e => by rw [upd_ne (ne_of_none e h0)]; exact g.h b z e, fun b z e => by rw [upd_ne (ne_of_none e hi)]; exact g.s b z e, g.n⟩
/-- from now on it stands still -/
theorem Gr.freeze (g : Gr I0 H0 I H) (h0 : H0 p = none) (h : H p = some o) : Gr I0 H0 (upd I p o) H := by
  refine ⟨fun b z e => ?_, g.h, fun b z e => ?_, fun b hb hi => ?_⟩
  · by_cases e1 : b = p
    · subst e1
      have := g.s b z (g.i b z e)
      rw [h] at this
      rw [upd_same]; exact this
    · rw [upd_ne e1]; exact g.i b z e
  · by_cases e1 : b = p
    · subst e1; rw [upd_same] at e; rw [h]; exact e
    · rw [upd_ne e1] at e; exact g.s b z e
  · rw [upd_ne (fun e => hb (by rw [e]; exact h0))]; exact g.n b hb hi
/-- an object of the def's own that may change -/
structure Mu (H0 I H : Hp) (p : Addr) (o : HO) : Prop where
  b : H0 p = none
  i : I p = none
  h : H p = some o
theorem Mu.up (m : Mu H0 I H p o) (g : Gr I H I' H') : Mu H0 I' H' p o := ⟨m.b, g.n p (by rw [m.h]; exact fun z => nomatch z) m.i, g.h p o m.h⟩
theorem Mu.other (m : Mu H0 I H p o) (ne : p ≠ q) : Mu H0 I (upd H q u) p o := ⟨m.b, m.i, by rw [upd_ne ne]; exact m.h⟩
theorem Mu.set (m : Mu H0 I H p o) : Mu H0 I (upd H p u) p u := ⟨m.b, m.i, upd_same⟩
theorem Mu.new (g : Gr I0 H0 I H) (h : H p = none) : Mu H0 I (upd H p o) p o := ⟨g.h.free h, (g.s.free h), upd_same⟩
theorem Mu.ne (m : Mu H0 I H p o) (h : H q = none) : p ≠ q := ne_of_none m.h h
theorem Gr.put (g : Gr I0 H0 I H) (m : Mu H0 I H p o) : Gr I0 H0 I (upd H p u) := g.set m.b m.i
theorem Gr.stop (g : Gr I0 H0 I H) (m : Mu H0 I H p o) : Gr I0 H0 (upd I p o) H := g.freeze m.b m.h
end

/-! ### what a value stands for -/
structure Rp (α : Type) where
  rel : α → V → Hp → Prop
  up : ∀ {a : α} {v : V} {I I' : Hp}, rel a v I → Same I I' → rel a v I'
theorem rdT {K : PySem.W.Frag} {I I' : Hp} {a : Addr} {xs : List V} (h : SqT K I a xs) (e : Same I I') : SqT K I' a xs := by
  rcases h with (q | ⟨b, q⟩) | q
  · exact .inl (.inl (e _ _ q))
  · exact .inl (.inr ⟨b, e _ _ q⟩)
  · exact .inr q
/-- a flat value -/
def rF {α : Type} (g : α → V) : Rp α := ⟨fun a v _ => v = g a, fun h _ => h⟩
abbrev vN (n : Nat) : V := .int (n : Int)
def vO : Option Nat → V
  | none => .non
  | some n => vN n
abbrev rN : Rp Nat := rF vN
abbrev rB : Rp Bool := rF V.bl
abbrev rO : Rp (Option Nat) := rF vO
theorem paired_up {α : Type} {r : Rp α} {I I' : Hp} {l : List α} {xs : List V} (h : Paired (fun a x => r.rel a x I) l xs) (e : Same I I') : Paired (fun a x => r.rel a x I') l xs := by
  induction h with
  | nil => exact .nil
  | cons h _ ih => exact .cons (r.up h e) ih
/-- a list -/
def rL {α : Type} (r : Rp α) : Rp (List α) :=
  ⟨fun l v I => ∃ a xs, v = .ref a ∧ I a = some (.lst xs) ∧ Paired (fun a x => r.rel a x I) l xs, fun ⟨a, xs, h1, h2, h3⟩ e => ⟨a, xs, h1, e _ _ h2, paired_up h3 e⟩⟩
/-- a list of flat values -/
def rLF {α : Type} (g : α → V) : Rp (List α) := ⟨fun l v I => ∃ a, v = .ref a ∧ I a = some (.lst (l.map g)), fun ⟨a, h1, h2⟩ e => ⟨a, h1, e _ _ h2⟩⟩
abbrev rNs : Rp (List Nat) := rLF vN
/-- a number that is whole: (z, 1) -/
def rQ (K : PySem.W.Frag) : Rp Int := ⟨fun z v I => ∃ a, v = .ref a ∧ SqT K I a [.int z, .int 1], fun ⟨a, h1, h2⟩ e => ⟨a, h1, rdT h2 e⟩⟩
/-- a pair -/
def rT2 {α β : Type} (K : PySem.W.Frag) (r : Rp α) (s : Rp β) : Rp (α × β) :=
  ⟨fun p v I => ∃ a x y, v = .ref a ∧ SqT K I a [x, y] ∧ r.rel p.1 x I ∧ s.rel p.2 y I, fun ⟨a, x, y, h1, h2, h3, h4⟩ e => ⟨a, x, y, h1, rdT h2 e, r.up h3 e, s.up h4 e⟩⟩
theorem paired_map {α : Type} {g : α → V} : ∀ {l : List α} {xs : List V}, Paired (fun a x => x = g a) l xs → xs = l.map g
  | _, _, .nil => rfl
  | _, _, .cons h t => by rw [h, paired_map t]; rfl
theorem paired_of {α : Type} {g : α → V} : ∀ {l : List α}, Paired (fun a x => x = g a) l (l.map g)
  | [] => .nil
  | _ :: _ => .cons rfl paired_of
theorem paired_len {α : Type} {r : α → V → Prop} : ∀ {l : List α} {xs : List V}, Paired r l xs → xs.length = l.length
  | _, _, .nil => rfl
  | _, _, .cons _ t => by rw [List.length_cons, List.length_cons, paired_len t]
theorem paired_get {α : Type} {r : α → V → Prop} : ∀ {l : List α} {xs : List V} {i : Nat} {a : α}, Paired r l xs → l[i]? = some a → ∃ x, xs[i]? = some x ∧ r a x
  | _, _, _, _, .nil, no => by simp at no
  | _, _, 0, _, .cons h _, e => by simp at e; subst e; exact ⟨_, rfl, h⟩
  | _, _, i + 1, _, .cons _ t, e => by simpa using paired_get t (by simpa using e)
theorem paired_get' {α : Type} {r : α → V → Prop} : ∀ {l : List α} {xs : List V} {i : Nat} {x : V}, Paired r l xs → xs[i]? = some x → ∃ a, l[i]? = some a ∧ r a x
  | _, _, _, _, .nil, no => by simp at no
  | _, _, 0, _, .cons h _, e => by simp at e; subst e; exact ⟨_, rfl, h⟩
  | _, _, i + 1, _, .cons _ t, e => by simpa using paired_get' t (by simpa using e)
theorem paired_snoc {α : Type} {r : α → V → Prop} : ∀ {l : List α} {xs : List V} {a : α} {x : V}, Paired r l xs → r a x → Paired r (l ++ [a]) (xs ++ [x])
  | _, _, _, _, .nil, new => .cons new .nil
  | _, _, _, _, .cons q t, h => .cons q (paired_snoc t h)
theorem paired_init {α : Type} {r : α → V → Prop} : ∀ {l : List α} {a : α} {xs : List V} {x : V}, Paired r (l ++ [a]) (xs ++ [x]) → Paired r l xs
  | [], _, [], _, _ => .nil
  | [], _, _ :: xs, _, .cons _ t => by cases xs <;> cases t
  | _ :: l, _, [], _, .cons _ t => by cases l <;> cases t
  | _ :: _, _, _ :: _, _, .cons h t => .cons h (paired_init t)
theorem paired_set {α : Type} {r : α → V → Prop} : ∀ {l : List α} {xs : List V} {a : α} {x : V} {i : Nat}, Paired r l xs → r a x → Paired r (l.set i a) (xs.set i x)
  | _, _, _, _, _, .nil, _ => .nil
  | _, _, _, _, 0, .cons _ t, h => .cons h t
  | _, _, _, _, i + 1, .cons q t, h => .cons q (paired_set t h)
end OC
namespace OC
open PySem PySem.Spec PyProof.Rows L2

/-! ### small facts -/
theorem line_le {n : Nat} (h : n ≤ 100000) : n ≤ sizeLine := Nat.le_trans h (by decide)
theorem line_lt {n : Nat} (h : n < 100000) : n < sizeLine := Nat.lt_of_lt_of_le h (by decide)
theorem vN_inj {m n : Nat} (h : vN m = vN n) : m = n := by
  injection h with h
  exact Int.ofNat.inj h
theorem eqV_nat (m n : Nat) : eqV (vN m) (vN n) = decide (m = n) := by
  show ((m : Int) == (n : Int)) = _
  by_cases h : m = n
  · subst h; simp
  · rw [decide_eq_false h]
    exact beq_eq_false_iff_ne.mpr fun e => h (Int.ofNat.inj e)
theorem inV_nat (n : Nat) (l : List Nat) : inV (vN n) (l.map vN) = decide (n ∈ l) := by
  induction l with
  | nil => rfl
  | cons a l ih =>
    have e : inV (vN n) ((a :: l).map vN) = (eqV (vN a) (vN n) || inV (vN n) (l.map vN)) := rfl
    rw [e, ih, eqV_nat]
    by_cases h : a = n
    · subst h; simp
    · by_cases h2 : n ∈ l
      · simp [h, h2]
      · have : n ∉ a :: l := fun z => (List.mem_cons.mp z).elim (fun z => h z.symm) h2
        simp [h, h2, this]
theorem flat_nat (l : List Nat) : (l.map vN).all flatV = true := by
  induction l with
  | nil => rfl
  | cons a l ih => exact ih
theorem len_nat {l : List Nat} : (l.map vN).length = l.length := List.length_map _
theorem get_nat {l : List Nat} {i n : Nat} (h : l[i]? = some n) : (l.map vN)[i]? = some (vN n) := by rw [List.getElem?_map, h]; rfl
theorem get_map {α : Type} {g : α → V} {l : List α} {i : Nat} {a : α} (h : l[i]? = some a) : (l.map g)[i]? = some (g a) := by rw [List.getElem?_map, h]; rfl
theorem of_get_map {α : Type} {g : α → V} {l : List α} {i : Nat} {x : V} (h : (l.map g)[i]? = some x) : ∃ a, l[i]? = some a ∧ x = g a := by
  rw [List.getElem?_map] at h
  cases e : l[i]? with
  | none => rw [e] at h
            cases h
  | some a => rw [e] at h; exact ⟨a, rfl, (Option.some.inj h).symm⟩
section
variable {K : PySem.W.Frag} {I H : Hp} {Q : VK}
theorem sqH {a : Addr} {xs : List V} (h : H a = some (.lst xs)) : SqL K H a xs := .inl (.inl h)
/-- n in l -/
theorem in_nat {p : Addr} {l : List Nat} {n : Nat} (h : H p = some (.lst (l.map vN))) (q : Q (.bl (decide (n ∈ l))) H) : rIn K false (vN n) (.ref p) H Q :=
  ⟨p, _, rfl, .inl (sqH h), rfl, flat_nat l, by
    show Q (.bl (if false = true then _ else inV (vN n) (l.map vN))) H
    rw [if_neg Bool.false_ne_true, inV_nat]; exact q⟩
theorem notin_nat {p : Addr} {l : List Nat} {n : Nat} (h : H p = some (.lst (l.map vN))) (q : Q (.bl (!decide (n ∈ l))) H) : rIn K true (vN n) (.ref p) H Q :=
  ⟨p, _, rfl, .inl (sqH h), rfl, flat_nat l, by
    show Q (.bl (if true = true then !inV (vN n) (l.map vN) else _)) H
    rw [if_pos rfl, inV_nat]; exact q⟩
/-- xs[i] -/
theorem ix_at {p : Addr} {xs : List V} {i : Nat} {v : V} (h : H p = some (.lst xs)) (e : xs[i]? = some v) (q : Q v H) : rIxL K (.ref p) (vN i) H Q := ⟨p, xs, (i : Int), v, rfl, rfl, sqH h, atI_nat e, q⟩
theorem ixT_at {p : Addr} {xs : List V} {i : Nat} {v : V} (h : SqT K H p xs) (e : xs[i]? = some v) (q : Q v H) : rIxT K (.ref p) (vN i) H Q := ⟨p, xs, (i : Int), v, rfl, rfl, h, atI_nat e, q⟩
theorem ixN_nat {n i : Nat} (h : i < n) : ixN n (i : Int) = some i := by
  unfold ixN
  rw [if_pos (by omega)]
  rw [if_pos (by omega)]; rfl
/-- xs[i] = v -/
theorem set_at {p : Addr} {xs : List V} {i : Nat} {v : V} {Q : Hp → Prop} (h : H p = some (.lst xs)) (e : i < xs.length) (q : Q (upd H p (.lst (xs.set i v)))) : rSetL (.ref p) (vN i) v H Q := ⟨p, xs, (i : Int), i, rfl, rfl, h, ixN_nat e, q⟩
/-- the first True -/
theorem index_true {p : Addr} {bs : List Bool} {j : Nat} (h : SqL K H p (bs.map V.bl)) (e : bs[j]? = some true) (f : ∀ m, m < j → bs[m]? ≠ some true) (q : Q (vN j) H) : rIndex K (.ref p) [.bl true] H Q := by
  refine ⟨p, _, .bl true, j, .bl true, rfl, rfl, h, rfl, ?_, get_map e, rfl, fun m z hm hz => ?_, q⟩
  · clear h e f q
    induction bs with
    | nil => rfl
    | cons _ _ ih => exact ih
  · obtain ⟨b, hb, rfl⟩ := of_get_map hz
    cases b with
    | true => exact absurd hb (f m hm)
    | false => rfl
theorem index_nat {p : Addr} {l : List Nat} {j n : Nat} (h : SqL K H p (l.map vN)) (e : l[j]? = some n) (f : ∀ m, m < j → l[m]? ≠ some n) (q : Q (vN j) H) : rIndex K (.ref p) [vN n] H Q := by
  refine ⟨p, _, vN n, j, vN n, rfl, rfl, h, rfl, flat_nat l, get_nat e, by rw [eqV_nat]; simp, fun m z hm hz => ?_, q⟩
  obtain ⟨b, hb, rfl⟩ := of_get_map hz
  rw [eqV_nat]
  exact decide_eq_false fun z => f m hm (by rw [hb, z])
end

/-! ### what comes to which value -/
def Ev (te : TE) (σ : L2.St) (I H : Hp) (P : V → Hp → Prop) : Prop := ∀ Q : VK, (∀ v I' H', Gr I H I' H' → P v I' → Q v H') → te σ H Q
def EvT (tt : TT) (σ : L2.St) (I H : Hp) (b : Bool) : Prop := ∀ Q : Bool → Hp → Prop, (∀ I' H', Gr I H I' H' → Q b H') → tt σ H Q
theorem evYes {σ : L2.St} {I H : Hp} (s : Same I H) : EvT tYes σ I H true := fun Q q => q I H (Gr.refl s)

/-! ### what is walked -/
/-- J gives the items of l, one after another, while I stands -/
structure Src {α : Type} (J : It) (I : Hp) (l : List α) (r : Rp α) : Prop where
  go : ∀ i H, i < l.length → Same I H → J.go i H
  stop : ∀ H, Same I H → J.stop l.length H
  yld : ∀ i I1 H1 x H', Same I I1 → Same I1 H1 → J.yld i H1 x H' → i < l.length → ∃ e I', l[i]? = some e ∧ Gr I1 H1 I' H' ∧ r.rel e x I'
section
variable {α β : Type} {K : PySem.W.Frag} {r : Rp α} {s : Rp β} {l : List α} {m : List β} {xs ys : List V} {a b : Addr} {I : Hp}
theorem src_list (ha : I a = some (.lst xs)) (hp : Paired (fun e x => r.rel e x I) l xs) : Src (Itl K a) I l r where
  go := fun i H hi e => by
    have hx : i < xs.length := by rw [paired_len hp]; exact hi
    exact ⟨xs, xs[i], sqH (e _ _ ha), by simp [hx]⟩
  stop := fun H e => ⟨xs, sqH (e _ _ ha), by rw [paired_len hp]; exact Nat.le_refl _⟩
  yld := fun i I1 H1 x H' e1 e2 ⟨e3, hy⟩ hi => by
    subst e3
    obtain ⟨e, he, re⟩ := paired_get' hp (hy xs (sqH (e2 _ _ (e1 _ _ ha))))
    exact ⟨e, I1, he, Gr.refl e2, r.up re e1⟩
theorem src_listF {g : α → V} {l : List α} (ha : I a = some (.lst (l.map g))) : Src (Itl K a) I l (rF g) := src_list ha paired_of
theorem src_rng {n : Nat} : Src (Itr 0 n) I (List.range n) rN where
  go := fun i H hi e => by rw [List.length_range] at hi; exact hi
  stop := fun H e => by rw [List.length_range]; exact Nat.le_refl _
  yld := fun i I1 H1 x H' e1 e2 ⟨e3, hy⟩ hi => by
    subst e3
    rw [List.length_range] at hi
    refine ⟨i, I1, by rw [List.getElem?_range hi], Gr.refl e2, ?_⟩
    rw [hy]
    show V.int (0 + (i : Int)) = V.int (i : Int)
    rw [Int.zero_add]
/-- enumerate: the numbers beside the items -/
def enumL (l : List α) : List (Nat × α) := (List.range l.length).zip l
theorem enumL_len {l : List α} : (enumL l).length = l.length := by unfold enumL; rw [List.length_zip, List.length_range]; exact Nat.min_self _
theorem enumL_get {l : List α} {i : Nat} {e : α} (h : l[i]? = some e) : (enumL l)[i]? = some (i, e) := by
  have hi : i < l.length := (List.getElem?_eq_some_iff.mp h).1
  unfold enumL
  rw [List.getElem?_zip_eq_some]
  exact ⟨by rw [List.getElem?_range hi], h⟩
theorem of_enumL {l : List α} {i : Nat} {p : Nat × α} (h : (enumL l)[i]? = some p) : p.1 = i ∧ l[i]? = some p.2 := by
  have hi : i < l.length := by
    have := (List.getElem?_eq_some_iff.mp h).1
    rw [enumL_len] at this
    exact this
  rw [enumL_get (List.getElem?_eq_getElem hi)] at h
  have := Option.some.inj h
  subst this
  exact ⟨rfl, List.getElem?_eq_getElem hi⟩
theorem mem_enumL {l : List α} {p : Nat × α} (h : p ∈ enumL l) : l[p.1]? = some p.2 := by
  obtain ⟨i, hi⟩ := List.getElem?_of_mem h
  obtain ⟨h1, h2⟩ := of_enumL hi
  rw [h1]; exact h2
theorem src_enum (ha : I a = some (.lst xs)) (hp : Paired (fun e x => r.rel e x I) l xs) : Src (Ite K a) I (enumL l) (rT2 K rN r) where
  go := fun i H hi e => by
    have hx : i < xs.length := by rw [paired_len hp]; rw [enumL_len] at hi; exact hi
    exact ⟨xs, xs[i], sqH (e _ _ ha), by simp [hx]⟩
  stop := fun H e => ⟨xs, sqH (e _ _ ha), by rw [paired_len hp, enumL_len]; exact Nat.le_refl _⟩
  yld := fun i I1 H1 x H' e1 e2 ⟨T, y, e3, hT, e4, hy⟩ hi => by
    subst e3 e4
    obtain ⟨e, he, re⟩ := paired_get' hp (hy xs (sqH (e2 _ _ (e1 _ _ ha))))
    have g := Gr.imm (o := .tup [.int (i : Nat), y]) e2 hT
    exact ⟨(i, e), _, enumL_get he, g, T, _, y, rfl, .inl (.inl upd_same), rfl, r.up re (e1.trans g.i)⟩
theorem src_zip (ha : I a = some (.lst xs)) (hp : Paired (fun e x => r.rel e x I) l xs) (hb : I b = some (.lst ys)) (hq : Paired (fun e x => s.rel e x I) m ys) : Src (Itz K a b) I (l.zip m) (rT2 K r s) where
  go := fun i H hi e => by
    rw [List.length_zip] at hi
    have hx : i < xs.length := by rw [paired_len hp]; omega
    have hy : i < ys.length := by rw [paired_len hq]; omega
    exact ⟨xs, ys, xs[i], ys[i], sqH (e _ _ ha), sqH (e _ _ hb), by simp [hx], by simp [hy]⟩
  stop := fun H e => ⟨xs, ys, sqH (e _ _ ha), sqH (e _ _ hb), by rw [paired_len hp, paired_len hq, List.length_zip]; omega⟩
  yld := fun i I1 H1 x H' e1 e2 ⟨T, y, z, e3, hT, e4, hy, hz⟩ hi => by
    subst e3 e4
    obtain ⟨e, he, re⟩ := paired_get' hp (hy xs (sqH (e2 _ _ (e1 _ _ ha))))
    obtain ⟨e', he', re'⟩ := paired_get' hq (hz ys (sqH (e2 _ _ (e1 _ _ hb))))
    have g := Gr.imm (o := .tup [y, z]) e2 hT
    exact ⟨(e, e'), _, by rw [List.getElem?_zip_eq_some]; exact ⟨he, he'⟩, g, T, y, z, rfl, .inl (.inl upd_same), r.up re (e1.trans g.i), s.up re' (e1.trans g.i)⟩
/-- a pair taken apart -/
theorem gPair {β : Type} {s : Rp β} {i j : Nat} {p : α × β} {x : V} {I H : Hp} {σ : L2.St} {Q : L2.St → Hp → Prop} (h : (rT2 K r s).rel p x I) (e : Same I H) (q : ∀ y z, r.rel p.1 y I → s.rel p.2 z I → Q ((σ.set i (some y)).set j (some z)) H) :
    gTup K 2 (gCons (gName i) (gCons (gName j) gNil)) x σ H Q := by
  obtain ⟨a, y, z, rfl, h1, h2, h3⟩ := h
  exact ⟨a, [y, z], rfl, rdT h1 e, rfl, y, [z], rfl, z, [], rfl, rfl, q y z h2 h3⟩
end
/-! ### a comprehension -/
section
variable {α β : Type} {J : It} {r : Rp α} {r' : Rp β} {l : List α} {I H : Hp} {g : TG} {tt : TT} {te : TE} {vs : List Nat} {σ : L2.St} {Qd : Addr → Hp → Prop} {f : α → Bool} {m : α → β}
/-- the W of a comprehension -/
def LcW (J : It) (g : TG) (tt : TT) (te : TE) (vs : List Nat) (σ : L2.St) (H : Hp) (Qd : Addr → Hp → Prop) : Prop := ∀ D, H D = none → ∃ W : Nat → Nat → Hp → Prop, (∃ m, W 0 m (upd H D (.lst []))) ∧ ∀ i m H, W i m H →
      (J.stop i H ∧ Qd D H) ∨ (J.go i H ∧ ∃ Nx : Hp → Prop, (∀ H', Nx H' → ∃ m', m' < m ∧ W (i + 1) m' H') ∧ ∀ x H', J.yld i H x H' → g x (wipe σ vs) H' fun σ2 H2 => wipe σ2 vs = wipe σ vs ∧ tt σ2 H2 fun b H3 =>
        if b = true then te σ2 H3 fun y H4 =>
          ∃ acc, H4 D = some (.lst acc) ∧ acc.length < sizeLine ∧ Nx (upd H4 D (.lst (acc ++ [y]))) else Nx H3)
theorem lc_src (src : Src J I l r) (s : Same I H) (hz : l.length ≤ 90000)
    (turn : ∀ (e : α) (x : V) (I1 H1 : Hp), e ∈ l → r.rel e x I1 → Gr I H I1 H1 → ∀ Qg : L2.St → Hp → Prop, (∀ σ2, wipe σ2 vs = wipe σ vs → EvT tt σ2 I1 H1 (f e) → (∀ I2 H2, Gr I1 H1 I2 H2 → f e = true → Ev te σ2 I2 H2 (r'.rel (m e))) → Qg σ2 H1) → g x (wipe σ vs) H1 Qg)
    (q : ∀ D I' H' ys, Gr I H I' H' → Mu H I' H' D (.lst ys) → Paired (fun e x => r'.rel e x I') ((l.filter f).map m) ys → Qd D H') : LcW J g tt te vs σ H Qd := by
  intro D hD
  refine ⟨fun i k H' => k = l.length - i ∧ i ≤ l.length ∧ ∃ I' ys, Gr I H I' H' ∧ Mu H I' H' D (.lst ys) ∧ Paired (fun e x => r'.rel e x I') (((l.take i).filter f).map m) ys, ⟨l.length, rfl, Nat.zero_le _, I, [], Gr.mut s hD, ⟨hD, s.free hD, upd_same⟩, .nil⟩, ?_⟩
  rintro i k H1 ⟨rfl, hi, I1, ys, g1, mu, pr⟩
  have sI : Same I H1 := fun b z e => g1.s _ _ (g1.i _ _ e)
  by_cases hlt : i < l.length
  · refine .inr ⟨src.go i H1 hlt sI, fun H' => ∃ I' ys, Gr I H I' H' ∧ Mu H I' H' D (.lst ys) ∧ Paired (fun e x => r'.rel e x I') (((l.take (i + 1)).filter f).map m) ys,
      fun H' h => ⟨l.length - (i + 1), by omega, rfl, hlt, h⟩, fun x H1' hy => ?_⟩
    obtain ⟨e, I1', he, g1', re⟩ := src.yld i I1 H1 x H1' g1.i g1.s hy hlt
    have mu := mu.up g1'
    have gg := g1.trans g1'
    refine turn e x I1' H1' (List.mem_of_getElem? he) re gg _ fun σ2 hw ht hv => ⟨hw, ht _ fun I2 H2 g2 => ?_⟩
    have tk : l.take (i + 1) = l.take i ++ [e] := by rw [List.take_add_one, he]; rfl
    have ylen : ys.length ≤ l.length := by
      rw [paired_len pr, List.length_map]
      exact Nat.le_trans (List.length_filter_le _ _) (by rw [List.length_take]; exact Nat.min_le_right _ _)
    cases hf : f e with
    | true =>
      refine (if_pos rfl).mpr (hv I2 H2 g2 hf _ fun y I3 H3 g3 ry => ?_)
      have mu3 := (mu.up g2).up g3
      refine ⟨ys, mu3.h, line_lt (by omega), I3, ys ++ [y], ((gg.trans g2).trans g3).put mu3, mu3.set, ?_⟩
      rw [tk, List.filter_append, List.map_append]
      have e1 : ([e].filter f).map m = [m e] := by rw [List.filter_cons, if_pos hf]; rfl
      rw [e1]
      exact paired_snoc (paired_up pr (g1'.i.trans (g2.i.trans g3.i))) ry
    | false =>
      refine (if_neg Bool.false_ne_true).mpr ⟨I2, ys, gg.trans g2, mu.up g2, ?_⟩
      rw [tk, List.filter_append, List.map_append]
      have e1 : ([e].filter f).map m = [] := by rw [List.filter_cons, if_neg (by rw [hf]; exact Bool.false_ne_true)]; rfl
      rw [e1, List.append_nil]
      exact paired_up pr (g1'.i.trans g2.i)
  · have ei : i = l.length := by omega
    subst ei
    rw [List.take_length] at pr
    exact .inl ⟨src.stop H1 sI, q D I1 H1 ys g1 mu pr⟩
/-- flat items: the list itself -/
theorem lc_flat {v : β → V} (src : Src J I l r) (s : Same I H) (hz : l.length ≤ 90000)
    (turn : ∀ (e : α) (x : V) (I1 H1 : Hp), e ∈ l → r.rel e x I1 → Gr I H I1 H1 → ∀ Qg : L2.St → Hp → Prop, (∀ σ2, wipe σ2 vs = wipe σ vs → EvT tt σ2 I1 H1 (f e) → (∀ I2 H2, Gr I1 H1 I2 H2 → f e = true → Ev te σ2 I2 H2 fun y _ => y = v (m e)) → Qg σ2 H1) → g x (wipe σ vs) H1 Qg)
    (q : ∀ D I' H', Gr I H I' H' → Mu H I' H' D (.lst (((l.filter f).map m).map v)) → Qd D H') : LcW J g tt te vs σ H Qd :=
  lc_src (r' := rF v) src s hz turn fun D I' H' ys gg mu pr => by
    have e : ys = ((l.filter f).map m).map v := paired_map pr
    subst e
    exact q D I' H' gg mu
end

/-! ### a for -/
section
variable {α : Type} {J : It} {r : Rp α} {l : List α} {I0 H0 I H : Hp} {g : TG} {tb : TS} {D : Ends} {σ : L2.St}
/-- what a turn is to reach -/
def Nx (I0 H0 I : Hp) (Inv : L2.St → Hp → Hp → Prop) : L2.St → Hp → Prop := fun σ3 H3 => ∃ I3, Gr I0 H0 I3 H3 ∧ Same I I3 ∧ Inv σ3 I3 H3
def ForW (J : It) (g : TG) (tb : TS) (D : Ends) (σ : L2.St) (H : Hp) : Prop := ∃ W : Nat → Nat → L2.St → Hp → Prop, (∃ m, W 0 m σ H) ∧ ∀ i m σ H, W i m σ H →
      (J.stop i H ∧ D.nx σ H) ∨ (J.go i H ∧ ∃ N : L2.St → Hp → Prop, (∀ σ' H', N σ' H' → ∃ m', m' < m ∧ W (i + 1) m' σ' H') ∧ ∀ x H', J.yld i H x H' → g x σ H' fun σ2 H2 => tb { D with nx := N, ct := N, bk := D.nx } σ2 H2)
theorem for_src (Inv : Nat → L2.St → Hp → Hp → Prop) (src : Src J I l r) (g0 : Gr I0 H0 I H) (h0 : Inv 0 σ I H)
    (hs : ∀ i e x σ1 I1 H1 I2 H2, l[i]? = some e → Gr I0 H0 I1 H1 → Same I I1 → Inv i σ1 I1 H1 → Gr I1 H1 I2 H2 → r.rel e x I2 → g x σ1 H2 fun σ2 H3 => tb { D with nx := Nx I0 H0 I (Inv (i + 1)), ct := Nx I0 H0 I (Inv (i + 1)), bk := D.nx } σ2 H3)
    (hd : ∀ σ1 I1 H1, Gr I0 H0 I1 H1 → Same I I1 → Inv l.length σ1 I1 H1 → D.nx σ1 H1) : ForW J g tb D σ H := by
  refine ⟨fun i k σ' H' => k = l.length - i ∧ i ≤ l.length ∧ Nx I0 H0 I (Inv i) σ' H', ⟨l.length, rfl, Nat.zero_le _, I, g0, .refl _, h0⟩, ?_⟩
  rintro i k σ1 H1 ⟨rfl, hi, I1, g1, e1, v⟩
  have sI : Same I H1 := fun b z e => g1.s _ _ (e1 _ _ e)
  by_cases hlt : i < l.length
  · refine .inr ⟨src.go i H1 hlt sI, Nx I0 H0 I (Inv (i + 1)), fun σ' H' h => ⟨l.length - (i + 1), by omega, rfl, hlt, h⟩, fun x H2 hy => ?_⟩
    obtain ⟨e, I2, he, g2, re⟩ := src.yld i I1 H1 x H2 e1 g1.s hy hlt
    exact hs i e x σ1 I1 H1 I2 H2 he g1 e1 v g2 re
  · have ei : i = l.length := by omega
    subst ei
    exact .inl ⟨src.stop H1 sI, hd σ1 I1 H1 g1 e1 v⟩
/-- over lo, lo + c, .. -/
theorem for_rngC {lo c : Int} {n : Nat} (Inv : Nat → L2.St → Hp → Hp → Prop) (g0 : Gr I0 H0 I H) (h0 : Inv 0 σ I H)
    (hs : ∀ i σ1 I1 H1, i < n → Gr I0 H0 I1 H1 → Same I I1 → Inv i σ1 I1 H1 → g (.int (lo + (i : Nat) * c)) σ1 H1 fun σ2 H2 => tb { D with nx := Nx I0 H0 I (Inv (i + 1)), ct := Nx I0 H0 I (Inv (i + 1)), bk := D.nx } σ2 H2)
    (hd : ∀ σ1 I1 H1, Gr I0 H0 I1 H1 → Same I I1 → Inv n σ1 I1 H1 → D.nx σ1 H1) : ForW (Itc lo c n) g tb D σ H := by
  refine for_rangeC (lo := lo) (c := c) (n := n) (fun i σ' H' => Nx I0 H0 I (Inv i) σ' H') ⟨I, g0, .refl _, h0⟩ ?_ ?_
  · rintro i σ' H' hi ⟨I', g1, e1, v⟩
    exact hs i σ' I' H' hi g1 e1 v
  · rintro σ' H' ⟨I', g1, e1, v⟩
    exact hd σ' I' H' g1 e1 v
end
end OC
namespace OC
open PySem PySem.Spec PyProof.Rows L2
def kS : Kd → Str
  | .draw => "draw"
  | .ours => "ours"
  | .theirs => "theirs"
theorem kS_inj {a b : Kd} : decide (V.str (kS a) = V.str (kS b)) = decide (a = b) := by cases a <;> cases b <;> decide +kernel
/-- a branch with the chance 1 -/
def rBr (K : PySem.W.Frag) : Rp Nat := ⟨fun t v I => ∃ a x, v = .ref a ∧ SqT K I a [x, vN t] ∧ (rQ K).rel 1 x I, fun ⟨a, x, h1, h2, h3⟩ e => ⟨a, x, h1, rdT h2 e, (rQ K).up h3 e⟩⟩
/-- the branches of a place -/
def rTs (K : PySem.W.Frag) : Kd → Rp (List Nat)
  | .draw => rL (rBr K)
  | .ours => rNs
  | .theirs => rNs
theorem rTs_side {K : PySem.W.Frag} {k : Kd} (h : k ≠ .draw) : rTs K k = rNs := by cases k <;> first | rfl | exact absurd rfl h
/-- a place -/
def rP (K : PySem.W.Frag) : Rp Pl := ⟨fun pl v I => ∃ a b, v = .ref a ∧ SqT K I a [vN pl.mark, .str (kS pl.kd), b] ∧ (rTs K pl.kd).rel pl.ts b I, fun ⟨a, b, h1, h2, h3⟩ e => ⟨a, b, h1, rdT h2 e, (rTs K _).up h3 e⟩⟩
abbrev rG (K : PySem.W.Frag) : Rp Gm := rL (rP K)
/-- a module's constant that is a whole number -/
def Cst (K : PySem.W.Frag) (mg : Str → Option Value) (x : Str) (z : Int) : Prop := ∃ a, mg x = some (.ref a) ∧ ∀ I, SqT K I a [.int z, .int 1]
section
variable {K : PySem.W.Frag} {I H : Hp} {Q : VK}
/-- a game's place, by its number -/
theorem rG_at {G : Gm} {v : V} {p : Nat} (h : (rG K).rel G v I) (s : Same I H) (hp : p < G.length) : ∃ a xs pl y, v = .ref a ∧ G[p]? = some pl ∧ (rP K).rel pl y I ∧ SqL K H a xs ∧ xs[p]? = some y := by
  obtain ⟨a, xs, rfl, h1, h2⟩ := h
  obtain ⟨pl, hpl⟩ := pl_at hp
  obtain ⟨y, hy, ry⟩ := paired_get h2 hpl
  exact ⟨a, xs, pl, y, rfl, hpl, ry, sqH (s _ _ h1), hy⟩
end
/-- a module's own object -/
theorem pe_gr {X : Cx} {x : Str} {a : Addr} {pos : Pos} (hg : Gl X x) (hm : X.mg x = some (.ref a)) (hd : (x == ("__debug__" : Str)) = false := by decide) : PE X (.Name x pos) (tC (.ref a)) := pe_glob hg hm rfl hd
/-! ### rules in the forms that are wanted here -/
section
variable {X : Cx}
theorem OpR.imp {f : Value → Value → Sem Value} {r r' : R2} (h : OpR X f r) (i : ∀ x y H Q, r' x y H Q → r x y H Q) : OpR X f r' := fun pins s σ H x y v u Q I rx ry q => h pins s σ H x y v u Q I rx ry (i _ _ _ _ q)
theorem CallR.imp {f : Value} {r r' : List V → Hp → VK → Prop} (h : CallR X f r) (i : ∀ xs H Q, r' xs H Q → r xs H Q) : CallR X f r' := fun pins s σ H xs us Q I rx q => h pins s σ H xs us Q I rx (i _ _ _ q)
theorem IxR.imp {r r' : R2} (h : IxR X r) (i : ∀ x y H Q, r' x y H Q → r x y H Q) : IxR X r' := fun e1 e2 pins s σ H x y v u Q I rx ry q => h e1 e2 pins s σ H x y v u Q I rx ry (i _ _ _ _ q)
theorem MtR.imp {id : String} {r r' : V → List V → Hp → VK → Prop} (h : MtR X id r) (i : ∀ x xs H Q, r' x xs H Q → r x xs H Q) : MtR X id r' := fun pins s σ H x xs v us Q I rx ry q => h pins s σ H x xs v us Q I rx ry (i _ _ _ _ q)
theorem PSet.imp {t t' : TSet} (h : PSet X t) (i : ∀ x y z H Q, t' x y z H Q → t x y z H Q) : PSet X t' := fun pins s σ H o ix v ov iv u Q I r1 r2 r3 q => h pins s σ H o ix v ov iv u Q I r1 r2 r3 (i _ _ _ _ _ q)
variable (K : PySem.W.Frag)
/-- n in l, n not in l -/
def rInN : R2 := fun x y H Q => ∃ (p : Addr) (l : List Nat) (n : Nat), x = vN n ∧ y = .ref p ∧ SqL K H p (l.map vN) ∧ Q (.bl (decide (n ∈ l))) H
def rNotInN : R2 := fun x y H Q => ∃ (p : Addr) (l : List Nat) (n : Nat), x = vN n ∧ y = .ref p ∧ SqL K H p (l.map vN) ∧ Q (.bl (!decide (n ∈ l))) H
theorem op_inN (h : X.K = K := by rfl) : OpR X (compareOp .In) (rInN K) := h ▸ OpR.imp op_in_seq fun x y H Q ⟨p, l, n, e1, e2, h1, q⟩ => by
  subst e1 e2
  exact ⟨p, _, rfl, .inl h1, rfl, flat_nat l, (by
    show Q (.bl (if false = true then _ else inV (vN n) (l.map vN))) H
    rw [if_neg Bool.false_ne_true, inV_nat]; exact q)⟩
theorem op_notInN (h : X.K = K := by rfl) : OpR X (compareOp .NotIn) (rNotInN K) := h ▸ OpR.imp op_notIn_seq fun x y H Q ⟨p, l, n, e1, e2, h1, q⟩ => by
  subst e1 e2
  exact ⟨p, _, rfl, .inl h1, rfl, flat_nat l, (by
    show Q (.bl (if true = true then !inV (vN n) (l.map vN) else _)) H
    rw [if_pos rfl, inV_nat]; exact q)⟩
/-- sorted(l) -/
def rSortedN : List V → Hp → VK → Prop := fun vs H Q => ∃ (a : Addr) (l : List Nat), vs = [V.ref a] ∧ SqL K H a (l.map vN) ∧ ∀ (l' : List Nat) (p : Addr), l'.Perm l → l'.Pairwise (· ≤ ·) → H p = none → Q (.ref p) (upd H p (.lst (l'.map vN)))
theorem cr_sortedN (h : X.K = K := by rfl) : CallR X (.builtin "sorted") (rSortedN K) := h ▸ CallR.imp cr_sortedI fun vs H Q ⟨a, l, e, h1, q⟩ => by
  subst e
  refine ⟨a, l.map (fun n : Nat => (n : Int)), rfl, by rw [List.map_map]; exact h1, fun ns' p hperm hpw hp => ?_⟩
  have e : ns' = (ns'.map Int.toNat).map (fun n : Nat => (n : Int)) := by
    rw [List.map_map]
    have : ∀ x ∈ ns', ((fun n : Nat => (n : Int)) ∘ Int.toNat) x = x := fun x hx => by
      obtain ⟨n, _, e⟩ := List.mem_map.mp (hperm.mem_iff.mp hx)
      subst e
      rfl
    exact (List.map_id' ns').symm.trans (List.map_congr_left fun x hx => (this x hx).symm)
  have hl : (ns'.map Int.toNat).Perm l := by
    have := hperm.map Int.toNat
    rw [List.map_map] at this
    have e2 : l.map (Int.toNat ∘ fun n : Nat => (n : Int)) = l := (List.map_congr_left fun x _ => rfl).trans (List.map_id' l)
    rw [e2] at this
    exact this
  have hq := q (ns'.map Int.toNat) p hl (by
    rw [List.pairwise_map]
    exact hpw.imp_of_mem fun {a b} ha hb hab => by omega) hp
  have e3 : ns'.map V.int = (ns'.map Int.toNat).map vN := by
    have := congrArg (List.map V.int) e
    rw [List.map_map, List.map_map] at this
    rw [List.map_map]
    exact this
  rw [e3]
  exact hq
/-- max(l) -/
def rMaxN : List V → Hp → VK → Prop := fun vs H Q => ∃ (a : Addr) (l : List Nat), vs = [V.ref a] ∧ SqL K H a (l.map vN) ∧ l ≠ [] ∧ ∀ m, m ∈ l → (∀ y ∈ l, y ≤ m) → Q (vN m) H
theorem cr_maxN (hc : X.calm = true) (h : X.K = K := by rfl) : CallR X (.builtin "max") (rMaxN K) := h ▸ CallR.imp (cr_max hc) fun vs H Q ⟨a, l, e, h1, ne, q⟩ => by
  subst e
  refine ⟨a, l.map (fun n : Nat => (n : Int)), rfl, by rw [List.map_map]; exact h1, by rw [List.length_map]; exact List.length_pos_iff.mpr ne, fun m hm hle => ?_⟩
  obtain ⟨n, hn, e⟩ := List.mem_map.mp hm
  subst e
  exact q n hn fun y hy => by
    have := hle (y : Int) (List.mem_map.mpr ⟨y, hy, rfl⟩)
    omega
/-- the first True; the place of n -/
def rIndexT : V → List V → Hp → VK → Prop := fun x vs H Q => ∃ (a : Addr) (bs : List Bool) (j : Nat), x = .ref a ∧ vs = [.bl true] ∧ SqL K H a (bs.map V.bl) ∧ bs[j]? = some true ∧ (∀ m, m < j → bs[m]? ≠ some true) ∧ Q (vN j) H
theorem mt_indexT (h : X.K = K := by rfl) : MtR X "list.index" (rIndexT K) := h ▸ MtR.imp mt_index fun x vs H Q ⟨a, bs, j, e1, e2, h1, h2, h3, q⟩ => by
  subst e1 e2
  exact index_true h1 h2 h3 q
def rIndexN : V → List V → Hp → VK → Prop := fun x vs H Q => ∃ (a : Addr) (l : List Nat) (j n : Nat), x = .ref a ∧ vs = [vN n] ∧ SqL K H a (l.map vN) ∧ l[j]? = some n ∧ (∀ m, m < j → l[m]? ≠ some n) ∧ Q (vN j) H
theorem mt_indexN (h : X.K = K := by rfl) : MtR X "list.index" (rIndexN K) := h ▸ MtR.imp mt_index fun x vs H Q ⟨a, l, j, n, e1, e2, h1, h2, h3, q⟩ => by
  subst e1 e2
  exact index_nat h1 h2 h3 q
/-- xs[i], xs[i] = v -/
def rIxN : R2 := fun x y H Q => ∃ (p : Addr) (xs : List V) (i : Nat) (v : V), x = .ref p ∧ y = vN i ∧ SqL K H p xs ∧ xs[i]? = some v ∧ Q v H
theorem ix_N (h : X.K = K := by rfl) : IxR X (rIxN K) := h ▸ IxR.imp ix_list fun x y H Q ⟨p, xs, i, v, e1, e2, h1, h2, q⟩ => by
  subst e1 e2
  exact ⟨p, xs, (i : Int), v, rfl, rfl, h1, atI_nat h2, q⟩
def rSetN : V → V → V → Hp → (Hp → Prop) → Prop := fun o y v H Q => ∃ (p : Addr) (xs : List V) (i : Nat), o = .ref p ∧ y = vN i ∧ H p = some (.lst xs) ∧ i < xs.length ∧ Q (upd H p (.lst (xs.set i v)))
theorem set_N : PSet X rSetN := PSet.imp set_list fun o y v H Q ⟨p, xs, i, e1, e2, h1, h2, q⟩ => by
  subst e1 e2
  exact ⟨p, xs, (i : Int), i, rfl, rfl, h1, ixN_nat h2, q⟩
theorem pe_bmK {o e : Expr} {es : List Expr} {to : TE} {t : TA} {name : Str} {apos cpos : Pos} {T id : String} {r : V → List V → Hp → VK → Prop} (pa : PlainAttrs T) (slot : Slot T name id) (hty : typeOf (.builtin id) = pure (.type "method_descriptor")) (hm : MtR X id r) (ho : PE X o to) (ha : PA X (e :: es) t) (h : X.K = K := by rfl)
    (hbase : attributeBase o name X.env (eval o X.env) = eval o X.env := by rfl) (hfew : ((backTo cpos (starEach (e :: es) X.env)).all (fun x => !x.1) && (backToKw cpos (keywordEach [] X.env)).all (fun x => x.1.isSome)
      && decide ((e :: es).length + ([] : List Keyword).length + (if ([] : List Keyword).isEmpty then 0 else 1) < 30)) = true := by rfl) (hline : (apos.endLine == cpos.line) = true := by rfl) (hs : starEach (e :: es) X.env = (false, eval e X.env) :: starEach es X.env := by rfl) (hplain : (backTo cpos (starEach es X.env)).any (·.1) = false := by rfl) :
    PE X (.Call (.Attribute o name apos) (e :: es) [] cpos) (tBM K T r to t) := h ▸ pe_bm pa slot hty hm ho ha hbase hfew hline hs hplain
/-- xs[-1], xs[-1] = v -/
def rIxLast : R2 := fun x y H Q => ∃ (p : Addr) (xs : List V) (v : V), x = .ref p ∧ y = .int (-1) ∧ SqL K H p (xs ++ [v]) ∧ Q v H
theorem ix_last (h : X.K = K := by rfl) : IxR X (rIxLast K) := h ▸ IxR.imp ix_list fun x y H Q ⟨p, xs, v, e1, e2, h1, q⟩ => by
  subst e1 e2
  exact ⟨p, _, -1, v, rfl, rfl, h1, atI_last _ _, q⟩
def rSetLast : V → V → V → Hp → (Hp → Prop) → Prop := fun o y v H Q => ∃ (p : Addr) (xs : List V) (u : V), o = .ref p ∧ y = .int (-1) ∧ H p = some (.lst (xs ++ [u])) ∧ Q (upd H p (.lst (xs ++ [v])))
theorem set_last : PSet X rSetLast := PSet.imp set_list fun o y v H Q ⟨p, xs, u, e1, e2, h1, q⟩ => by
  subst e1 e2
  refine ⟨p, _, -1, xs.length, rfl, rfl, h1, ?_, ?_⟩
  · unfold ixN
    rw [if_neg (by omega), List.length_append]
    show (if -((xs.length + 1 : Nat) : Int) ≤ -1 then some ((-1 + ((xs.length + 1 : Nat) : Int)).toNat) else none) = _
    rw [if_pos (by omega)]
    congr 1
    omega
  · rw [List.set_append_right _ _ (Nat.le_refl _), Nat.sub_self]
    exact q
/-- xs.append(n), xs.pop() -/
def rAppN : V → List V → Hp → VK → Prop := fun x vs H Q => ∃ (p : Addr) (l : List Nat) (n : Nat), x = .ref p ∧ vs = [vN n] ∧ H p = some (.lst (l.map vN)) ∧ l.length < 100000 ∧ Q .non (upd H p (.lst ((l ++ [n]).map vN)))
theorem mt_appN : MtR X "list.append" rAppN := MtR.imp mt_append fun x vs H Q ⟨p, l, n, e1, e2, h1, h2, q⟩ => by
  subst e1 e2
  refine ⟨p, _, _, rfl, rfl, h1, line_lt (by rw [len_nat]; exact h2), ?_⟩
  rw [List.map_append] at q
  exact q
def rPopN : V → List V → Hp → VK → Prop := fun x vs H Q => ∃ (p : Addr) (l : List Nat) (n : Nat), x = .ref p ∧ vs = [] ∧ H p = some (.lst ((l ++ [n]).map vN)) ∧ Q (vN n) (upd H p (.lst (l.map vN)))
theorem mt_popN : MtR X "list.pop" rPopN := MtR.imp mt_pop fun x vs H Q ⟨p, l, n, e1, e2, h1, q⟩ => by
  subst e1 e2
  refine ⟨p, _, vN n, rfl, rfl, h1, ?_, ?_⟩
  · rw [len_nat, List.length_append, List.getElem?_map]
    show Option.map vN (l ++ [n])[l.length + 1 - 1]? = _
    rw [Nat.add_sub_cancel, List.getElem?_append_right (Nat.le_refl _), Nat.sub_self]
    rfl
  · rw [List.map_append]
    show Q (vN n) (upd H p (.lst ((l.map vN ++ [vN n]).dropLast)))
    rw [List.dropLast_concat]
    exact q
/-- two whole numbers compared -/
theorem dp_Q {H : Hp} {a : Addr} {z : Int} (h : SqT K H a [.int z, .int 1]) : Dp K H (.ref a) (.tuple [.int z, .int 1]) := .tup h (.cons (.int z) (.cons (.int 1) .nil))
theorem shaped_Q {z : Int} : SeqAt.shaped (.tuple [.int z, .int 1]) = true := rfl
theorem eqv_Q {z y : Int} : PyData.eqv (.tuple [.int z, .int 1]) (.tuple [.int y, .int 1]) = decide (z = y) := by
  have e : PyData.eqv (.tuple [.int z, .int 1]) (.tuple [.int y, .int 1]) = ((z == y) && (((1 : Int) == 1) && true)) := by
    simp only [PyData.eqvAll, PyData.eqv]
  rw [e]
  by_cases h : z = y
  · subst h; simp
  · simp [h]
def rEqQ : R2 := fun x y H Q => ∃ p q a b, x = .ref p ∧ y = .ref q ∧ SqT K H p [.int a, .int 1] ∧ SqT K H q [.int b, .int 1] ∧ Q (.bl (decide (a = b))) H
def rNeQ : R2 := fun x y H Q => ∃ p q a b, x = .ref p ∧ y = .ref q ∧ SqT K H p [.int a, .int 1] ∧ SqT K H q [.int b, .int 1] ∧ Q (.bl (!decide (a = b))) H
theorem op_eqQ (hu : X.A.units + 64 < cLine) (h : X.K = K := by rfl) : OpR X (compareOp .Eq) (rEqQ K) := h ▸ OpR.imp (op_eqD hu) fun x y H Q ⟨p, r, a, b, e1, e2, h1, h2, q⟩ => by
  subst e1 e2
  exact ⟨_, _, dp_Q _ h1, dp_Q _ h2, shaped_Q, shaped_Q, by rw [eqv_Q]; exact q⟩
theorem op_neQ (hu : X.A.units + 64 < cLine) (h : X.K = K := by rfl) : OpR X (compareOp .NotEq) (rNeQ K) := h ▸ OpR.imp (op_neD hu) fun x y H Q ⟨p, r, a, b, e1, e2, h1, h2, q⟩ => by
  subst e1 e2
  exact ⟨_, _, dp_Q _ h1, dp_Q _ h2, shaped_Q, shaped_Q, by rw [eqv_Q]; exact q⟩
/-- two strategies compared -/
def dO : Option Nat → PyData
  | none => .none
  | some n => .int (n : Int)
theorem dp_O {H : Hp} (l : List (Option Nat)) : DpAll K H (l.map vO) (l.map dO) := by
  induction l with
  | nil => exact .nil
  | cons a l ih =>
    cases a with
    | none => exact .cons .non ih
    | some n => exact .cons (.int _) ih
theorem eqv_O : ∀ l m : List (Option Nat), PyData.eqvAll (l.map dO) (m.map dO) = decide (l = m)
  | [], [] => rfl
  | [], _ :: _ => rfl
  | _ :: _, [] => rfl
  | a :: l, b :: m => by
    have ih := eqv_O l m
    show (PyData.eqv (dO a) (dO b) && PyData.eqvAll (l.map dO) (m.map dO)) = _
    rw [ih]
    have e : PyData.eqv (dO a) (dO b) = decide (a = b) := by
      cases a with
      | none =>
        cases b with
        | none => rfl
        | some n => rfl
      | some n =>
        cases b with
        | none => rfl
        | some k =>
          show ((n : Int) == (k : Int)) = _
          by_cases h : n = k
          · subst h; simp
          · have : ¬ (some n = some k) := fun z => h (Option.some.inj z)
            rw [decide_eq_false this]
            exact beq_eq_false_iff_ne.mpr fun e => h (Int.ofNat.inj e)
    rw [e]
    by_cases h1 : a = b <;> by_cases h2 : l = m <;> simp [h1, h2]
theorem shaped_O (l : List (Option Nat)) : SeqAt.shaped (.list (l.map dO)) = true := by
  have h : ∀ l : List (Option Nat), PyData.canLayAll0 (l.map dO) = true ∧ PyData.depthAll (l.map dO) ≤ 1 := by
    intro l
    induction l with
    | nil => exact ⟨rfl, by decide⟩
    | cons a l ih =>
      cases a with
      | none => exact ⟨ih.1, Nat.max_le.mpr ⟨by decide, ih.2⟩⟩
      | some n => exact ⟨ih.1, Nat.max_le.mpr ⟨Nat.zero_le 1, ih.2⟩⟩
  have h := h l
  show (PyData.canLayAll0 (l.map dO) && decide (PyData.depthAll (l.map dO) + 1 ≤ 64)) = true
  rw [h.1, decide_eq_true (by omega)]
  rfl
def rEqO : R2 := fun x y H Q => ∃ (p q : Addr) (l m : List (Option Nat)), x = .ref p ∧ y = .ref q ∧ SqL K H p (l.map vO) ∧ SqL K H q (m.map vO) ∧ Q (.bl (decide (l = m))) H
theorem op_eqO (hu : X.A.units + 64 < cLine) (h : X.K = K := by rfl) : OpR X (compareOp .Eq) (rEqO K) := h ▸ OpR.imp (op_eqD hu) fun x y H Q ⟨p, r, l, m, e1, e2, h1, h2, q⟩ => by
  subst e1 e2
  refine ⟨_, _, .lst h1 (dp_O _ l), .lst h2 (dp_O _ m), shaped_O l, shaped_O m, ?_⟩
  have e : PyData.eqv (.list (l.map dO)) (.list (m.map dO)) = PyData.eqvAll (l.map dO) (m.map dO) := by simp only [PyData.eqv]
  rw [e, eqv_O]
  exact q
end
/-! ### the rules with K told (within a comprehension's block K is that of the def) -/
section
variable {X : Cx} (K : PySem.W.Frag)
theorem ix_tupK (h : X.K = K := by rfl) : IxR X (rIxT K) := h ▸ ix_tup
theorem ix_listK (h : X.K = K := by rfl) : IxR X (rIxL K) := h ▸ ix_list
theorem op_inK (h : X.K = K := by rfl) : OpR X (compareOp .In) (rIn K false) := h ▸ op_in_seq
theorem op_notInK (h : X.K = K := by rfl) : OpR X (compareOp .NotIn) (rIn K true) := h ▸ op_notIn_seq
theorem op_eqDK (hu : X.A.units + 64 < cLine) (h : X.K = K := by rfl) : OpR X (compareOp .Eq) (rEqD K) := h ▸ op_eqD hu
theorem op_neDK (hu : X.A.units + 64 < cLine) (h : X.K = K := by rfl) : OpR X (compareOp .NotEq) (rNeD K) := h ▸ op_neD hu
theorem mt_indexK (h : X.K = K := by rfl) : MtR X "list.index" (rIndex K) := h ▸ mt_index
end
end OC
namespace OC
open PySem PySem.Spec PyProof.Rows L2
/-! ### sorted of a list of lists -/
section
variable {X : Cx} (K : PySem.W.Frag)
def encL (b : V × List Nat) : PyData := .list (b.2.map fun n : Nat => PyData.int (n : Int))
def rSortedL : List V → Hp → VK → Prop := fun vs H Q => ∃ (a : Addr) (xs : List V) (Ls : List (List Nat)) (rl : List Nat → V → Prop), vs = [V.ref a] ∧ H a = some (.lst xs) ∧ (∀ L x, rl L x → ∃ b, x = V.ref b ∧ H b = some (.lst (L.map vN))) ∧ Paired rl Ls xs ∧
  ∀ (Ls' : List (List Nat)) (xs' : List V) (p : Addr), Ls'.Perm Ls → Paired rl Ls' xs' → H p = none → Q (.ref p) (upd H p (.lst xs'))
theorem dp_ints {H : Hp} : ∀ l : List Nat, DpAll K H (l.map vN) (l.map fun n : Nat => PyData.int (n : Int))
  | [] => .nil
  | _ :: l => .cons (.int _) (dp_ints l)
theorem paired_zip {α : Type} {r : α → V → Prop} : ∀ {l : List α} {xs : List V}, Paired r l xs → (xs.zip l).map (·.1) = xs ∧ (xs.zip l).map (·.2) = l ∧ ∀ b ∈ xs.zip l, r b.2 b.1
  | _, _, .nil => ⟨rfl, rfl, fun _ h => nomatch h⟩
  | _, _, .cons h t => by
    obtain ⟨h1, h2, h3⟩ := paired_zip t
    refine ⟨?_, ?_, fun b hb => ?_⟩
    · exact congrArg (List.cons _) h1
    · exact congrArg (List.cons _) h2
    · rcases List.mem_cons.mp hb with e | hb2
      · rw [e]; exact h
      · exact h3 b hb2
theorem paired_of_mem {α : Type} {r : α → V → Prop} : ∀ {bs : List (V × α)}, (∀ b ∈ bs, r b.2 b.1) → Paired r (bs.map (·.2)) (bs.map (·.1))
  | [], _ => .nil
  | b :: bs, h => .cons (h b List.mem_cons_self) (paired_of_mem fun c hc => h c (List.mem_cons_of_mem _ hc))
theorem each_rel : ∀ {bs : List (V × List Nat)} {us : List Value}, Vals (bs.map (·.1)) us → PySem.W.EachIs (fun u b => RelV b.1 u) us bs
  | [], _, .nil => .nil
  | _ :: _, _, .cons h t => .cons h (each_rel t)
theorem vals_each : ∀ {bs : List (V × List Nat)} {us : List Value}, PySem.W.EachIs (fun u b => RelV b.1 u) us bs → Vals (bs.map (·.1)) us
  | _, _, .nil => .nil
  | _, _, .cons h t => .cons h (vals_each t)
theorem each_mem2 {α β : Type} {R S : α → β → Prop} : ∀ {as : List α} {bs : List β}, PySem.W.EachIs R as bs → (∀ a b, b ∈ bs → R a b → S a b) → PySem.W.EachIs S as bs
  | _, _, .nil, _ => .nil
  | _, _, .cons h t, f => .cons (f _ _ List.mem_cons_self h) (each_mem2 t fun a b hb => f a b (List.mem_cons_of_mem _ hb))
theorem alike_encL (b b' : V × List Nat) : PySem.W.alike (encL b) (encL b') = true := by
  have := PySem.W.alike_ints (b.2.map fun n : Nat => (n : Int)) (b'.2.map fun n : Nat => (n : Int))
  rw [List.map_map, List.map_map] at this
  exact this
theorem depth_encL (b : V × List Nat) : (encL b).depth = 1 := by
  have := PySem.W.depth_ints (b.2.map fun n : Nat => (n : Int))
  rw [List.map_map] at this
  show PyData.depthAll (b.2.map (PyData.int ∘ fun n : Nat => (n : Int))) + 1 = 1
  rw [this]
theorem cr_sortedL (hu : X.A.units + 64 < cLine) : CallR X (.builtin "sorted") rSortedL := by
  intro pins s σ H vs us Q I r ⟨a, xs, Ls, rl, hvs, ha, hrl, hp, q⟩
  subst hvs
  obtain ⟨its, rv, hl, hz⟩ := I.list (SqL.of ha)
  rw [Vals.ref1 r]
  obtain ⟨z1, z2, z3⟩ := paired_zip hp
  generalize hb : xs.zip Ls = bs at z1 z2 z3
  have rv' : Vals (bs.map (·.1)) its := by rw [z1]; exact rv
  have er : PySem.W.EachIs (fun u b => RelV b.1 u) its bs := each_rel rv'
  have er2 : PySem.W.EachIs (fun v b => ∃ as, Reads s.heap v (encL b) as) its bs := each_mem2 er fun u b hb' ru => by
    obtain ⟨c, e, hc⟩ := hrl _ _ (z3 b hb')
    have d : Dp X.K H b.1 (encL b) := by rw [e]; exact .lst (SqL.of hc) (dp_ints _ _)
    exact Dp.reads I _ _ _ d ru
  have blen : bs.length ≤ sizeLine := by
    have := congrArg List.length z1
    rw [List.length_map] at this
    rw [this]; exact hz
  refine PySem.W.sorted_data (R := fun u b => RelV b.1 u) (enc := encL) hl.isList er er2 (PySem.W.AllAlike.of alike_encL) (PySem.W.Sortable.others fun b => ⟨fun z => (by cases z), fun ys z => (by cases z)⟩) blen (fun b _ => by rw [depth_encL]; omega) fun out ho hout => ?_
  have perm := List.mergeSort_perm bs (PySem.W.dataLe false encL)
  generalize hm : bs.mergeSort (PySem.W.dataLe false encL) = ms at perm hout
  have ⟨ep, he'⟩ := PyProof.Rows.sortedAll_at s.heap its out.toArray
  have rvo := vals_each hout
  have hlen : (ms.map (·.1)).length ≤ sizeLine := by rw [List.length_map, perm.length_eq]; exact blen
  refine ⟨.ref _, upd H (s.heap.objs.size + 1) (.lst (ms.map (·.1))), I.laid (t' := s.toks) (fun _ _ => PyProof.Rows.sortedAll_old) (Nat.le_succ _) ⟨hlen, out, ep, rvo, he'⟩, rfl, ?_⟩
  refine q (ms.map (·.2)) (ms.map (·.1)) _ ?_ (paired_of_mem fun b hb' => z3 b (perm.mem_iff.mp hb')) (I.hok.fresh (Nat.le_succ _))
  rw [← z2]
  exact perm.map _
end
end OC
namespace OC
open PySem PySem.Spec PyProof.Rows L2
/-! ### a comprehension of a dict, its keys places -/
section
variable {J : It} {l : List Nat} {I H : Hp} {g : TG} {tt : TT} {tk tv : TE} {vs : List Nat} {σ : L2.St} {Qd : Addr → Hp → Prop}
def DcW (J : It) (g : TG) (tt : TT) (tk tv : TE) (vs : List Nat) (σ : L2.St) (H : Hp) (Qd : Addr → Hp → Prop) : Prop := ∀ D, H D = none → ∃ W : Nat → Nat → Hp → Prop, (∃ m, W 0 m (upd H D (.dK []))) ∧ ∀ i m H, W i m H →
      (J.stop i H ∧ Qd D H) ∨ (J.go i H ∧ ∃ Nx : Hp → Prop, (∀ H', Nx H' → ∃ m', m' < m ∧ W (i + 1) m' H') ∧ ∀ x H', J.yld i H x H' → g x (wipe σ vs) H' fun σ2 H2 => wipe σ2 vs = wipe σ vs ∧ tt σ2 H2 fun b H3 =>
        if b = true then tk σ2 H3 fun y H4 => tv σ2 H4 fun z H5 =>
          ∃ kvs k, y = kV k ∧ H5 D = some (.dK kvs) ∧ kvs.length < sizeLine ∧ Nx (upd H5 D (.dK (putK kvs k z))) else Nx H3)
theorem dc_src {r' : Rp Nat} (src : Src J I l rN) (s : Same I H) (hz : l.length ≤ 90000)
    (turn : ∀ (e : Nat) (I1 H1 : Hp), e ∈ l → Gr I H I1 H1 → ∀ Qg : L2.St → Hp → Prop, (∀ σ2, wipe σ2 vs = wipe σ vs → EvT tt σ2 I1 H1 true → (∀ I2 H2, Gr I1 H1 I2 H2 → Ev tk σ2 I2 H2 fun y _ => y = vN e) → (∀ I2 H2, Gr I1 H1 I2 H2 → Ev tv σ2 I2 H2 (r'.rel e)) → Qg σ2 H1) → g (vN e) (wipe σ vs) H1 Qg)
    (q : ∀ D I' H' kvs, Gr I H I' H' → Mu H I' H' D (.dK kvs) → (∀ p ∈ l, ∃ x, valV kvs (Sum.inl (p : Int)) = some x ∧ r'.rel p x I') → Qd D H') : DcW J g tt tk tv vs σ H Qd := by
  intro D hD
  refine ⟨fun i k H' => k = l.length - i ∧ i ≤ l.length ∧ ∃ I' kvs, Gr I H I' H' ∧ Mu H I' H' D (.dK kvs) ∧ kvs.length ≤ i ∧ ∀ p ∈ l.take i, ∃ x, valV kvs (Sum.inl (p : Int)) = some x ∧ r'.rel p x I', ⟨l.length, rfl, Nat.zero_le _, I, [], Gr.mut s hD, ⟨hD, s.free hD, upd_same⟩, Nat.le_refl _, fun p hp => absurd hp (by simp)⟩, ?_⟩
  rintro i k H1 ⟨rfl, hi, I1, kvs, g1, mu, hl, hv⟩
  have sI : Same I H1 := fun b z e => g1.s _ _ (g1.i _ _ e)
  by_cases hlt : i < l.length
  · refine .inr ⟨src.go i H1 hlt sI, fun H' => ∃ I' kvs, Gr I H I' H' ∧ Mu H I' H' D (.dK kvs) ∧ kvs.length ≤ i + 1 ∧ ∀ p ∈ l.take (i + 1), ∃ x, valV kvs (Sum.inl (p : Int)) = some x ∧ r'.rel p x I',
      fun H' h => ⟨l.length - (i + 1), by omega, rfl, hlt, h⟩, fun x H1' hy => ?_⟩
    obtain ⟨e, I1', he, g1', re⟩ := src.yld i I1 H1 x H1' g1.i g1.s hy hlt
    have re : x = vN e := re
    subst re
    have mu := mu.up g1'
    have gg := g1.trans g1'
    refine turn e I1' H1' (List.mem_of_getElem? he) gg _ fun σ2 hw ht hk hx => ⟨hw, ht _ fun I2 H2 g2 => ?_⟩
    refine (if_pos rfl).mpr (hk I2 H2 g2 _ fun y I3 H3 g3 ry => hx I3 H3 (g2.trans g3) _ fun z I4 H4 g4 rz => ?_)
    have mu4 := ((mu.up g2).up g3).up g4
    have g24 := (g2.trans g3).trans g4
    refine ⟨kvs, Sum.inl (e : Int), ry, mu4.h, line_lt (by omega), I4, putK kvs (Sum.inl (e : Int)) z, (gg.trans g24).put mu4, mu4.set, ?_, fun p hp => ?_⟩
    · have := length_putK kvs (Sum.inl (e : Int)) z
      omega
    · rw [valV_put]
      by_cases c : p = e
      · subst c
        exact ⟨z, if_pos rfl, rz⟩
      · rw [if_neg (fun z : (Sum.inl (p : Int) : Key) = Sum.inl (e : Int) => c (Int.ofNat.inj (Sum.inl.inj z)))]
        rw [List.take_add_one, he] at hp
        rcases List.mem_append.mp hp with old | h
        · obtain ⟨x, h1, h2⟩ := hv p old
          exact ⟨x, h1, r'.up h2 (g1'.i.trans g24.i)⟩
        · exact absurd (List.mem_singleton.mp h) c
  · have ei : i = l.length := by omega
    subst ei
    rw [List.take_length] at hv
    exact .inl ⟨src.stop H1 sI, q D I1 H1 kvs g1 mu hv⟩
end
end OC
namespace OC
open PySem PySem.Spec PyProof.Rows L2
/-! ### d | e -/
section
variable {prog : Program} {w : World} {κ : Type} [DecidableEq κ] {knd : KeyKind prog w κ} {A : Around} {E : Value → Shared → Prop} {s : Shared}
theorem copyOf_ok {d : Addr} {kvs : List (κ × Value)} {nm : String} {Q : Value → Shared → Prop} (hd : (d == sysModules) = false) (hm : s.heap.DictOf knd d kvs) (hsz : kvs.length ≤ sizeLine)
    (h : ∀ h', h'.DictOf knd s.heap.objs.size kvs → (∀ b o, s.heap.get? b = some o → h'.get? b = some o) → Q (.ref s.heap.objs.size) { s with heap := h' }) :
    wpAny (model prog w) A (Builtin.Dict.copyOf nm (.ref d)) Q E s := by
  have hm0 := hm
  obtain ⟨o, es, ep, ho, _, hdat, hk, hp, hn⟩ := hm0
  have hes : es.size ≤ sizeLine + 1 := by
    have e1 := hp.length
    have e2 : es.toList.length = es.size := by simp
    omega
  unfold Builtin.Dict.copyOf
  refine wpAny_bind <| wpAny_pure ?_
  unfold Builtin.Dict.showsAll
  rw [if_neg (by simp [hd])]
  refine wpAny_bind <| wpAny_pure ?_
  refine wpAny_bind <| wpAny_dictEntries ho hdat ?_
  have fin : ∀ es' : Array DictEntry, es' = es → Q (.ref s.heap.objs.size) { s with heap := s.heap.push { cls := .type "dict", data := .dict es' } } := by
    rintro es' rfl
    exact h _ ⟨_, es', 0, Heap.get?_push_size _ rfl, ⟨rfl, rfl, rfl⟩, rfl, hk, hp, hn⟩ (fun b o' e => Heap.get?_push_of_some _ e)
  by_cases he : es.isEmpty = true
  · rw [if_pos he]
    refine wpAny_bind <| wpAny_rule (wpAny_newObj_type (fin #[] (Array.isEmpty_iff.mp he).symm))
  · rw [if_neg he]
    refine wpAny_bind ?_
    delta Builtin.Dict.readDirectly
    refine wpAny_bind <| wpAny_isInstance hm.typeIs isSubtype_dict_dict ?_
    simp only [Bool.not_true, Bool.false_eq_true, if_false, beq_self_eq_true, if_true]
    refine wpAny_bind <| wpAny_specialOf hm.typeIs F.slot_dict_iter.lookup (wpAny_pure ?_)
    simp only [Bool.not_true, Bool.false_eq_true, if_false, beq_self_eq_true, if_true]
    refine wpAny_bind <| wpAny_entriesForEmpty (knd := knd) ho hdat hk (wpAny_newObj_type (fin es rfl) hes)
theorem call_dict_or {l o : Addr} {kvs more : List (κ × Value)} {Q : Value → Shared → Prop} (hl : (l == sysModules) = false) (ho : (o == sysModules) = false) (hd : s.heap.DictOf knd l kvs) (hm : s.heap.DictOf knd o more) (hsz : kvs.length + more.length ≤ sizeLine)
    (h : ∀ h', h'.DictOf knd s.heap.objs.size (merged kvs more) → (∀ b o, s.heap.get? b = some o → h'.get? b = some o) → Q (.ref s.heap.objs.size) { s with heap := h' }) :
    wpAny (model prog w) A (call (.builtin "dict.__or__") [.ref l, .ref o]) Q E s := by
  refine wpAny_call_entry PySem.F.slot_dict_or hd.typeIs PySem.F.entry_dict_or ?_ (PySem.F.args_dict_or_2 _ _)
  show wpAny _ _ (Builtin.Dict.dictSlotArgs "__or__" ⟨[.ref l, .ref o], []⟩ >>= _) _ _ s
  refine wpAny_bind ?_
  delta Builtin.Dict.dictSlotArgs
  refine wpAny_bind <| wpAny_notOrdered_dict hd.typeIs ?_
  show wpAny _ _ (pure (Value.ref l, Value.ref o)) _ _ s
  refine wpAny_pure ?_
  refine wpAny_bind ?_
  refine wpAny_bind <| wpAny_isInstance hd.typeIs isSubtype_dict_dict ?_
  show wpAny _ _ (isInstance (.ref o) (.type "dict")) _ _ s
  refine wpAny_isInstance hm.typeIs isSubtype_dict_dict ?_
  simp only [Bool.not_true, Bool.false_eq_true, if_false, beq_self_eq_true, if_true]
  refine wpAny_bind (copyOf_ok hl hd (by omega) fun h' hd' hk => ?_)
  have hm' : h'.DictOf knd o more := hm.at fun b e => hk _ _ e
  have hne : s.heap.objs.size ≠ o := by
    obtain ⟨ob, _, _, e, _⟩ := hm
    exact Nat.ne_of_gt (Heap.lt_size e)
  refine wpAny_bind <| wpAny_pure ?_
  refine wpAny_holding ?_
  delta Builtin.Dict.updateFrom
  refine wpAny_bind (wpAny_typeOf hm'.typeIs ?_)
  rw [if_neg (by decide)]
  refine wpAny_bind ?_
  unfold Builtin.Dict.merge
  refine wpAny_bind ?_
  delta Builtin.Dict.readDirectly
  refine wpAny_bind (wpAny_isInstance hm'.typeIs isSubtype_dict_dict ?_)
  simp only [Bool.not_true, Bool.false_eq_true, if_false, beq_self_eq_true, if_true]
  refine wpAny_bind (wpAny_specialOf hm'.typeIs F.slot_dict_iter.lookup (wpAny_pure ?_))
  simp only [Bool.not_true, Bool.false_eq_true, if_false, beq_self_eq_true, if_true]
  refine wpAny_bind <| wpAny_pure ?_
  refine wpAny_mergeDict (hsz := hsz) hne ho hd' hm' fun h'' hd'' ho'' hs'' => ?_
  show wpAny _ _ (Builtin.Dict.addKeywords _ [] >>= _) _ _ _
  refine wpAny_bind (wpAny_pure (wpAny_pure ⟨_, rfl, ?_⟩))
  exact h h'' hd'' fun b ob e => (hs''.2 b (Nat.ne_of_lt (Heap.lt_size e))).trans (hk b ob e)
end
section
variable {X : Cx}
def rDor : R2 := fun x y H Q => ∃ (a b : Addr) (kvs more : List (Key × V)), x = .ref a ∧ y = .ref b ∧ H a = some (.dK kvs) ∧ H b = some (.dK more) ∧ kvs.length + more.length ≤ sizeLine ∧ ∀ p, H p = none → Q (.ref p) (upd H p (.dK (mergeK kvs more)))
theorem op_dor : OpR X (binaryOp .BitOr) rDor := by
  intro pins s σ H x y v u Q I rx ry given
  obtain ⟨a, b, kvs, more, rfl, rfl, ha, hb, hz, q⟩ := given
  cases rx
  cases ry
  obtain ⟨z1, hd1, vs, rel1, dd1⟩ := dk_of I.hok ha
  obtain ⟨z2, hd2, rs, rel2, dd2⟩ := dk_of I.hok hb
  refine wpAny_binaryOp_same dd1.typeIs dd2.typeIs PySem.F.fills_dict_or PySem.F.slot_dict_or (call_dict_or hd1 hd2 dd1 dd2 (by rw [← rel1.length, ← rel2.length]; exact hz) fun h' dd' hk => ?_)
  refine ⟨fun x => (nomatch x), .ref s.heap.objs.size, _, I.laid (a := s.heap.objs.size) (o := .dK (mergeK kvs more)) (t' := s.toks) hk (Nat.le_refl _) ?_, rfl, q _ (I.hok.fresh (Nat.le_refl _))⟩
  exact dk_new (Nat.le_trans (length_mergeK more kvs) hz) (beq_eq_false_iff_ne.mpr (Ne.symm (Nat.ne_of_lt I.big))) (rel2.merge rel1) dd'
end
end OC
namespace OC
open PySem PySem.Spec PyProof.Rows L2
/-! ### set(xs) of a list of ints -/
section
variable {P : Program} {w : World} {A : Around} {s : Shared} {E : Value → Shared → Prop}
abbrev bareSet (w : World) : Obj := { cls := .type "set", dict := none, data := .set #[] 0 (.fresh 0 0 (!w.params.followText "set-order")) }
/-- what has been made: a set of the ints ns, in a heap that keeps all that was there -/
def Made (w : World) (ns : List Int) (s : Shared) (h' : Heap) (c : Nat) : Prop :=
  SetR w h' s.heap.objs.size (fun j => decide (j ∈ ns)) c ∧ c ≤ ns.length ∧ ∀ b o, s.heap.get? b = some o → h'.get? b = some o
set_option maxHeartbeats 3000000 in
theorem call_set_lst {l : Addr} {items : Array Value} (ns : List Int) {Q : Value → Shared → Prop} (hh : A.handled = none) (hl : s.heap.IsList l items) (hit : IntsAre items.toList ns) (hb : ns.length + 1 < scanBound)
    (made : ∀ (h' : Heap) (tk c : Nat), Made w ns s h' c → Q (.ref s.heap.objs.size) { s with heap := h', toks := tk }) : wpAny (model P w) A (call (.type "set") [.ref l]) Q E s := by
  have len : items.size = ns.length := by
    have q := IntsAre.length hit
    rw [Array.length_toList] at q
    exact q
  refine wpAny_call (codeAny_of_tree (show wpAny _ _ (callAny (.type "set") _) _ _ _ from wpAny_pure ⟨Code.quiet_builtin _ (by decide +kernel), codeAny_builtin F.entry_type_call ?_⟩))
  have ⟨c, tl, f1⟩ := F.called_set.mro; have f2 := F.called_set.made; have f3 := F.called_set.sub
  have f4 := F.called_set.notType; have f5 := F.called_set.canCreate; have f6 := F.typeCall_set_1 (.ref l)
  rw [Around.under_plain (weight_type_call_type "set" [.ref l] []) rfl]; repeat any_goals first | assumption | wp_step
  refine codeAny_mono (code_set_led1 (.ref l) (E := E) (Q₁ := fun obj s₁ => obj = .ref s.heap.objs.size ∧ s₁ = { s with heap := s.heap.push (bareSet w) }) ⟨rfl, rfl⟩) fun r s₁ hr => ?_
  cases r with
  | error e => exact hr
  | ok fl =>
    cases fl with
    | ret obj =>
      obtain ⟨rfl, rfl⟩ := hr
      have hS : (s.heap.push (bareSet w)).get? s.heap.objs.size = some (bareSet w) := Heap.get?_push_size _ rfl
      have hT : Shared.TypeIs { s with heap := s.heap.push (bareSet w) } (.ref s.heap.objs.size) "set" := ⟨_, hS, rfl⟩
      have f7 := F.called_set.init.lookup; have f8 := F.called_set.init.bind (.ref s.heap.objs.size)
      repeat any_goals first | assumption | wp_step
      refine codeAny_mono (codeAny_call_builtin (R := wants (fun r t => r = .none ∧ ∃ h' tk c, t = { s with heap := h', toks := tk } ∧ Made w ns s h' c) E) F.called_set.init.plain F.entry_set_init (check_set_init_1 hT ?_)) fun r₂ s₂ hr₂ => ?_
      · obtain ⟨⟨ocls, odict, odata, oslots⟩, hol, hcl, nl, hdl⟩ := hl
        simp only at hcl hdl
        subst hcl; subst hdl
        have hol' : (s.heap.push (bareSet w)).get? l = some { cls := .type "list", dict := odict, data := .seq items nl, slots := oslots } := Heap.get?_push_of_some _ hol
        have s1 := F.sub_list_set; have s2 := F.sub_list_frozenset
        have s3 : (Value.type "list" == Value.type "dict") = false := rfl
        have hl1 : (s.heap.push (bareSet w)).IsList l items := ⟨_, hol', rfl, nl, rfl⟩
        delta Builtin.«set.__init__» noKeywords Builtin.Frozenset.updateFrom
        generalize hPI : pyIter = PI
        wp_walk
        subst hPI
        refine wpAny_pyIter_list hl1 (wpAny_bind (wpAny_runValue ?_))
        have under : l < s.heap.objs.size := Heap.lt_size hol
        have hneI : l ≠ (s.heap.push (bareSet w)).objs.size := by
          rw [Heap.size_push]
          exact Nat.ne_of_lt (Nat.le_succ_of_le under)
        have hSf : s.heap.objs.size ∉ [(s.heap.push (bareSet w)).objs.size, l] := by
          rw [Heap.size_push]
          simp only [List.mem_cons, List.not_mem_nil, or_false, not_or]
          exact .intro (Nat.ne_of_lt (Nat.lt_succ_self _)) (Nat.ne_of_gt under)
        have hval : ∀ (i : Nat) (v : Value), items[i]? = some v → ∃ (k : Int) (t : _), ns[i]? = some k ∧ v = Value.int k t := fun i v hv => by
          have hi : i < ns.length := by rw [← len]; exact (Array.getElem?_eq_some_iff.mp hv).1
          obtain ⟨t, e⟩ := PyProof.Rows.IntsAre.int_at hit i v (by simpa using hv)
          exact ⟨ns[i], t, List.getElem?_eq_getElem hi, by rw [e]; simp [List.getD_eq_getElem?_getD, hi]⟩
        refine set_update_ints ((Walks.list (A := A.in1.in1.in1) (by simp [hh]) _ l hneI items).toS) s.heap.objs.size hSf ns len hb hval (items.size - 0) 0 _ (by omega) (Nat.zero_le _) ⟨⟨_, Heap.get?_push_size _ rfl, rfl, rfl⟩, (hl1.push _)⟩ ?hS0 ?hR
        case hS0 => exact ⟨0, Nat.le_refl 0, setR_new_at (Heap.get?_push_of_some _ hS)⟩
        case hR =>
          intro s' c' hm hc' hS'
          obtain ⟨h', _, _, tk', _⟩ := s'
          cases (show _ = s.gens from hm.gens); cases (show _ = s.drawn from hm.drawn); cases (show _ = s.os from hm.os)
          rw [len] at hc'
          refine wpAny_pure (wpAny_pure ⟨rfl, h', tk', c', rfl, hS', hc', fun b o e => ?_⟩)
          have hb0 := Heap.lt_size e
          exact hm.heap b o (by rw [Heap.size_push]; simp only [List.mem_cons, List.not_mem_nil, or_false, not_or]; exact ⟨Nat.ne_of_lt hb0, Nat.ne_of_lt (Nat.lt_succ_of_lt hb0)⟩) (Heap.get?_push_of_some _ (Heap.get?_push_of_some _ e))
      · cases r₂ with
        | error e => exact hr₂
        | ok fl₂ =>
          cases fl₂ with
          | ret r =>
            obtain ⟨rfl, h', tk, c', rfl, all⟩ := hr₂
            repeat any_goals first | assumption | wp_step
            exact made _ _ _ all
          | _ => exact hr₂.elim
    | _ => exact hr.elim
/-- as many members as there are below the bound, at most -/
theorem setR_few {w : World} {h : Heap} {a : Addr} {S : Int → Bool} {n B : Nat} (R : SetR w h a S n) (hB : ∀ k, S k = true → 0 ≤ k ∧ k < (B : Int)) : n ≤ B := by
  obtain ⟨o, es, ep, t, _, _, _, _, nd, hS, _, _, hn, _⟩ := R
  have h1 : ((es.toList.map L2.keyOf).map Int.toNat).Nodup := List.pairwise_map.mpr (nd.imp_of_mem fun {x y} hx hy ne e => by
    have a1 := hB x ((hS x).mpr hx)
    have a2 := hB y ((hS y).mpr hy)
    exact ne (by omega))
  have h2 : ((es.toList.map L2.keyOf).map Int.toNat).length ≤ B := by
    have : ∀ {n : Nat} {l : List Nat}, l.Nodup → (∀ x ∈ l, x < n) → l.length ≤ n := by
      intro n
      induction n with
      | zero =>
        intro l _ hl
        cases l with
        | nil => exact Nat.le_refl _
        | cons a l => exact absurd (hl a List.mem_cons_self) (Nat.not_lt_zero a)
      | succ n ih =>
        intro l hn hl
        have h1 := ih (hn.erase n) fun x hx => by
          have h2 := hl x (List.mem_of_mem_erase hx)
          have h3 : x ≠ n := fun z => by
            rw [z] at hx
            exact (List.Nodup.not_mem_erase hn) hx
          omega
        rw [List.length_erase] at h1
        split at h1 <;> omega
    refine this h1 fun x hx => ?_
    obtain ⟨k, hk, rfl⟩ := List.mem_map.mp hx
    have := hB k ((hS k).mpr hk)
    omega
  rw [List.length_map, List.length_map, Array.length_toList] at h2
  omega
end
section
variable {X : Cx}
def rMkSet (K : PySem.W.Frag) (w : World) : List V → Hp → VK → Prop := fun xs H Q => ∃ (l : Addr) (ns : List Nat) (B : Nat), xs = [V.ref l] ∧ SqL K H l (ns.map vN) ∧ ns.length ≤ 4000 ∧ (∀ k ∈ ns, k < B) ∧
  ∀ a c, H a = none → c ≤ B → Q (.ref a) (upd H a (SetO w a (fun j => decide (j ∈ ns.map fun n : Nat => (n : Int))) c))
theorem cr_mkSet (hc : X.calm = true) (K : PySem.W.Frag) (w : World) (h : X.K = K := by rfl) (h2 : X.w = w := by rfl) : CallR X (.type "set") (rMkSet K w) := by
  subst h h2
  intro pins s σ H xs us Q I r hq
  obtain ⟨l, ns, B, rfl, hl, hz, hB, q⟩ := hq
  rw [Vals.ref1 r]
  obtain ⟨its, rv, pl, hz'⟩ := I.list hl
  have hn := I.hok.fresh (Nat.le_refl _)
  have rv' : Vals ((ns.map fun n : Nat => (n : Int)).map V.int) its := by rw [List.map_map]; exact rv
  refine call_set_lst (P := X.prog) (w := X.w) (ns.map fun n : Nat => (n : Int)) (I.ok.hd hc) pl.isList (by simpa using RZ.intsAre_vals rv') (by rw [List.length_map]; unfold scanBound; omega) fun h' tk c ⟨R, _, k⟩ => ?_
  refine ⟨.ref s.heap.objs.size, upd H s.heap.objs.size (SetO X.w s.heap.objs.size _ c), I.laid (t' := tk) k (Nat.le_refl _) (setO_new R), rfl, q _ c hn (setR_few R fun z hz => ?_)⟩
  obtain ⟨n, h1, h2⟩ := List.mem_map.mp (of_decide_eq_true hz)
  have := hB n h1
  omega
theorem cr_sortedSetK (hc : X.calm = true) (w : World) (h2 : X.w = w := by rfl) : CallR X (.builtin "sorted") (rSortedSet w) := by subst h2; exact cr_sortedSet hc
end
end OC
namespace OC
open PySem PySem.Spec PyProof.Rows L2
section
variable {P : Program} {w : World} {K : PySem.W.Frag} {mg : Str → Option Value} {base : Heap} {k : Nat}

/-! ### numbers -/
def spNumber (K : PySem.W.Frag) : Sp := fun vs H Q _ => ∃ I n, Same I H ∧ vs = [.int n, .int 1] ∧ ∀ v I' H', Gr I H I' H' → (rQ K).rel n v I' → Q v H'
abbrev s_number : Stmt := topS 4
theorem sc_number : FnScope ["n", "d", "common"] ["n", "d"] (defScope s_number) := ⟨rfl, rfl, rfl, by decide +kernel, rfl, by decide +kernel, by decide +kernel⟩
theorem c_number (D : Dn K mg "number" s_number ["n", "d"]) (m_gcd : mg "gcd" = some (.builtin "math.gcd")) : Cal P w K mg base "number" (k + 1) (spNumber K) := by
  refine D.ok sc_number (fun vs H Q E h => ?_) (fun f cdv A outer s H vs Q E hr h => ?_)
  · obtain ⟨I, n, _, rfl, _⟩ := h
    rfl
  · obtain ⟨I, n, hs, rfl, q⟩ := h
    refine ⟨_, (pss_cons (ps_if (pt_cmpR op_lt (pv 1) pe_int (nomark _))
      (pss_one (ps_par (by rfl) sc_number.nd (i := 0) (j := 1) rfl rfl (by decide) rfl rfl (pa_cons (pe_un un_neg (pv 0)) (pa_cons (pe_un un_neg (pv 1)) pa_nil)) (by rfl))) pss_nil)
      (pss_cons (ps_set (i := 2) sc_number.nd rfl (Or.inl rfl) (pe_callBfun cr_gcd (by rfl) m_gcd (pa_cons (pv 0) (pa_cons (pv 1) pa_nil))))
      (pss_one (ps_ret (pe_tup (pa_cons (pe_op op_fdiv (pv 0) (pv 2)) (pa_cons (pe_op op_fdiv (pv 1) (pv 2)) pa_nil))))))), ?_⟩
    refine ⟨_, rfl, 1, 0, rfl, rfl, _, rfl, iteF ?_⟩
    have g1 : ((Nat.gcd n.natAbs (1 : Int).natAbs : Nat) : Int) = 1 := by
      show ((Nat.gcd n.natAbs 1 : Nat) : Int) = 1
      rw [Nat.gcd_one_right]
      rfl
    refine ⟨_, rfl, _, rfl, n, 1, rfl, ?_⟩
    rw [g1]
    refine ⟨_, rfl, _, rfl, n, 1, rfl, rfl, ⟨by decide, by decide⟩, _, rfl, _, rfl, 1, 1, rfl, rfl, ⟨by decide, by decide⟩, (by show 2 ≤ sizeLine; decide), fun p hp => ?_⟩
    refine q _ _ _ (Gr.imm hs hp) ⟨p, rfl, .inl (.inl (upd_same.trans ?_))⟩
    show some (HO.tup [V.int (n / 1), V.int (1 / 1)]) = _
    rw [Int.ediv_one]
    rfl
def cmpI (a b : Int) : Int := if a < b then -1 else if b < a then 1 else 0
def spCompare (K : PySem.W.Frag) : Sp := fun vs H Q _ => ∃ I a b x y, Same I H ∧ vs = [x, y] ∧ (rQ K).rel a x I ∧ (rQ K).rel b y I ∧ Q (.int (cmpI a b)) H
theorem upT {K : PySem.W.Frag} {I H : Hp} {a : Addr} {xs : List V} (h : SqT K I a xs) (e : Same I H) : SqT K H a xs := rdT h e
abbrev s_compare : Stmt := topS 5
theorem sc_compare : FnScope ["a", "b", "left", "right"] ["a", "b"] (defScope s_compare) := ⟨rfl, rfl, rfl, by decide +kernel, rfl, by decide +kernel, by decide +kernel⟩
theorem c_compare (D : Dn K mg "compare" s_compare ["a", "b"]) (m_int : mg "int" = none) : Cal P w K mg base "compare" (k + 1) (spCompare K) := by
  refine D.ok sc_compare (fun vs H Q E h => ?_) (fun f cdv A outer s H vs Q E hr h => ?_)
  · obtain ⟨I, a, b, x, y, _, rfl, _⟩ := h
    rfl
  · obtain ⟨I, a, b, x, y, hs, rfl, ⟨p, rfl, hp⟩, ⟨p', rfl, hp'⟩, q⟩ := h
    refine ⟨_, (pss_cons (ps_par (by rfl) sc_compare.nd (i := 2) (j := 3) rfl rfl (by decide) rfl rfl (pa_cons (pe_op op_mul (pe_ix ix_tup (pv 0) pe_int (fun _ _ => rfl)) (pe_ix ix_tup (pv 1) pe_int (fun _ _ => rfl))) (pa_cons (pe_op op_mul (pe_ix ix_tup (pv 1) pe_int (fun _ _ => rfl)) (pe_ix ix_tup (pv 0) pe_int (fun _ _ => rfl))) pa_nil)) (by rfl))
      (pss_cons (ps_if (pt_cmpR op_lt (pv 2) (pv 3) (nomark _))
      (pss_one (ps_ret (pe_un un_neg pe_int))) pss_nil)
      (pss_one (ps_ret (pe_callTy call_int1 (by rfl) m_int (by decide +kernel) (pa_cons (pe_cmpR op_gt (pv 2) (pv 3) (nomark _)) pa_nil)))))), ?_⟩
    have hp := upT hp hs
    have hp' := upT hp' hs
    refine ⟨_, rfl, p, _, 0, _, rfl, rfl, hp, rfl, _, rfl, p', _, 1, _, rfl, rfl, hp', rfl, a, 1, rfl, rfl, .inr ⟨by decide, by decide⟩, ?_⟩
    refine ⟨_, rfl, p', _, 0, _, rfl, rfl, hp', rfl, _, rfl, p, _, 1, _, rfl, rfl, hp, rfl, b, 1, rfl, rfl, .inr ⟨by decide, by decide⟩, ?_⟩
    refine ⟨_, _, rfl, ?_⟩
    refine ⟨_, rfl, _, rfl, a * 1, b * 1, rfl, rfl, _, rfl, ite2 (fun c => ?_) (fun c => ?_)⟩
    · have c : a < b := by have := of_decide_eq_true c; omega
      unfold cmpI at q
      rw [if_pos c] at q
      exact ⟨1, rfl, q⟩
    · have c : ¬ a < b := by have := of_decide_eq_false (Bool.eq_false_iff.mpr c); omega
      unfold cmpI at q
      rw [if_neg c] at q
      refine ⟨_, rfl, _, rfl, a * 1, b * 1, rfl, rfl, .inr ⟨_, rfl, ?_⟩⟩
      show Q (V.int (if decide (b * 1 < a * 1) = true then 1 else 0)) H
      rw [Int.mul_one, Int.mul_one]
      by_cases d : b < a
      · rw [if_pos d] at q
        rw [decide_eq_true d]
        exact q
      · rw [if_neg d] at q
        rw [decide_eq_false d]
        exact q
/-- two whole numbers, what is made of them, and when -/
def sp2Q (K : PySem.W.Frag) (ok : Int → Int → Prop) (g : Int → Int → Int) : Sp := fun vs H Q _ => ∃ I a b x y, Same I H ∧ vs = [x, y] ∧ (rQ K).rel a x I ∧ (rQ K).rel b y I ∧ ok a b ∧ ∀ v I' H', Gr I H I' H' → (rQ K).rel (g a b) v I' → Q v H'
abbrev s_plus : Stmt := topS 6
theorem sc_plus : FnScope ["a", "b"] ["a", "b"] (defScope s_plus) := ⟨rfl, rfl, rfl, by decide +kernel, rfl, by decide +kernel, by decide +kernel⟩
theorem c_plus (D : Dn K mg "plus" s_plus ["a", "b"]) (c_number : Cal P w K mg base "number" k (spNumber K)) : Cal P w K mg base "plus" (k + 1) (sp2Q K (fun _ _ => True) fun a b => a + b) := by
  refine D.ok sc_plus (fun vs H Q E h => ?_) (fun f cdv A outer s H vs Q E hr h => ?_)
  · obtain ⟨I, a, b, x, y, _, rfl, _⟩ := h
    rfl
  · obtain ⟨I, a, b, x, y, hs, rfl, ⟨p, rfl, hp⟩, ⟨p', rfl, hp'⟩, _, q⟩ := h
    refine ⟨_, (pss_one (ps_ret (pe_c c_number hr (by rfl) (pa_cons (pe_op op_add (pe_op op_mul (pe_ix ix_tup (pv 0) pe_int (fun _ _ => rfl)) (pe_ix ix_tup (pv 1) pe_int (fun _ _ => rfl))) (pe_op op_mul (pe_ix ix_tup (pv 1) pe_int (fun _ _ => rfl)) (pe_ix ix_tup (pv 0) pe_int (fun _ _ => rfl)))) (pa_cons (pe_op op_mul (pe_ix ix_tup (pv 0) pe_int (fun _ _ => rfl)) (pe_ix ix_tup (pv 1) pe_int (fun _ _ => rfl))) pa_nil))))), ?_⟩
    have hp := upT hp hs
    have hp' := upT hp' hs
    refine ⟨_, rfl, p, _, 0, _, rfl, rfl, hp, rfl, _, rfl, p', _, 1, _, rfl, rfl, hp', rfl, a, 1, rfl, rfl, .inr ⟨by decide, by decide⟩, ?_⟩
    refine ⟨_, rfl, p', _, 0, _, rfl, rfl, hp', rfl, _, rfl, p, _, 1, _, rfl, rfl, hp, rfl, b, 1, rfl, rfl, .inr ⟨by decide, by decide⟩, a * 1, b * 1, rfl, rfl, ?_⟩
    refine ⟨_, rfl, p, _, 1, _, rfl, rfl, hp, rfl, _, rfl, p', _, 1, _, rfl, rfl, hp', rfl, 1, 1, rfl, rfl, .inr ⟨by decide, by decide⟩, ?_⟩
    refine ⟨I, a + b, hs, ?_, q⟩
    show [V.int (a * 1 + b * 1), V.int (1 * 1)] = _
    rw [Int.mul_one, Int.mul_one]
    rfl
abbrev s_minus : Stmt := topS 7
theorem sc_minus : FnScope ["a", "b"] ["a", "b"] (defScope s_minus) := ⟨rfl, rfl, rfl, by decide +kernel, rfl, by decide +kernel, by decide +kernel⟩
theorem c_minus (D : Dn K mg "minus" s_minus ["a", "b"]) (c_number : Cal P w K mg base "number" k (spNumber K)) : Cal P w K mg base "minus" (k + 1) (sp2Q K (fun _ _ => True) fun a b => a - b) := by
  refine D.ok sc_minus (fun vs H Q E h => ?_) (fun f cdv A outer s H vs Q E hr h => ?_)
  · obtain ⟨I, a, b, x, y, _, rfl, _⟩ := h
    rfl
  · obtain ⟨I, a, b, x, y, hs, rfl, ⟨p, rfl, hp⟩, ⟨p', rfl, hp'⟩, _, q⟩ := h
    refine ⟨_, (pss_one (ps_ret (pe_c c_number hr (by rfl) (pa_cons (pe_op op_sub (pe_op op_mul (pe_ix ix_tup (pv 0) pe_int (fun _ _ => rfl)) (pe_ix ix_tup (pv 1) pe_int (fun _ _ => rfl))) (pe_op op_mul (pe_ix ix_tup (pv 1) pe_int (fun _ _ => rfl)) (pe_ix ix_tup (pv 0) pe_int (fun _ _ => rfl)))) (pa_cons (pe_op op_mul (pe_ix ix_tup (pv 0) pe_int (fun _ _ => rfl)) (pe_ix ix_tup (pv 1) pe_int (fun _ _ => rfl))) pa_nil))))), ?_⟩
    have hp := upT hp hs
    have hp' := upT hp' hs
    refine ⟨_, rfl, p, _, 0, _, rfl, rfl, hp, rfl, _, rfl, p', _, 1, _, rfl, rfl, hp', rfl, a, 1, rfl, rfl, .inr ⟨by decide, by decide⟩, ?_⟩
    refine ⟨_, rfl, p', _, 0, _, rfl, rfl, hp', rfl, _, rfl, p, _, 1, _, rfl, rfl, hp, rfl, b, 1, rfl, rfl, .inr ⟨by decide, by decide⟩, a * 1, b * 1, rfl, rfl, ?_⟩
    refine ⟨_, rfl, p, _, 1, _, rfl, rfl, hp, rfl, _, rfl, p', _, 1, _, rfl, rfl, hp', rfl, 1, 1, rfl, rfl, .inr ⟨by decide, by decide⟩, ?_⟩
    refine ⟨I, a - b, hs, ?_, q⟩
    show [V.int (a * 1 - b * 1), V.int (1 * 1)] = _
    rw [Int.mul_one, Int.mul_one]
    rfl
/-- short: of at most a thousand -/
def Sh (a : Int) : Prop := -1000 ≤ a ∧ a ≤ 1000
abbrev s_times : Stmt := topS 8
theorem sc_times : FnScope ["a", "b"] ["a", "b"] (defScope s_times) := ⟨rfl, rfl, rfl, by decide +kernel, rfl, by decide +kernel, by decide +kernel⟩
theorem c_times (D : Dn K mg "times" s_times ["a", "b"]) (c_number : Cal P w K mg base "number" k (spNumber K)) : Cal P w K mg base "times" (k + 1) (sp2Q K (fun a _ => Sh a) fun a b => a * b) := by
  refine D.ok sc_times (fun vs H Q E h => ?_) (fun f cdv A outer s H vs Q E hr h => ?_)
  · obtain ⟨I, a, b, x, y, _, rfl, _⟩ := h
    rfl
  · obtain ⟨I, a, b, x, y, hs, rfl, ⟨p, rfl, hp⟩, ⟨p', rfl, hp'⟩, ⟨h1, h2⟩, q⟩ := h
    refine ⟨_, (pss_one (ps_ret (pe_c c_number hr (by rfl) (pa_cons (pe_op op_mul (pe_ix ix_tup (pv 0) pe_int (fun _ _ => rfl)) (pe_ix ix_tup (pv 1) pe_int (fun _ _ => rfl))) (pa_cons (pe_op op_mul (pe_ix ix_tup (pv 0) pe_int (fun _ _ => rfl)) (pe_ix ix_tup (pv 1) pe_int (fun _ _ => rfl))) pa_nil))))), ?_⟩
    have hp := upT hp hs
    have hp' := upT hp' hs
    refine ⟨_, rfl, p, _, 0, _, rfl, rfl, hp, rfl, _, rfl, p', _, 0, _, rfl, rfl, hp', rfl, a, b, rfl, rfl, .inl ⟨by omega, by omega⟩, ?_⟩
    refine ⟨_, rfl, p, _, 1, _, rfl, rfl, hp, rfl, _, rfl, p', _, 1, _, rfl, rfl, hp', rfl, 1, 1, rfl, rfl, .inr ⟨by decide, by decide⟩, ?_⟩
    exact ⟨I, a * b, hs, rfl, q⟩
abbrev s_divided : Stmt := topS 9
theorem sc_divided : FnScope ["a", "b"] ["a", "b"] (defScope s_divided) := ⟨rfl, rfl, rfl, by decide +kernel, rfl, by decide +kernel, by decide +kernel⟩
/-- here alone 1 divided by 1 -/
theorem c_divided (D : Dn K mg "divided" s_divided ["a", "b"]) (c_number : Cal P w K mg base "number" k (spNumber K)) : Cal P w K mg base "divided" (k + 1) (sp2Q K (fun a b => a = 1 ∧ b = 1) fun _ _ => 1) := by
  refine D.ok sc_divided (fun vs H Q E h => ?_) (fun f cdv A outer s H vs Q E hr h => ?_)
  · obtain ⟨I, a, b, x, y, _, rfl, _⟩ := h
    rfl
  · obtain ⟨I, a, b, x, y, hs, rfl, ⟨p, rfl, hp⟩, ⟨p', rfl, hp'⟩, ⟨rfl, rfl⟩, q⟩ := h
    refine ⟨_, (pss_one (ps_ret (pe_c c_number hr (by rfl) (pa_cons (pe_op op_mul (pe_ix ix_tup (pv 0) pe_int (fun _ _ => rfl)) (pe_ix ix_tup (pv 1) pe_int (fun _ _ => rfl))) (pa_cons (pe_op op_mul (pe_ix ix_tup (pv 0) pe_int (fun _ _ => rfl)) (pe_ix ix_tup (pv 1) pe_int (fun _ _ => rfl))) pa_nil))))), ?_⟩
    have hp := upT hp hs
    have hp' := upT hp' hs
    refine ⟨_, rfl, p, _, 0, _, rfl, rfl, hp, rfl, _, rfl, p', _, 1, _, rfl, rfl, hp', rfl, 1, 1, rfl, rfl, .inr ⟨by decide, by decide⟩, ?_⟩
    refine ⟨_, rfl, p, _, 1, _, rfl, rfl, hp, rfl, _, rfl, p', _, 0, _, rfl, rfl, hp', rfl, 1, 1, rfl, rfl, .inr ⟨by decide, by decide⟩, ?_⟩
    exact ⟨I, 1, hs, rfl, q⟩
end
end OC
namespace OC
open PySem PySem.Spec PyProof.Rows L2
section
variable {P : Program} {w : World} {K : PySem.W.Frag} {mg : Str → Option Value} {base : Heap} {k : Nat}

/-! ### games -/
def spTargets (K : PySem.W.Frag) : Sp := fun vs H Q _ => ∃ I G p x, Same I H ∧ vs = [x, vN p] ∧ (rG K).rel G x I ∧ Wf G ∧ p < G.length ∧ ∀ D I' H', Gr I H I' H' → Mu H I' H' D (.lst ((tsOf G p).map vN)) → Q (.ref D) H'
abbrev s_targets : Stmt := topS 11
theorem sc_targets : FnScope ["game", "place", "mark", "kind", "branches", "chance", "target"] ["game", "place"] (defScope s_targets) := ⟨rfl, rfl, rfl, by decide +kernel, rfl, by decide +kernel, by decide +kernel⟩
theorem filter_yes {α : Type} {l : List α} : l.filter (fun _ => true) = l := by induction l with | nil => rfl | cons a l ih => rw [List.filter_cons, if_pos rfl, ih]
theorem map_same {α : Type} {l : List α} : l.map (fun x => x) = l := List.map_id' l
theorem c_targets (D : Dn K mg "targets" s_targets ["game", "place"]) (m_list : mg "list" = none) : Cal P w K mg base "targets" (k + 1) (spTargets K) := by
  refine D.ok sc_targets (fun vs H Q E h => ?_) (fun f cdv A outer s H vs Q E hr h => ?_)
  · obtain ⟨I, G, p, x, _, rfl, _⟩ := h
    rfl
  · obtain ⟨I, G, p, x, hs, rfl, hG, hw, hp, q⟩ := h
    refine ⟨_, (pss_cons (ps_asg (pe_ix (ix_N K) (pv 0) (pv 1) (fun _ _ => rfl)) (pg_tup rfl (pgs_cons (pg_name (i := 2) sc_targets.nd rfl (Or.inl rfl)) (pgs_cons (pg_name (i := 3) sc_targets.nd rfl (Or.inl rfl)) (pgs_cons (pg_name (i := 4) sc_targets.nd rfl (Or.inl rfl)) pgs_nil)))))
      (pss_cons (ps_if (pt_cmpR op_eq (pv 3) pe_str (nomark _))
      (pss_one (ps_ret (pe_lc (own := [("chance", 5), ("target", 6)]) (g := gTup K 2 (gCons (gName 5) (gCons (gName 6) gNil))) rfl sc_targets.nd (pi_list (pv 4)) (blkOk_by (own := [("chance", 5), ("target", 6)]) (N := ["game", "place", "mark", "kind", "branches", "chance", "target"]) (sc := defScope s_targets) (by decide +kernel)) (fun _ _ _ _ _ => (pg_tup rfl (pgs_cons (pg_name (i := 5) sc_targets.nd rfl (Or.inl rfl)) (pgs_cons (pg_name (i := 6) sc_targets.nd rfl (Or.inl rfl)) pgs_nil)))) (fun _ _ _ _ _ => pts_nil) (fun _ _ _ _ _ => (pv 6))))) pss_nil)
      (pss_one (ps_ret (pe_callTy call_list_of (by rfl) m_list (by decide +kernel) (pa_cons (pv 4) pa_nil)))))), ?_⟩
    obtain ⟨a, xs, pl, y, rfl, hpl, ⟨b, c, rfl, ht, hb⟩, hx, hy⟩ := rG_at hG hs hp
    have hl : pl.ts.length ≤ 90000 := by have := (hw.some p hp).2; rw [ts_at hpl] at this; omega
    rw [ts_at hpl] at q
    refine ⟨_, rfl, _, rfl, a, xs, p, _, rfl, rfl, hx, hy, b, _, rfl, rdT ht hs, rfl, _, _, rfl, _, _, rfl, _, _, rfl, rfl, ?_⟩
    refine ⟨_, rfl, rfl, _, rfl, ite2 (fun d => ?_) (fun d => ?_)⟩
    · have d : pl.kd = .draw := of_decide_eq_true ((kS_inj (b := .draw)).symm.trans d)
      rw [d] at hb
      obtain ⟨a', xs, rfl, h1, h2⟩ := hb
      refine ⟨_, rfl, a', rfl, ⟨xs, sqH (hs _ _ h1)⟩, lc_flat (v := vN) (m := fun t => t) (f := fun _ => true) (src_list h1 h2) hs hl (fun e x I1 H1 he re g1 Qg kk => ?_) (fun D' I' H' g1 mu => ?_)⟩
      · obtain ⟨c, n, rfl, hc, _⟩ := re
        exact ⟨c, _, rfl, rdT hc g1.s, rfl, _, _, rfl, _, _, rfl, rfl, kk _ rfl (evYes g1.s) (fun I2 H2 g2 _ Q q => ⟨_, rfl, q _ I2 H2 (Gr.refl g2.s) rfl⟩)⟩
      · rw [map_same, filter_yes] at mu
        exact q D' I' H' g1 mu
    · have d : pl.kd ≠ .draw := fun z => d ((kS_inj (b := .draw)).trans (decide_eq_true z))
      rw [rTs_side d] at hb
      obtain ⟨a', rfl, h1⟩ := hb
      exact ⟨_, rfl, a', _, rfl, .inl (sqH (hs _ _ h1)), fun l hl => q l I _ (Gr.mut hs hl) ⟨hl, hs.free hl, upd_same⟩⟩

def spPlacesOf (K : PySem.W.Frag) : Sp := fun vs H Q _ => ∃ I G kd x, Same I H ∧ vs = [x, .str (kS kd)] ∧ (rG K).rel G x I ∧ G.length ≤ 24 ∧ ∀ D I' H', Gr I H I' H' → Mu H I' H' D (.lst (((List.range G.length).filter fun p => decide (kdOf G p = kd)).map vN)) → Q (.ref D) H'
theorem enum_map {G : Gm} {kd : Kd} : ((enumL G).filter fun e => decide (e.2.kd = kd)).map (fun e => e.1) = (List.range G.length).filter fun p => decide (kdOf G p = kd) := by
  have h1 : (enumL G).filter (fun e => decide (e.2.kd = kd)) = (enumL G).filter (fun e => decide (kdOf G e.1 = kd)) := List.filter_congr fun e he => by rw [kd_at (mem_enumL he)]
  rw [h1]
  have h2 : (enumL G).map (fun e => e.1) = List.range G.length := by
    unfold enumL
    exact List.map_fst_zip (by rw [List.length_range]; exact Nat.le_refl _)
  rw [← h2, List.filter_map]
  rfl
abbrev s_places_of : Stmt := topS 12
theorem sc_places_of : FnScope ["game", "kind", "place", "here"] ["game", "kind"] (defScope s_places_of) := ⟨rfl, rfl, rfl, by decide +kernel, rfl, by decide +kernel, by decide +kernel⟩
theorem c_places_of (D : Dn K mg "places_of" s_places_of ["game", "kind"]) (m_enumerate : mg "enumerate" = none) : Cal P w K mg base "places_of" (k + 1) (spPlacesOf K) := by
  refine D.ok sc_places_of (fun vs H Q E h => ?_) (fun f cdv A outer s H vs Q E hr h => ?_)
  · obtain ⟨I, G, kd, x, _, rfl, _⟩ := h
    rfl
  · obtain ⟨I, G, kd, x, hs, rfl, ⟨a, xs, rfl, h1, h2⟩, hl, q⟩ := h
    refine ⟨_, (pss_one (ps_ret (pe_lc (own := [("place", 2), ("here", 3)]) (g := gTup K 2 (gCons (gName 2) (gCons (gName 3) gNil))) rfl sc_places_of.nd (pi_enum (by rfl) m_enumerate (pa_cons (pv 0) pa_nil)) (blkOk_by (own := [("place", 2), ("here", 3)]) (N := ["game", "kind", "place", "here"]) (sc := defScope s_places_of) (by decide +kernel)) (fun _ _ _ _ _ => (pg_tup rfl (pgs_cons (pg_name (i := 2) sc_places_of.nd rfl (Or.inl rfl)) (pgs_cons (pg_name (i := 3) sc_places_of.nd rfl (Or.inl rfl)) pgs_nil)))) (fun _ _ _ _ _ => pts_one (pt_cmpR op_eq (pe_ix (ix_tupK K) (pv 3) pe_int (fun _ _ => rfl)) (pv 1) (nomark _))) (fun _ _ _ _ _ => (pv 2))))), ?_⟩
    refine ⟨_, rfl, a, xs, rfl, sqH (hs _ _ h1), lc_flat (v := vN) (m := fun e => e.1) (f := fun e => decide (e.2.kd = kd)) (src_enum h1 h2) hs (by rw [enumL_len]; omega) (fun e x I1 H1 he re g1 Qg kk => ?_) (fun D' I' H' g1 mu => ?_)⟩
    · refine gPair re g1.s fun y z ry rz => ?_
      have ey : y = vN e.1 := ry
      subst ey
      obtain ⟨b, c, rfl, ht, _⟩ := rz
      refine kk _ rfl (fun Q q => ?_) (fun I2 H2 g2 _ Q q => ⟨_, rfl, q _ I2 H2 (Gr.refl g2.s) rfl⟩)
      refine ⟨_, rfl, b, _, 1, _, rfl, rfl, rdT ht g1.s, rfl, _, rfl, rfl, _, rfl, ?_⟩
      have e2 : decide (V.str (kS e.2.kd) = V.str (kS kd)) = decide (e.2.kd = kd) := kS_inj
      rw [e2]
      exact q I1 H1 (Gr.refl g1.s)
    · rw [enum_map] at mu
      exact q D' I' H' g1 mu
end
end OC
namespace OC
open PySem PySem.Spec PyProof.Rows L2
section
variable {P : Program} {w : World} {K : PySem.W.Frag} {mg : Str → Option Value} {base : Heap} {k : Nat}

/-- the marks, ascending: the last one is the greatest -/
def spMarksOf (K : PySem.W.Frag) : Sp := fun vs H Q _ => ∃ I G x, Same I H ∧ vs = [x] ∧ (rG K).rel G x I ∧ G.length ≤ 30 ∧ G ≠ [] ∧
  ∀ D I' H' (ms : List Nat) (m : Nat), Gr I H I' H' → Mu H I' H' D (.lst ((ms ++ [m]).map vN)) → (∃ pl ∈ G, pl.mark = m) → (∀ pl ∈ G, pl.mark ≤ m) → Q (.ref D) H'
abbrev s_marks_of : Stmt := topS 13
theorem sc_marks_of : FnScope ["game", "found", "mark", "here"] ["game"] (defScope s_marks_of) := ⟨rfl, rfl, rfl, by decide +kernel, rfl, by decide +kernel, by decide +kernel⟩
theorem last_take {l : List Nat} {i m : Nat} (h : l[i]? = some m) : (l.take (i + 1)).getLast? = some m := by
  rw [List.take_add_one, h]
  show (l.take i ++ [m]).getLast? = some m
  rw [List.getLast?_append]
  rfl
def iMarks (H : Hp) (a p0 : Addr) (l' : List Nat) (i : Nat) (σ : L2.St) (I3 H3 : Hp) : Prop := ∃ (y : Option V) (fs : List Nat), σ = [some (.ref a), some (.ref p0), y, none] ∧ Mu H I3 H3 p0 (.lst (fs.map vN)) ∧ fs.getLast? = (l'.take i).getLast? ∧ fs.length ≤ i
theorem c_marks_of (D : Dn K mg "marks_of" s_marks_of ["game"]) (m_sorted : mg "sorted" = none) : Cal P w K mg base "marks_of" (k + 1) (spMarksOf K) := by
  refine D.ok sc_marks_of (fun vs H Q E h => ?_) (fun f cdv A outer s H vs Q E hr h => ?_)
  · obtain ⟨I, G, x, _, rfl, _⟩ := h
    rfl
  · obtain ⟨I, G, x, hs, rfl, ⟨a, xs, rfl, h1, h2⟩, hl, hne, q⟩ := h
    refine ⟨_, (pss_cons (ps_set (i := 1) sc_marks_of.nd rfl (Or.inl rfl) (pe_lst pa_nil))
      (pss_cons (ps_for PassesOwn.never rfl (pi_list (pe_callB (cr_sortedN K) (by rfl) m_sorted (by decide +kernel) (pa_cons (pe_lc (own := [("here", 3)]) (g := gName 3) rfl sc_marks_of.nd (pi_list (pv 0)) (blkOk_by (own := [("here", 3)]) (N := ["game", "found", "mark", "here"]) (sc := defScope s_marks_of) (by decide +kernel)) (fun _ _ _ _ _ => (pg_name (i := 3) sc_marks_of.nd rfl (Or.inl rfl))) (fun _ _ _ _ _ => pts_nil) (fun _ _ _ _ _ => (pe_ix (ix_tupK K) (pv 3) pe_int (fun _ _ => rfl)))) pa_nil))) (pg_name (i := 2) sc_marks_of.nd rfl (Or.inl rfl))
      (pss_one (ps_if (PW.pt (pw_or (pt_not (pt_truth (pv 1) (by intro _; rfl))) (pw_or1 (pt_cmpR op_ne (pe_ix (ix_listK K) (pv 1) (pe_un un_neg pe_int) (fun _ _ => rfl)) (pv 2) (nomark _)))))
      (pss_one (ps_expr (pe_bm PySem.F.plainAttrs_list PySem.F.slot_list_append PySem.F.type_list_append mt_append (pv 1) (pa_cons (pv 2) pa_nil)))) pss_nil)))
      (pss_one (ps_ret (pv 1))))), ?_⟩
    refine ⟨Nat.zero_le _, fun p0 np0 => ?_⟩
    have g0 := Gr.mut (o := .lst []) hs np0
    have m0 : Mu H I (upd H p0 (.lst [])) p0 (.lst []) := ⟨np0, hs.free np0, upd_same⟩
    refine ⟨_, rfl, a, rfl, ⟨xs, sqH (g0.s _ _ h1)⟩, lc_flat (v := vN) (m := fun pl => pl.mark) (f := fun _ => true) (src_list h1 h2) g0.s (by omega) (fun e x I1 H1 he re g1 Qg kk => ?_) (fun D' I1 H1 g1 mu => ?_)⟩
    · obtain ⟨b, c, rfl, ht, _⟩ := re
      exact kk _ rfl (evYes g1.s) (fun I2 H2 g2 _ Q q => ⟨_, rfl, b, _, 0, _, rfl, rfl, rdT ht (g1.s.trans g2.h), rfl, q _ I2 H2 (Gr.refl g2.s) rfl⟩)
    rw [filter_yes] at mu
    refine ⟨D', _, rfl, sqH mu.h, fun l' p hperm hpw np => ⟨p, rfl, ⟨_, sqH upd_same⟩, ?_⟩⟩
    have g2 := (g0.trans g1).trans (Gr.imm (o := .lst (l'.map vN)) g1.s np)
    have m2 := (m0.up g1).up (Gr.imm (o := .lst (l'.map vN)) g1.s np)
    have len' : l'.length ≤ 30 := by rw [hperm.length_eq, List.length_map]; exact hl
    refine for_src (iMarks H a p0 l') (src_listF upd_same) g2 ⟨none, [], rfl, m2, rfl, Nat.le_refl _⟩ ?_ ?_
    · rintro i e x σ1 I3 H3 I4 H4 he g3 e3 ⟨y, fs, rfl, mf, lf, zf⟩ g4 re
      have re : x = vN e := re
      subst re
      have mf := mf.up g4
      have hi : i < 30 := by have := (List.getElem?_eq_some_iff.mp he).1; omega
      have gg := g3.trans g4
      have done : ∀ fs' : List Nat, fs'.getLast? = some e → fs'.length ≤ i + 1 → ∀ H5, Mu H I4 H5 p0 (.lst (fs'.map vN)) → Gr I H I4 H5 → Nx I H (upd I1 p (.lst (l'.map vN))) (iMarks H a p0 l' (i + 1)) [some (.ref a), some (.ref p0), some (vN e), none] H5 := fun fs' h1 h2 H5 m5 g5 =>
        ⟨I4, g5, e3.trans g4.i, _, fs', rfl, m5, by rw [last_take he]; exact h1, h2⟩
      have hlen : (fs.map vN).length < sizeLine := line_lt (by rw [len_nat]; omega)
      have eapp : fs.map vN ++ [vN e] = (fs ++ [e]).map vN := by rw [List.map_append]; rfl
      have fin := done (fs ++ [e]) (by rw [List.getLast?_append]; rfl) (by rw [List.length_append]; show fs.length + 1 ≤ i + 1; omega) (upd H4 p0 (.lst ((fs ++ [e]).map vN))) mf.set (gg.put mf)
      rw [← eapp] at fin
      refine ⟨_, rfl, _, .inl ⟨_, sqH mf.h, rfl⟩, ?_⟩
      rcases List.eq_nil_or_concat fs with e0 | ⟨init, z, e0⟩
      · subst e0
        exact iteT (iteT ⟨_, rfl, .inl ⟨rfl, _, sqH mf.h⟩, _, rfl, p0, _, _, rfl, rfl, mf.h, hlen, fin⟩)
      · have ez : (fs.map vN).isEmpty = false := by rw [e0, List.concat_eq_append, List.map_append]; simp
        rw [ez]
        have hz : H4 p0 = some (.lst (init.map vN ++ [vN z])) := by
          have := mf.h
          rw [e0, List.concat_eq_append, List.map_append] at this
          exact this
        refine iteF ⟨_, rfl, 1, rfl, p0, _, -1, _, rfl, rfl, sqH hz, atI_last _ _, _, rfl, rfl, _, rfl, ite2 (fun c => ?_) (fun c => ?_)⟩
        · exact ⟨_, rfl, .inl ⟨rfl, _, sqH mf.h⟩, _, rfl, p0, _, _, rfl, rfl, mf.h, hlen, fin⟩
        · have c : vN z = vN e := Classical.byContradiction fun n => c (by rw [decide_eq_false n]; rfl)
          have c := vN_inj c
          subst c
          exact done fs (by rw [e0, List.concat_eq_append, List.getLast?_append]; rfl) (by omega) H4 mf gg
    · rintro σ1 I3 H3 g3 e3 ⟨y, fs, rfl, mf, lf, zf⟩
      rw [List.take_length] at lf
      have ne : l' ≠ [] := by
        intro e
        subst e
        have := hperm.length_eq
        rw [List.length_map] at this
        exact hne (List.length_eq_zero_iff.mp this.symm)
      obtain ⟨m, hm⟩ : ∃ m, l'.getLast? = some m := by
        cases e : l'.getLast? with
        | none => exact absurd (List.getLast?_eq_none_iff.mp e) ne
        | some m => exact ⟨m, rfl⟩
      obtain ⟨ms, hms⟩ := List.getLast?_eq_some_iff.mp (lf.trans hm)
      obtain ⟨ms', hms'⟩ := List.getLast?_eq_some_iff.mp hm
      subst hms
      refine ⟨_, rfl, q p0 I3 H3 ms m g3 mf ?_ fun pl hpl => ?_⟩
      · have : m ∈ l' := by rw [hms']; simp
        obtain ⟨pl, h1, h2⟩ := List.mem_map.mp (hperm.mem_iff.mp this)
        exact ⟨pl, h1, h2⟩
      · have : pl.mark ∈ l' := hperm.mem_iff.mpr (List.mem_map.mpr ⟨pl, hpl, rfl⟩)
        rw [hms'] at this hpw
        rcases List.mem_append.mp this with h | h
        · exact (List.pairwise_append.mp hpw).2.2 _ h m (List.mem_singleton.mpr rfl)
        · rw [List.mem_singleton.mp h]
          exact Nat.le_refl _

def spCopyOf (K : PySem.W.Frag) : Sp := fun vs H Q _ => ∃ I pl x, Same I H ∧ vs = [x] ∧ (rP K).rel pl x I ∧ ∀ v I' H', Gr I H I' H' → (rP K).rel pl v I' → Q v H'
abbrev s_copy_of : Stmt := topS 14
theorem sc_copy_of : FnScope ["place"] ["place"] (defScope s_copy_of) := ⟨rfl, rfl, rfl, by decide +kernel, rfl, by decide +kernel, by decide +kernel⟩
/-- the list behind the branches of a place -/
theorem rTs_list {kd : Kd} {ts : List Nat} {v : V} {I : Hp} (h : (rTs K kd).rel ts v I) : ∃ a xs, v = .ref a ∧ I a = some (.lst xs) ∧ ∀ I' b, Same I I' → I' b = some (.lst xs) → (rTs K kd).rel ts (.ref b) I' := by
  cases kd with
  | draw =>
    obtain ⟨a, xs, rfl, h1, h2⟩ := h
    exact ⟨a, xs, rfl, h1, fun I' b e hb => ⟨b, xs, rfl, hb, paired_up h2 e⟩⟩
  | ours =>
    obtain ⟨a, rfl, h1⟩ := h
    exact ⟨a, _, rfl, h1, fun I' b e hb => ⟨b, rfl, hb⟩⟩
  | theirs =>
    obtain ⟨a, rfl, h1⟩ := h
    exact ⟨a, _, rfl, h1, fun I' b e hb => ⟨b, rfl, hb⟩⟩
theorem c_copy_of (D : Dn K mg "copy_of" s_copy_of ["place"]) (m_list : mg "list" = none) : Cal P w K mg base "copy_of" (k + 1) (spCopyOf K) := by
  refine D.ok sc_copy_of (fun vs H Q E h => ?_) (fun f cdv A outer s H vs Q E hr h => ?_)
  · obtain ⟨I, G, x, _, rfl, _⟩ := h
    rfl
  · obtain ⟨I, pl, x, hs, rfl, ⟨a, b, rfl, ht, hb⟩, q⟩ := h
    refine ⟨_, (pss_one (ps_ret (pe_tup (pa_cons (pe_ix (ix_tupK K) (pv 0) pe_int (fun _ _ => rfl)) (pa_cons (pe_ix (ix_tupK K) (pv 0) pe_int (fun _ _ => rfl)) (pa_cons (pe_callTy call_list_of (by rfl) m_list (by decide +kernel) (pa_cons (pe_ix (ix_tupK K) (pv 0) pe_int (fun _ _ => rfl)) pa_nil)) pa_nil)))))), ?_⟩
    have ht := rdT ht hs
    obtain ⟨c, xs, rfl, hc, back⟩ := rTs_list hb
    refine ⟨_, rfl, a, _, 0, _, rfl, rfl, ht, rfl, _, rfl, a, _, 1, _, rfl, rfl, ht, rfl, _, rfl, a, _, 2, _, rfl, rfl, ht, rfl, c, _, rfl, .inl (sqH (hs _ _ hc)), fun l nl => ?_⟩
    refine ⟨by show 3 ≤ sizeLine; decide, fun t nt => ?_⟩
    have g1 := Gr.imm (o := .lst xs) hs nl
    have g2 := g1.trans (Gr.imm (o := .tup [vN pl.mark, .str (kS pl.kd), .ref l]) g1.s nt)
    exact q _ _ _ g2 ⟨t, .ref l, rfl, .inl (.inl upd_same), back _ l g2.i (by rw [upd_ne (ne_of_none upd_same (g1.s.free nt))]; exact upd_same)⟩
end
end OC
namespace OC
open PySem PySem.Spec PyProof.Rows L2
section
variable {P : Program} {w : World} {K : PySem.W.Frag} {mg : Str → Option Value} {base : Heap} {k : Nat}
abbrev rSt : Rp (List (Option Nat)) := rLF vO
def spWith (K : PySem.W.Frag) : Sp := fun vs H Q _ => ∃ I G sd s x y, Same I H ∧ vs = [x, .str (kS sd), y] ∧ (rG K).rel G x I ∧ Wf G ∧ sd ≠ .draw ∧ rSt.rel s y I ∧ IsSt G sd s ∧ ∀ v I' H', Gr I H I' H' → (rG K).rel (wS G sd s) v I' → Q v H'
def iWith (K : PySem.W.Frag) (H : Hp) (G : Gm) (sd : Kd) (s : List (Option Nat)) (x y : V) (p0 : Addr) (i : Nat) (σ : L2.St) (I3 H3 : Hp) : Prop :=
  ∃ (z1 z2 : Option V) (ys : List V), σ = [some x, some (.str (kS sd)), some y, some (.ref p0), z1, z2] ∧ Mu H I3 H3 p0 (.lst ys) ∧ Paired (fun e v => (rP K).rel e v I3) (((enumL G).take i).map (ws1 sd s)) ys
abbrev s_with_strategy : Stmt := topS 15
theorem sc_with_strategy : FnScope ["game", "side", "strategy", "found", "place", "here"] ["game", "side", "strategy"] (defScope s_with_strategy) := ⟨rfl, rfl, rfl, by decide +kernel, rfl, by decide +kernel, by decide +kernel⟩
theorem take_map_succ {α β : Type} {l : List α} {f : α → β} {i : Nat} {e : α} (h : l[i]? = some e) : (l.take (i + 1)).map f = (l.take i).map f ++ [f e] := by
  rw [List.take_add_one, h, List.map_append]
  rfl
theorem c_with_strategy (D : Dn K mg "with_strategy" s_with_strategy ["game", "side", "strategy"]) (m_enumerate : mg "enumerate" = none) (k1 : Cst K mg "ONE_numbers" 1) (c_copy_of : Cal P w K mg base "copy_of" k (spCopyOf K)) :
    Cal P w K mg base "with_strategy" (k + 1) (spWith K) := by
  obtain ⟨a1, m_ONE_numbers, one⟩ := k1
  refine D.ok sc_with_strategy (fun vs H Q E h => ?_) (fun f cdv A outer s0 H vs Q E hr h => ?_)
  · obtain ⟨I, G, sd, s, x, y, _, rfl, _⟩ := h
    rfl
  · obtain ⟨I, G, sd, s, x, y, hs, rfl, ⟨a, xs, rfl, h1, h2⟩, hw, hsd, ⟨b, rfl, hb⟩, hst, q⟩ := h
    refine ⟨_, (pss_cons (ps_set (i := 3) sc_with_strategy.nd rfl (Or.inl rfl) (pe_lst pa_nil))
      (pss_cons (ps_for PassesOwn.never rfl (pi_enum (by rfl) m_enumerate (pa_cons (pv 0) pa_nil)) (pg_tup rfl (pgs_cons (pg_name (i := 4) sc_with_strategy.nd rfl (Or.inl rfl)) (pgs_cons (pg_name (i := 5) sc_with_strategy.nd rfl (Or.inl rfl)) pgs_nil)))
      (pss_one (ps_if (pt_cmpR op_eq (pe_ix (ix_tupK K) (pv 5) pe_int (fun _ _ => rfl)) (pv 1) (nomark _))
      (pss_one (ps_expr (pe_bm PySem.F.plainAttrs_list PySem.F.slot_list_append PySem.F.type_list_append mt_append (pv 3) (pa_cons (pe_tup (pa_cons (pe_ix (ix_tupK K) (pv 5) pe_int (fun _ _ => rfl)) (pa_cons pe_str (pa_cons (pe_lst (pa_cons (pe_tup (pa_cons (pe_gr (by rfl) m_ONE_numbers) (pa_cons (pe_ix (ix_N K) (pe_ix (ix_tupK K) (pv 5) pe_int (fun _ _ => rfl)) (pe_ix (ix_N K) (pv 2) (pv 4) (fun _ _ => rfl)) (fun _ _ => rfl)) pa_nil))) pa_nil)) pa_nil)))) pa_nil)))) (pss_one (ps_expr (pe_bm PySem.F.plainAttrs_list PySem.F.slot_list_append PySem.F.type_list_append mt_append (pv 3) (pa_cons (pe_c c_copy_of hr (by rfl) (pa_cons (pv 5) pa_nil)) pa_nil)))))))
      (pss_one (ps_ret (pv 3))))), ?_⟩
    refine ⟨Nat.zero_le _, fun p0 np0 => ?_⟩
    have g0 := Gr.mut (o := .lst []) hs np0
    have m0 : Mu H I (upd H p0 (.lst [])) p0 (.lst []) := ⟨np0, hs.free np0, upd_same⟩
    refine ⟨_, rfl, a, xs, rfl, sqH (g0.s _ _ h1), for_src (iWith K H G sd s (.ref a) (.ref b) p0) (src_enum h1 h2) g0 ⟨none, none, [], rfl, m0, .nil⟩ ?_ ?_⟩
    · rintro i e x σ1 I3 H3 I4 H4 he g3 e3 ⟨z1, z2, ys, rfl, mf, pr⟩ g4 re
      have mf := mf.up g4
      have gg := g3.trans g4
      have pr := paired_up pr g4.i
      have hgp : G[e.1]? = some e.2 := mem_enumL (List.mem_of_getElem? he)
      have hp : e.1 < G.length := (List.getElem?_eq_some_iff.mp hgp).1
      have hlen : ys.length < 100 := by
        rw [paired_len pr, List.length_map, List.length_take]
        have := hw.len
        rw [enumL_len]
        omega
      refine gPair re g4.s fun y z ry rz => ?_
      have ey : y = vN e.1 := ry
      subst ey
      obtain ⟨c, d, rfl, ht, hd⟩ := rz
      have ht' := rdT ht g4.s
      refine ⟨_, rfl, c, _, 1, _, rfl, rfl, ht', rfl, _, rfl, rfl, _, rfl, ite2 (fun cc => ?_) (fun cc => ?_)⟩
      · have hk : e.2.kd = sd := of_decide_eq_true ((kS_inj (b := sd)).symm.trans cc)
        have hkd : kdOf G e.1 = sd := (kd_at hgp).trans hk
        obtain ⟨hs1, hs2, _⟩ := hst.at hp hkd
        rw [ts_at hgp] at hs2
        rw [hk, rTs_side hsd] at hd
        obtain ⟨c', rfl, hc'⟩ := hd
        have hbH := gg.s _ _ (gg.i _ _ hb)
        refine ⟨_, rfl, .inl ⟨rfl, _, sqH mf.h⟩, _, rfl, c, _, 0, _, rfl, rfl, ht', rfl, ?_⟩
        refine ⟨_, rfl, c, _, 2, _, rfl, rfl, ht', rfl, _, rfl, _, rfl, b, _, e.1, _, rfl, rfl, sqH hbH, get_map hs1, c', _, brOf s e.1, _, rfl, rfl, sqH (g4.s _ _ hc'), get_nat hs2, by show 2 ≤ sizeLine; decide, fun T nT => ⟨by show 1 ≤ sizeLine; decide, fun L nL => ⟨by show 3 ≤ sizeLine; decide, fun U nU => ?_⟩⟩⟩
        have q1 := Gr.imm (o := .tup [.ref a1, vN (tgOf G s e.1)]) gg.s nT
        have q2 := Gr.imm (o := .lst [.ref T]) q1.s nL
        have q3 := Gr.imm (o := .tup [vN e.2.mark, .str (kS .draw), .ref L]) q2.s nU
        have mf := ((mf.up q1).up q2).up q3
        have gq := ((gg.trans q1).trans q2).trans q3
        refine ⟨p0, _, _, rfl, rfl, mf.h, line_lt (by omega), _, gq.put mf, e3.trans (((g4.i.trans q1.i).trans q2.i).trans q3.i), _, _, _, rfl, mf.set, ?_⟩
        rw [take_map_succ he]
        refine paired_snoc (paired_up pr ((q1.i.trans q2.i).trans q3.i)) ?_
        have ew : ws1 sd s e = ⟨e.2.mark, .draw, [tgOf G s e.1]⟩ := by
          unfold ws1 tgOf
          rw [if_pos hk, ts_at hgp]
        rw [ew]
        refine ⟨U, .ref L, rfl, .inl (.inl upd_same), L, [.ref T], rfl, q3.i _ _ upd_same, .cons ⟨T, .ref a1, rfl, .inl (.inl (q3.i _ _ (q2.i _ _ upd_same))), a1, rfl, one _⟩ .nil⟩
      · have hk : e.2.kd ≠ sd := fun z => cc ((kS_inj (b := sd)).trans (decide_eq_true z))
        refine ⟨_, rfl, .inl ⟨rfl, _, sqH mf.h⟩, _, rfl, I4, e.2, _, g4.s, rfl, ⟨c, d, rfl, ht, hd⟩, fun v I5 H5 g5 rv => ?_⟩
        have mf := mf.up g5
        refine ⟨p0, _, _, rfl, rfl, mf.h, line_lt (by omega), _, (gg.trans g5).put mf, e3.trans (g4.i.trans g5.i), _, _, _, rfl, mf.set, ?_⟩
        rw [take_map_succ he]
        refine paired_snoc (paired_up pr g5.i) ?_
        have ew : ws1 sd s e = e.2 := by unfold ws1; rw [if_neg hk]
        rw [ew]
        exact rv
    · rintro σ1 I3 H3 g3 e3 ⟨z1, z2, ys, rfl, mf, pr⟩
      rw [List.take_length] at pr
      exact ⟨_, rfl, q (.ref p0) _ H3 (g3.stop mf) ⟨p0, ys, rfl, upd_same, paired_up pr (Same.new mf.i)⟩⟩
end
end OC
namespace OC
open PySem PySem.Spec PyProof.Rows L2
section
variable {P : Program} {w : World} {K : PySem.W.Frag} {mg : Str → Option Value} {base : Heap} {k : Nat}
theorem drop_at {α : Type} {l : List α} {i : Nat} {t : α} (h : l[i]? = some t) : l.drop i = t :: l.drop (i + 1) := by
  have ⟨hi, e⟩ := List.getElem?_eq_some_iff.mp h
  rw [List.drop_eq_getElem_cons hi, e]
theorem len_se {n : Nat} {S : List Nat} {m : Nat} (h : S.length + m ≤ n + 1) (hn : n ≤ 24) : S.length < 100000 := by omega
theorem notIsEmpty {l : List V} {x : V} : (!(l ++ [x]).isEmpty) = true := by simp

def spReached (K : PySem.W.Frag) : Sp := fun vs H Q _ => ∃ I G p x, Same I H ∧ vs = [x, vN p] ∧ (rG K).rel G x I ∧ Wf G ∧ p < G.length ∧
  ∀ D I' H' (L : List Nat), Gr I H I' H' → Mu H I' H' D (.lst (L.map vN)) → (∀ q, q ∈ L ↔ OkR G p q) → L.Pairwise (· ≤ ·) → L.length ≤ 25 → (∀ q ∈ L, q < G.length) → Q (.ref D) H'
def wReached (H I : Hp) (G : Gm) (p : Nat) (x : V) (ps pw : Addr) (m : Nat) (σ : L2.St) (H1 : Hp) : Prop :=
  ∃ (I1 : Hp) (z : Option V) (S Wt : List Nat) (c : Nat), Gr I H I1 H1 ∧ σ = [some x, some (vN p), some (.ref ps), some (.ref pw), z] ∧ Mu H I1 H1 ps (.lst (S.map vN)) ∧ Mu H I1 H1 pw (.lst (Wt.map vN)) ∧ Se G Any (OkR G p) p S Wt c [] ∧ p ∈ S ∧ ps ≠ pw ∧ m = seM G.length S Wt
def iReached (H : Hp) (G : Gm) (p : Nat) (x : V) (ps pw : Addr) (m c : Nat) (i : Nat) (σ : L2.St) (I1 H1 : Hp) : Prop :=
  ∃ (z : Option V) (S Wt : List Nat), σ = [some x, some (vN p), some (.ref ps), some (.ref pw), z] ∧ Mu H I1 H1 ps (.lst (S.map vN)) ∧ Mu H I1 H1 pw (.lst (Wt.map vN)) ∧ Se G Any (OkR G p) p S Wt c ((tsOf G c).drop i) ∧ p ∈ S ∧ c ∈ S ∧ seM G.length S Wt < m
abbrev s_reached : Stmt := topS 16
theorem sc_reached : FnScope ["game", "place", "seen", "waiting", "target"] ["game", "place"] (defScope s_reached) := ⟨rfl, rfl, rfl, by decide +kernel, rfl, by decide +kernel, by decide +kernel⟩
theorem c_reached (D : Dn K mg "reached" s_reached ["game", "place"]) (m_sorted : mg "sorted" = none) (c_targets : Cal P w K mg base "targets" k (spTargets K)) : Cal P w K mg base "reached" (k + 1) (spReached K) := by
  refine D.ok sc_reached (fun vs H Q E h => ?_) (fun f cdv A outer s0 H vs Q E hr h => ?_)
  · obtain ⟨I, G, p, x, _, rfl, _⟩ := h
    rfl
  · obtain ⟨I, G, p, x, hs, rfl, hG, hw, hp, q⟩ := h
    refine ⟨_, (pss_cons (ps_set (i := 2) sc_reached.nd rfl (Or.inl rfl) (pe_lst (pa_cons (pv 1) pa_nil)))
      (pss_cons (ps_set (i := 3) sc_reached.nd rfl (Or.inl rfl) (pe_lst (pa_cons (pv 1) pa_nil)))
      (pss_cons (ps_while PassesOwn.never (pt_truth (pv 3) (by intro _; rfl))
      (pss_one (ps_for PassesOwn.never rfl (pi_list (pe_c c_targets hr (by rfl) (pa_cons (pv 0) (pa_cons (pe_bm0 PySem.F.plainAttrs_list PySem.F.slot_list_pop PySem.F.type_list_pop mt_popN (pv 3)) pa_nil)))) (pg_name (i := 4) sc_reached.nd rfl (Or.inl rfl))
      (pss_one (ps_if (pt_cmpR (op_notInN K) (pv 4) (pv 2) (by rfl))
      (pss_cons (ps_expr (pe_bm PySem.F.plainAttrs_list PySem.F.slot_list_append PySem.F.type_list_append mt_appN (pv 2) (pa_cons (pv 4) pa_nil)))
      (pss_one (ps_expr (pe_bm PySem.F.plainAttrs_list PySem.F.slot_list_append PySem.F.type_list_append mt_appN (pv 3) (pa_cons (pv 4) pa_nil))))) pss_nil)))))
      (pss_one (ps_ret (pe_callB (cr_sortedN K) (by rfl) m_sorted (by decide +kernel) (pa_cons (pv 2) pa_nil))))))), ?_⟩
    refine ⟨_, rfl, by show 1 ≤ sizeLine; decide, fun ps n1 => ⟨_, rfl, by show 1 ≤ sizeLine; decide, fun pw n2 => ?_⟩⟩
    have g1 := Gr.mut (o := .lst [vN p]) hs n1
    have mu1 : Mu H I (upd H ps (.lst [vN p])) ps (.lst [vN p]) := ⟨n1, hs.free n1, upd_same⟩
    have g2 := g1.trans (Gr.mut (o := .lst [vN p]) g1.s n2)
    have mu2 := Mu.new (o := .lst [vN p]) g1 n2
    have nsw := mu1.ne n2
    have mu1 := mu1.up (Gr.mut (o := .lst [vN p]) g1.s n2)
    have se0 : Se G Any (OkR G p) p [p] [p] p [] := by
      refine ⟨fun y hy => .inl (List.mem_singleton.mp hy), fun y hy => .inl (List.mem_singleton.mp hy), fun y hy t ht _ => .inr (.inl ?_), fun y hy => by rw [List.mem_singleton.mp hy]; exact hp, ?_, by show 1 ≤ 2; omega⟩
      · rcases hy with e | e
        · rw [e]; simp
        · exact e
      · have : cnt G.length (fun x => x ∉ [p]) ≤ G.length := cnt_bound
        show 1 + _ ≤ _
        omega
    refine ⟨wReached H I G p x ps pw, ⟨_, I, none, [p], [p], p, g2, rfl, mu1, mu2, se0, by simp, nsw, rfl⟩, fun m σ1 H1 inv => ?_⟩
    obtain ⟨I1, z, S, Wt, c, g, rfl, ms, mw, se, hpS, _, hm⟩ := inv
    refine ⟨_, rfl, _, .inl ⟨_, sqH mw.h, rfl⟩, ?_⟩
    rcases List.eq_nil_or_concat Wt with e0 | ⟨Wt0, y, e0⟩
    · subst e0
      refine iteF ⟨_, rfl, ps, S, rfl, sqH ms.h, fun L D hperm hpw nD => ?_⟩
      have gm := Gr.mut (o := .lst (L.map vN)) g.s nD
      refine q D I1 _ L (g.trans gm) (Mu.new g nD) (fun v => ?_) hpw ?_ (fun v hv => se.lt v (hperm.mem_iff.mp hv))
      · rw [hperm.mem_iff]
        refine ⟨se.sound v, fun h => ?_⟩
        rcases h with rfl | h
        · exact hpS
        · exact se.done h
      · rw [hperm.length_eq]
        have := se.len
        have := hw.len
        omega
    · rw [List.concat_eq_append] at e0
      subst e0
      have hyS : y ∈ S := by
        rcases se.wt y (by simp) with e | e
        · rw [e]; exact hpS
        · exact e
      have eW : (!((Wt0 ++ [y]).map vN).isEmpty) = true := by rw [List.map_append]; exact notIsEmpty
      refine (if_pos eW).mpr ⟨fun σ' H' => ∃ m', m' < m ∧ wReached H I G p x ps pw m' σ' H', fun _ _ h => h, ?_⟩
      have gp := g.put (u := .lst (Wt0.map vN)) mw
      have msp := ms.other (u := .lst (Wt0.map vN)) nsw
      have mwp := mw.set (u := .lst (Wt0.map vN))
      refine ⟨_, rfl, _, rfl, .inl ⟨rfl, _, sqH mw.h⟩, pw, Wt0, y, rfl, rfl, mw.h, I1, G, y, x, gp.s, rfl, (rG K).up hG gp.i, hw, se.lt y hyS, fun D I2 H2 gt mt => ?_⟩
      have gs := gt.stop mt
      have msp := msp.up gs
      have mwp := mwp.up gs
      refine ⟨D, rfl, ⟨_, sqH mt.h⟩, for_src (iReached H G p x ps pw m y) (src_listF upd_same) (gp.trans gs) ⟨z, S, Wt0, rfl, msp, mwp, se.pop, hpS, hyS, ?_⟩ ?_ ?_⟩
      · rw [hm]
        unfold seM
        rw [List.length_append]
        show _ < _ + (Wt0.length + 1)
        omega
      · rintro i t v σ2 I3 H3 I4 H4 ht g3 e3 ⟨z, S', Wt', rfl, ms', mw', se', hpS', hyS', lt'⟩ g4 rv
        have rv : v = vN t := rv
        subst rv
        have ms' := ms'.up g4
        have mw' := mw'.up g4
        have gg := g3.trans g4
        rw [drop_at ht] at se'
        have hE : Ed G y t := List.mem_of_getElem? ht
        refine ⟨_, rfl, _, rfl, ps, S', t, rfl, rfl, sqH ms'.h, _, rfl, ite2 (fun c => ?_) (fun c => ?_)⟩
        · have hn : t ∉ S' := by simpa using c
          have ne : ps ≠ pw := nsw
          have ga := gg.put (u := .lst ((S' ++ [t]).map vN)) ms'
          have mwa := mw'.other (u := .lst ((S' ++ [t]).map vN)) ne.symm
          have msa := ms'.set (u := .lst ((S' ++ [t]).map vN))
          have gb := ga.put (u := .lst ((Wt' ++ [t]).map vN)) mwa
          refine ⟨_, rfl, .inl ⟨rfl, _, sqH ms'.h⟩, _, rfl, ps, S', t, rfl, rfl, ms'.h, len_se se'.len hw.len, ?_⟩
          refine ⟨_, rfl, .inl ⟨rfl, _, sqH mwa.h⟩, _, rfl, pw, Wt', t, rfl, rfl, mwa.h, ?_, ?_⟩
          · have := se'.wl
            have := se'.len
            have := hw.len
            omega
          · refine ⟨I4, gb, e3.trans g4.i, _, S' ++ [t], Wt' ++ [t], rfl, msa.other ne, mwa.set, se'.add (okR_step (se'.sound y hyS') hE) (hw.ed hE) hn, List.mem_append_left _ hpS', List.mem_append_left _ hyS', ?_⟩
            have := cnt_out (hw.ed hE) hn
            unfold seM at lt' ⊢
            rw [List.length_append]
            show _ + (Wt'.length + 1) < m
            omega
        · have hn : t ∈ S' := by simpa using c
          exact ⟨I4, gg, e3.trans g4.i, _, S', Wt', rfl, ms', mw', se'.skip fun _ => hn, hpS', hyS', lt'⟩
      · rintro σ2 I3 H3 g3 e3 ⟨z, S', Wt', rfl, ms', mw', se', hpS', hyS', lt'⟩
        rw [List.drop_length] at se'
        exact ⟨_, lt', I3, z, S', Wt', y, g3, rfl, ms', mw', se', hpS', nsw, rfl⟩

def OkB (G : Gm) (Ins : List Nat) (p q : Nat) : Prop := Pt (Ed G) (fun v => v ∈ Ins) p q
theorem okB_step {G : Gm} {Ins : List Nat} {p y t : Nat} (h : y = p ∨ OkB G Ins p y) (e : Ed G y t) (ht : t ∈ Ins) : OkB G Ins p t := by
  rcases h with rfl | h
  · exact .one e ht
  · exact h.snoc e ht
def spBehind (K : PySem.W.Frag) : Sp := fun vs H Q _ => ∃ I G p Ins x y, Same I H ∧ vs = [x, vN p, y] ∧ (rG K).rel G x I ∧ rNs.rel Ins y I ∧ Wf G ∧ p < G.length ∧
  ∀ D I' H' (L : List Nat), Gr I H I' H' → Mu H I' H' D (.lst (L.map vN)) → (∀ q, q ∈ L ↔ OkB G Ins p q) → L.length ≤ 25 → Q (.ref D) H'
def wBehind (H I : Hp) (G : Gm) (p : Nat) (Ins : List Nat) (x y : V) (ps pw : Addr) (m : Nat) (σ : L2.St) (H1 : Hp) : Prop :=
  ∃ (I1 : Hp) (z : Option V) (S Wt : List Nat) (c : Nat), Gr I H I1 H1 ∧ σ = [some x, some (vN p), some y, some (.ref ps), some (.ref pw), z] ∧ Mu H I1 H1 ps (.lst (S.map vN)) ∧ Mu H I1 H1 pw (.lst (Wt.map vN)) ∧ Se G (fun v => v ∈ Ins) (OkB G Ins p) p S Wt c [] ∧ ps ≠ pw ∧ m = seM G.length S Wt
def iBehind (H : Hp) (G : Gm) (p : Nat) (Ins : List Nat) (x y : V) (ps pw : Addr) (m c : Nat) (i : Nat) (σ : L2.St) (I1 H1 : Hp) : Prop :=
  ∃ (z : Option V) (S Wt : List Nat), σ = [some x, some (vN p), some y, some (.ref ps), some (.ref pw), z] ∧ Mu H I1 H1 ps (.lst (S.map vN)) ∧ Mu H I1 H1 pw (.lst (Wt.map vN)) ∧ Se G (fun v => v ∈ Ins) (OkB G Ins p) p S Wt c ((tsOf G c).drop i) ∧ (c = p ∨ c ∈ S) ∧ seM G.length S Wt < m
abbrev s_behind : Stmt := topS 31
theorem sc_behind : FnScope ["game", "place", "inside", "found", "waiting", "target"] ["game", "place", "inside"] (defScope s_behind) := ⟨rfl, rfl, rfl, by decide +kernel, rfl, by decide +kernel, by decide +kernel⟩
theorem c_behind (D : Dn K mg "behind" s_behind ["game", "place", "inside"]) (c_targets : Cal P w K mg base "targets" k (spTargets K)) : Cal P w K mg base "behind" (k + 1) (spBehind K) := by
  refine D.ok sc_behind (fun vs H Q E h => ?_) (fun f cdv A outer s0 H vs Q E hr h => ?_)
  · obtain ⟨I, G, p, Ins, x, y, _, rfl, _⟩ := h
    rfl
  · obtain ⟨I, G, p, Ins, x, yv, hs, rfl, hG, ⟨pi, rfl, hI⟩, hw, hp, q⟩ := h
    refine ⟨_, (pss_cons (ps_set (i := 3) sc_behind.nd rfl (Or.inl rfl) (pe_lst pa_nil))
      (pss_cons (ps_set (i := 4) sc_behind.nd rfl (Or.inl rfl) (pe_lst (pa_cons (pv 1) pa_nil)))
      (pss_cons (ps_while PassesOwn.never (pt_truth (pv 4) (by intro _; rfl))
      (pss_one (ps_for PassesOwn.never rfl (pi_list (pe_c c_targets hr (by rfl) (pa_cons (pv 0) (pa_cons (pe_bm0 PySem.F.plainAttrs_list PySem.F.slot_list_pop PySem.F.type_list_pop mt_popN (pv 4)) pa_nil)))) (pg_name (i := 5) sc_behind.nd rfl (Or.inl rfl))
      (pss_one (ps_if (PW.pt (pw_and (pt_cmpR (op_inN K) (pv 5) (pv 2) (by rfl)) (pw_and1 (pt_cmpR (op_notInN K) (pv 5) (pv 3) (by rfl)))))
      (pss_cons (ps_expr (pe_bm PySem.F.plainAttrs_list PySem.F.slot_list_append PySem.F.type_list_append mt_appN (pv 3) (pa_cons (pv 5) pa_nil)))
      (pss_one (ps_expr (pe_bm PySem.F.plainAttrs_list PySem.F.slot_list_append PySem.F.type_list_append mt_appN (pv 4) (pa_cons (pv 5) pa_nil))))) pss_nil)))))
      (pss_one (ps_ret (pv 3)))))), ?_⟩
    refine ⟨Nat.zero_le _, fun ps n1 => ⟨_, rfl, by show 1 ≤ sizeLine; decide, fun pw n2 => ?_⟩⟩
    have g1 := Gr.mut (o := .lst []) hs n1
    have mu1 : Mu H I (upd H ps (.lst [])) ps (.lst []) := ⟨n1, hs.free n1, upd_same⟩
    have g2 := g1.trans (Gr.mut (o := .lst [vN p]) g1.s n2)
    have mu2 := Mu.new (o := .lst [vN p]) g1 n2
    have nsw := mu1.ne n2
    have mu1 := mu1.up (Gr.mut (o := .lst [vN p]) g1.s n2)
    have se0 : Se G (fun v => v ∈ Ins) (OkB G Ins p) p [] [p] p [] := by
      refine ⟨fun y hy => absurd hy (by simp), fun y hy => .inl (List.mem_singleton.mp hy), fun y hy t ht _ => .inr (.inl ?_), fun y hy => absurd hy (by simp), ?_, by show 1 ≤ 1; omega⟩
      · rcases hy with e | e
        · rw [e]; simp
        · exact absurd e (by simp)
      · have : cnt G.length (fun x => x ∉ ([] : List Nat)) ≤ G.length := cnt_bound
        show 0 + _ ≤ _
        omega
    refine ⟨wBehind H I G p Ins x (.ref pi) ps pw, ⟨_, I, none, [], [p], p, g2, rfl, mu1, mu2, se0, nsw, rfl⟩, fun m σ1 H1 inv => ?_⟩
    obtain ⟨I1, z, S, Wt, c, g, rfl, ms, mw, se, _, hm⟩ := inv
    refine ⟨_, rfl, _, .inl ⟨_, sqH mw.h, rfl⟩, ?_⟩
    rcases List.eq_nil_or_concat Wt with e0 | ⟨Wt0, y, e0⟩
    · subst e0
      refine iteF ⟨_, rfl, q ps I1 _ S g ms (fun v => ⟨se.sound v, fun h => se.done h⟩) ?_⟩
      have := se.len
      have := hw.len
      omega
    · rw [List.concat_eq_append] at e0
      subst e0
      have hyS : y = p ∨ y ∈ S := se.wt y (by simp)
      have hy : y < G.length := by
        rcases hyS with e | e
        · rw [e]; exact hp
        · exact se.lt y e
      have eW : (!((Wt0 ++ [y]).map vN).isEmpty) = true := by rw [List.map_append]; exact notIsEmpty
      refine (if_pos eW).mpr ⟨fun σ' H' => ∃ m', m' < m ∧ wBehind H I G p Ins x (.ref pi) ps pw m' σ' H', fun _ _ h => h, ?_⟩
      have gp := g.put (u := .lst (Wt0.map vN)) mw
      have msp := ms.other (u := .lst (Wt0.map vN)) nsw
      have mwp := mw.set (u := .lst (Wt0.map vN))
      refine ⟨_, rfl, _, rfl, .inl ⟨rfl, _, sqH mw.h⟩, pw, Wt0, y, rfl, rfl, mw.h, I1, G, y, x, gp.s, rfl, (rG K).up hG gp.i, hw, hy, fun D I2 H2 gt mt => ?_⟩
      have gs := gt.stop mt
      have msp := msp.up gs
      have mwp := mwp.up gs
      refine ⟨D, rfl, ⟨_, sqH mt.h⟩, for_src (iBehind H G p Ins x (.ref pi) ps pw m y) (src_listF upd_same) (gp.trans gs) ⟨z, S, Wt0, rfl, msp, mwp, se.pop, hyS, ?_⟩ ?_ ?_⟩
      · rw [hm]
        unfold seM
        rw [List.length_append]
        show _ < _ + (Wt0.length + 1)
        omega
      · rintro i t v σ2 I3 H3 I4 H4 ht g3 e3 ⟨z, S', Wt', rfl, ms', mw', se', hyS', lt'⟩ g4 rv
        have rv : v = vN t := rv
        subst rv
        have ms' := ms'.up g4
        have mw' := mw'.up g4
        have gg := g3.trans g4
        have hI4 := gg.s _ _ (gg.i _ _ hI)
        rw [drop_at ht] at se'
        have hE : Ed G y t := List.mem_of_getElem? ht
        have skip : (t ∈ Ins → t ∈ S') → Nx I H (upd I2 D (.lst ((tsOf G y).map vN))) (iBehind H G p Ins x (.ref pi) ps pw m y (i + 1)) [some x, some (vN p), some (.ref pi), some (.ref ps), some (.ref pw), some (vN t)] H4 := fun hn =>
          ⟨I4, gg, e3.trans g4.i, _, S', Wt', rfl, ms', mw', se'.skip hn, hyS', lt'⟩
        refine ⟨_, rfl, _, rfl, pi, Ins, t, rfl, rfl, sqH hI4, _, rfl, ?_⟩
        by_cases ci : t ∈ Ins
        · rw [decide_eq_true ci]
          refine iteT ⟨_, rfl, _, rfl, ps, S', t, rfl, rfl, sqH ms'.h, _, rfl, ite2 (fun c => ?_) (fun c => ?_)⟩
          · have hn : t ∉ S' := by simpa using c
            have ga := gg.put (u := .lst ((S' ++ [t]).map vN)) ms'
            have mwa := mw'.other (u := .lst ((S' ++ [t]).map vN)) nsw.symm
            have msa := ms'.set (u := .lst ((S' ++ [t]).map vN))
            have gb := ga.put (u := .lst ((Wt' ++ [t]).map vN)) mwa
            refine ⟨_, rfl, .inl ⟨rfl, _, sqH ms'.h⟩, _, rfl, ps, S', t, rfl, rfl, ms'.h, len_se se'.len hw.len, ?_⟩
            refine ⟨_, rfl, .inl ⟨rfl, _, sqH mwa.h⟩, _, rfl, pw, Wt', t, rfl, rfl, mwa.h, ?_, ?_⟩
            · have := se'.wl
              have := se'.len
              have := hw.len
              omega
            · refine ⟨I4, gb, e3.trans g4.i, _, S' ++ [t], Wt' ++ [t], rfl, msa.other nsw, mwa.set, se'.add (okB_step (hyS'.imp id (se'.sound y)) hE ci) (hw.ed hE) hn, hyS'.imp id (List.mem_append_left _), ?_⟩
              have := cnt_out (hw.ed hE) hn
              unfold seM at lt' ⊢
              rw [List.length_append]
              show _ + (Wt'.length + 1) < m
              omega
          · exact skip fun _ => by simpa using c
        · rw [decide_eq_false ci]
          exact iteF (iteF (skip fun z => absurd z ci))
      · rintro σ2 I3 H3 g3 e3 ⟨z, S', Wt', rfl, ms', mw', se', hyS', lt'⟩
        rw [List.drop_length] at se'
        exact ⟨_, lt', I3, z, S', Wt', y, g3, rfl, ms', mw', se', nsw, rfl⟩
end
end OC
namespace OC
open PySem PySem.Spec PyProof.Rows L2
section
variable {P : Program} {w : World} {K : PySem.W.Frag} {mg : Str → Option Value} {base : Heap} {k : Nat}
abbrev rQs (K : PySem.W.Frag) : Rp (List Int) := rL (rQ K)
def spWithout (K : PySem.W.Frag) : Sp := fun vs H Q _ => ∃ I A B c z x y, Same I H ∧ vs = [x, vN c, y] ∧ (rQs K).rel A x I ∧ (rQs K).rel B y I ∧ A.length = B.length ∧ A.length ≤ 30 ∧ A[c]? = some z ∧ Sh z ∧
  ∀ v I' H', Gr I H I' H' → (rQs K).rel (List.zipWith (fun a b => a - z * b) A B) v I' → Q v H'
theorem zip_map {α β γ : Type} {f : α → β → γ} : ∀ {A : List α} {B : List β}, (A.zip B).map (fun e => f e.1 e.2) = List.zipWith f A B
  | [], _ => by simp
  | _ :: _, [] => by simp
  | a :: A, b :: B => by
    show f a b :: (A.zip B).map _ = f a b :: List.zipWith f A B
    rw [zip_map]
theorem zipWith_zero : ∀ {A B : List Int}, A.length = B.length → List.zipWith (fun a b => a - 0 * b) A B = A
  | [], [], _ => rfl
  | [], _ :: _, h => by cases h
  | _ :: _, [], h => by cases h
  | a :: A, b :: B, h => by
    show (a - 0 * b) :: List.zipWith _ A B = _
    rw [zipWith_zero (Nat.succ.inj h), Int.zero_mul, Int.sub_zero]
abbrev s_without : Stmt := topS 18
theorem sc_without : FnScope ["row", "column", "other", "one", "two"] ["row", "column", "other"] (defScope s_without) := ⟨rfl, rfl, rfl, by decide +kernel, rfl, by decide +kernel, by decide +kernel⟩
theorem c_without (D : Dn K mg "without" s_without ["row", "column", "other"]) (m_zip : mg "zip" = none) (k0 : Cst K mg "NOUGHT" 0)
    (c_minus : Cal P w K mg base "minus" k (sp2Q K (fun _ _ => True) fun a b => a - b)) (c_times : Cal P w K mg base "times" k (sp2Q K (fun a _ => Sh a) fun a b => a * b)) : Cal P w K mg base "without" (k + 1) (spWithout K) := by
  obtain ⟨a0, m_NOUGHT, nought⟩ := k0
  refine D.ok sc_without (fun vs H Q E h => ?_) (fun f cdv A' outer s0 H vs Q E hr h => ?_)
  · obtain ⟨I, A, B, c, z, x, y, _, rfl, _⟩ := h
    rfl
  · obtain ⟨I, A, B, c, z, x, y, hs, rfl, ⟨pa, xs, rfl, h1, h2⟩, ⟨pb, ys, rfl, h3, h4⟩, hlen, hle, hz, sz, q⟩ := h
    have hu64 := hr.units
    refine ⟨_, (pss_cons (ps_if (pt_cmpR (op_eqQ K hu64) (pe_ix (ix_N K) (pv 0) (pv 1) (fun _ _ => rfl)) (pe_gr (by rfl) m_NOUGHT) (nomark _))
      (pss_one (ps_ret (pv 0))) pss_nil)
      (pss_one (ps_ret (pe_lc (own := [("one", 3), ("two", 4)]) (g := gTup K 2 (gCons (gName 3) (gCons (gName 4) gNil))) rfl sc_without.nd (pi_zip (by rfl) m_zip (pa_cons (pv 0) (pa_cons (pv 2) pa_nil))) (blkOk_by (own := [("one", 3), ("two", 4)]) (N := ["row", "column", "other", "one", "two"]) (sc := defScope s_without) (by decide +kernel)) (fun _ _ _ _ _ => (pg_tup rfl (pgs_cons (pg_name (i := 3) sc_without.nd rfl (Or.inl rfl)) (pgs_cons (pg_name (i := 4) sc_without.nd rfl (Or.inl rfl)) pgs_nil)))) (fun _ _ _ _ _ => pts_nil) (fun _ _ _ _ _ => (pe_c c_minus hr (by rfl) (pa_cons (pv 3) (pa_cons (pe_c c_times hr (by rfl) (pa_cons (pe_ix (ix_N K) (pv 0) (pv 1) (fun _ _ => rfl)) (pa_cons (pv 4) pa_nil))) pa_nil)))))))), ?_⟩
    obtain ⟨xv, hxv, ⟨pz, rfl, hpz⟩⟩ := paired_get h2 hz
    refine ⟨_, rfl, _, rfl, pa, xs, c, _, rfl, rfl, sqH (hs _ _ h1), hxv, pz, a0, z, 0, rfl, rfl, rdT hpz hs, nought _, _, rfl, ite2 (fun cc => ?_) (fun cc => ?_)⟩
    · have e : z = 0 := of_decide_eq_true cc
      subst e
      rw [zipWith_zero hlen] at q
      exact ⟨_, rfl, q _ I H (Gr.refl hs) ⟨pa, xs, rfl, h1, h2⟩⟩
    · refine ⟨_, rfl, _, rfl, pa, pb, xs, ys, rfl, sqH (hs _ _ h1), sqH (hs _ _ h3), lc_src (r' := rQ K) (f := fun _ => true) (m := fun e => e.1 - z * e.2) (src_zip h1 h2 h3 h4) hs (by rw [List.length_zip]; omega) (fun e x I1 H1 he re g1 Qg kk => ?_) (fun D' I1 H1 ws g1 mu pr => ?_)⟩
      · refine gPair re g1.s fun y' z' ry rz => kk _ rfl (evYes g1.s) fun I2 H2 g2 _ Q2 q2 => ?_
        have gi := g1.trans g2
        refine ⟨_, rfl, _, rfl, _, rfl, pa, xs, c, _, rfl, rfl, sqH (gi.s _ _ (gi.i _ _ h1)), hxv, _, rfl, ?_⟩
        refine ⟨I2, z, e.2, _, z', g2.s, rfl, ⟨pz, rfl, rdT hpz gi.i⟩, (rQ K).up rz g2.i, sz, fun v I3 H3 g3 rv => ?_⟩
        exact ⟨I3, e.1, z * e.2, y', v, g3.s, rfl, (rQ K).up ((rQ K).up ry g2.i) g3.i, rv, trivial, fun v' I4 H4 g4 rv' => q2 v' I4 H4 (g3.trans g4) rv'⟩
      · rw [filter_yes, zip_map (f := fun a b => a - z * b)] at pr
        exact q _ _ H1 (g1.stop mu) ⟨D', ws, rfl, upd_same, paired_up pr (Same.new mu.i)⟩
end
end OC
namespace OC
open PySem PySem.Spec PyProof.Rows L2
theorem src_rng2 {I : Hp} {c n : Nat} : Src (Itr (c : Int) n) I ((List.range n).map (fun i => c + i)) rN where
  go := fun i H hi e => by rw [List.length_map, List.length_range] at hi; exact hi
  stop := fun H e => by rw [List.length_map, List.length_range]; exact Nat.le_refl _
  yld := fun i I1 H1 x H' e1 e2 ⟨e3, hy⟩ hi => by
    subst e3
    rw [List.length_map, List.length_range] at hi
    refine ⟨c + i, I1, by rw [List.getElem?_map, List.getElem?_range hi]; rfl, Gr.refl e2, ?_⟩
    rw [hy]
    rfl
theorem paired_last {α : Type} {r : α → V → Prop} : ∀ {l : List α} {a : α} {xs : List V}, Paired r (l ++ [a]) xs → ∃ ys y, xs = ys ++ [y] ∧ r a y
  | [], _, _, .cons h .nil => ⟨[], _, rfl, h⟩
  | _ :: l, _, _, .cons h t => by
    obtain ⟨ys, y, e, q⟩ := paired_last (l := l) t
    exact ⟨_ :: ys, y, by rw [e]; rfl, q⟩
section
variable {P : Program} {w : World} {K : PySem.W.Frag} {mg : Str → Option Value} {base : Heap} {k : Nat}
def rowsT (m : Nat) (T : Nat → Eqn) : List (List Int) := (List.range m).map fun i => rowT m (T i) i
theorem rowsT_get {m i : Nat} {T : Nat → Eqn} (h : i < m) : (rowsT m T)[i]? = some (rowT m (T i) i) := by unfold rowsT; rw [List.getElem?_map, List.getElem?_range h]; rfl
theorem rowsT_len {m : Nat} {T : Nat → Eqn} : (rowsT m T).length = m := by unfold rowsT; rw [List.length_map, List.length_range]
theorem sh_ent {t : Eqn} {i k : Nat} : Sh (entT t i k) := by unfold entT Sh; split <;> (try split) <;> omega
/-- the equations behind some of the turns of a column -/
def midT (c i : Nat) (T : Nat → Eqn) (j : Nat) : Eqn := if j < i then stepT c T j else T j
theorem midT_c {m c i : Nat} {Vf : Nat → Int} {rho : Nat → Nat} {T : Nat → Eqn} (g : Gok m c Vf rho T) (hc : c < m) : midT c i T c = T c := by
  unfold midT stepT
  split
  · rw [if_neg (g.ne hc)]
  · rfl
theorem rowsT_ext {m : Nat} {T T' : Nat → Eqn} (h : ∀ i, i < m → T i = T' i) : rowsT m T = rowsT m T' := by
  unfold rowsT
  exact List.map_congr_left fun i hi => by rw [h i (List.mem_range.mp hi)]
theorem rowsT_mid0 {m c : Nat} {T : Nat → Eqn} : rowsT m (midT c 0 T) = rowsT m T := rowsT_ext fun i _ => by unfold midT; rw [if_neg (Nat.not_lt_zero i)]
theorem rowsT_midm {m c : Nat} {T : Nat → Eqn} : rowsT m (midT c m T) = rowsT m (stepT c T) := rowsT_ext fun i h => by unfold midT; rw [if_pos h]
theorem rowsT_set {m c i : Nat} {T : Nat → Eqn} (hi : i < m) : (rowsT m (midT c i T)).set i (rowT m (stepT c T i) i) = rowsT m (midT c (i + 1) T) := by
  apply List.ext_getElem?
  intro j
  by_cases hj : j < m
  · rw [rowsT_get hj]
    by_cases e : j = i
    · subst e
      rw [List.getElem?_set_self (by rw [rowsT_len]; exact hj)]
      unfold midT
      rw [if_pos (Nat.lt_succ_self j)]
    · rw [List.getElem?_set_ne (Ne.symm e), rowsT_get hj]
      unfold midT
      by_cases h : j < i
      · rw [if_pos h]
        rw [if_pos (by omega)]
      · rw [if_neg h]
        rw [if_neg (by omega)]
  · rw [List.getElem?_eq_none (by rw [List.length_set, rowsT_len]; omega), List.getElem?_eq_none (by rw [rowsT_len]; omega)]
theorem rowsT_skip {m c : Nat} {Vf : Nat → Int} {rho : Nat → Nat} {T : Nat → Eqn} (g : Gok m c Vf rho T) (hc : c < m) : rowsT m (midT c c T) = rowsT m (midT c (c + 1) T) := by
  have := rowsT_set (T := T) (c := c) hc
  rw [← this]
  have e : rowT m (stepT c T c) c = rowT m (midT c c T c) c := by
    unfold midT stepT
    rw [if_neg (g.ne hc), if_neg (Nat.lt_irrefl c)]
  rw [e]
  have h2 := rowsT_get (T := midT c c T) hc
  apply List.ext_getElem?
  intro j
  by_cases hj : j = c
  · subst hj
    rw [List.getElem?_set_self (by rw [rowsT_len]; exact hc)]
    exact h2
  · rw [List.getElem?_set_ne (Ne.symm hj)]
/-- an entry of the rows as they stand in the heap -/
theorem rows_at {I : Hp} {rows : List (List Int)} {ys : List L2.V} (h : Paired (fun e x => (rQs K).rel e x I) rows ys) {i j : Nat} {row : List Int} {z : Int} (hi : rows[i]? = some row) (hj : row[j]? = some z) :
    ∃ a xs q, ys[i]? = some (.ref a) ∧ I a = some (.lst xs) ∧ Paired (fun e x => (rQ K).rel e x I) row xs ∧ xs[j]? = some (.ref q) ∧ SqT K I q [.int z, .int 1] := by
  obtain ⟨y, hy, ⟨a, xs, rfl, h1, h2⟩⟩ := paired_get h hi
  obtain ⟨x, hx, ⟨q, rfl, hq⟩⟩ := paired_get h2 hj
  exact ⟨a, xs, q, hy, h1, h2, hx, hq⟩
theorem set_same {α : Type} {l : List α} {i : Nat} {a : α} (h : l[i]? = some a) : l.set i a = l := by
  apply List.ext_getElem?
  intro j
  by_cases e : j = i
  · subst e
    rw [List.getElem?_set_self (List.getElem?_eq_some_iff.mp h).1, h]
  · rw [List.getElem?_set_ne (Ne.symm e)]
theorem paired_set_same {α : Type} {r : α → L2.V → Prop} {l : List α} {xs : List L2.V} {i : Nat} {a : α} {x : L2.V} (h : Paired r l xs) (hi : l[i]? = some a) (hx : r a x) : Paired r l (xs.set i x) := by
  have := paired_set (i := i) h hx
  rw [set_same hi] at this
  exact this
def spSolution (K : PySem.W.Frag) : Sp := fun vs H Q _ => ∃ I m Vf rho T x, Same I H ∧ vs = [x] ∧ (rL (rQs K)).rel (rowsT m T) x I ∧ m ≤ 24 ∧ Gok m 0 Vf rho T ∧ ∀ v I' H', Gr I H I' H' → (rQs K).rel ((List.range m).map Vf) v I' → Q v H'
def iSol (K : PySem.W.Frag) (H : Hp) (m : Nat) (Vf : Nat → Int) (rho : Nat → Nat) (p : Addr) (c : Nat) (σ : L2.St) (I1 H1 : Hp) : Prop :=
  ∃ (z1 z2 z3 z4 : Option L2.V) (ys : List L2.V) (T : Nat → Eqn), σ = [some (.ref p), z1, z2, z3, z4, none, none] ∧ Mu H I1 H1 p (.lst ys) ∧ Paired (fun e x => (rQs K).rel e x I1) (rowsT m T) ys ∧ Gok m c Vf rho T
def jSol (K : PySem.W.Frag) (H : Hp) (m : Nat) (p : Addr) (c : Nat) (T : Nat → Eqn) (z3 z4 : L2.V) (i : Nat) (σ : L2.St) (I1 H1 : Hp) : Prop :=
  ∃ (z2 : Option L2.V) (ys : List L2.V), σ = [some (.ref p), some (vN c), z2, some z3, some z4, none, none] ∧ Mu H I1 H1 p (.lst ys) ∧ Paired (fun e x => (rQs K).rel e x I1) (rowsT m (midT c i T)) ys
abbrev s_only_solution : Stmt := topS 19
theorem sc_only_solution : FnScope ["rows", "column", "place", "pivot", "by", "one", "row"] ["rows"] (defScope s_only_solution) := ⟨rfl, rfl, rfl, by decide +kernel, rfl, by decide +kernel, by decide +kernel⟩
theorem first_piv {m c : Nat} {f : Nat → Bool} (hc : c < m) (h : f c = true) : ∃ r, ((List.range (m - c)).map fun i => c + i).filter f = c :: r := by
  obtain ⟨n, e⟩ : ∃ n, m - c = n + 1 := ⟨m - c - 1, by omega⟩
  rw [e, List.range_succ_eq_map, List.map_cons, List.filter_cons, if_pos (by rw [Nat.add_zero]; exact h), Nat.add_zero]
  exact ⟨_, rfl⟩
theorem c_only_solution (D : Dn K mg "only_solution" s_only_solution ["rows"]) (m_list : mg "list" = none) (m_range : mg "range" = none) (m_len : mg "len" = none) (k0 : Cst K mg "NOUGHT" 0) (k1 : Cst K mg "ONE_numbers" 1)
    (c_divided : Cal P w K mg base "divided" k (sp2Q K (fun a b => a = 1 ∧ b = 1) fun _ _ => 1)) (c_times : Cal P w K mg base "times" k (sp2Q K (fun a _ => Sh a) fun a b => a * b)) (c_without : Cal P w K mg base "without" k (spWithout K)) :
    Cal P w K mg base "only_solution" (k + 1) (spSolution K) := by
  obtain ⟨a0, m_NOUGHT, nought⟩ := k0
  obtain ⟨a1, m_ONE_numbers, one⟩ := k1
  refine D.ok sc_only_solution (fun vs H Q E h => ?_) (fun f cdv A' outer s0 H vs Q E hr h => ?_)
  · obtain ⟨I, m, Vf, rho, T, x, _, rfl, _⟩ := h
    rfl
  · obtain ⟨I, m, Vf, rho, T0, x, hs, rfl, ⟨a, xs, rfl, h1, h2⟩, hm, hG, q⟩ := h
    have hu64 := hr.units
    refine ⟨_, (pss_cons (ps_set (i := 0) sc_only_solution.nd rfl (Or.inr rfl) (pe_callTy call_list_of (by rfl) m_list (by decide +kernel) (pa_cons (pv 0) pa_nil)))
      (pss_cons (ps_for PassesOwn.never rfl (pi_range1 (by rfl) m_range (pa_cons (pe_callB call_len_seq (by rfl) m_len PySem.boot_len (pa_cons (pv 0) pa_nil)) pa_nil)) (pg_name (i := 1) sc_only_solution.nd rfl (Or.inr rfl))
      (pss_cons (ps_set (i := 3) sc_only_solution.nd rfl (Or.inl rfl) (pe_ix (ix_listK K) (pe_lc (own := [("place", 2)]) (g := gName 2) rfl sc_only_solution.nd (pi_range2 (by rfl) m_range (pa_cons (pv 1) (pa_cons (pe_callB call_len_seq (by rfl) m_len PySem.boot_len (pa_cons (pv 0) pa_nil)) pa_nil))) (blkOk_by (own := [("place", 2)]) (N := ["rows", "column", "place", "pivot", "by", "one", "row"]) (sc := defScope s_only_solution) (by decide +kernel)) (fun _ _ _ _ _ => (pg_name (i := 2) sc_only_solution.nd rfl (Or.inl rfl))) (fun _ _ _ _ _ => pts_one (pt_cmpR (op_neQ K hu64) (pe_ix (ix_N K) (pe_ix (ix_N K) (pv 0) (pv 2) (fun _ _ => rfl)) (pv 1) (fun _ _ => rfl)) (pe_gr (by rfl) m_NOUGHT) (nomark _))) (fun _ _ _ _ _ => (pv 2))) pe_int (fun _ _ => rfl)))
      (pss_cons (ps_asg (pe_tup (pa_cons (pe_ix (ix_N K) (pv 0) (pv 3) (fun _ _ => rfl)) (pa_cons (pe_ix (ix_N K) (pv 0) (pv 1) (fun _ _ => rfl)) pa_nil))) (pg_tup rfl (pgs_cons (pg_sub (pv 0) (pv 1) set_N) (pgs_cons (pg_sub (pv 0) (pv 3) set_N) pgs_nil))))
      (pss_cons (ps_set (i := 4) sc_only_solution.nd rfl (Or.inr rfl) (pe_c c_divided hr (by rfl) (pa_cons (pe_gr (by rfl) m_ONE_numbers) (pa_cons (pe_ix (ix_N K) (pe_ix (ix_N K) (pv 0) (pv 1) (fun _ _ => rfl)) (pv 1) (fun _ _ => rfl)) pa_nil))))
      (pss_cons (ps_asg (pe_lc (own := [("one", 5)]) (g := gName 5) rfl sc_only_solution.nd (pi_list (pe_ix (ix_N K) (pv 0) (pv 1) (fun _ _ => rfl))) (blkOk_by (own := [("one", 5)]) (N := ["rows", "column", "place", "pivot", "by", "one", "row"]) (sc := defScope s_only_solution) (by decide +kernel)) (fun _ _ _ _ _ => (pg_name (i := 5) sc_only_solution.nd rfl (Or.inl rfl))) (fun _ _ _ _ _ => pts_nil) (fun _ _ _ _ _ => (pe_c c_times hr (by rfl) (pa_cons (pv 4) (pa_cons (pv 5) pa_nil))))) (pg_sub (pv 0) (pv 1) set_N))
      (pss_one (ps_for PassesOwn.never rfl (pi_range1 (by rfl) m_range (pa_cons (pe_callB call_len_seq (by rfl) m_len PySem.boot_len (pa_cons (pv 0) pa_nil)) pa_nil)) (pg_name (i := 2) sc_only_solution.nd rfl (Or.inl rfl))
      (pss_one (ps_if (pt_cmpR op_ne (pv 2) (pv 1) (nomark _))
      (pss_one (ps_asg (pe_c c_without hr (by rfl) (pa_cons (pe_ix (ix_N K) (pv 0) (pv 2) (fun _ _ => rfl)) (pa_cons (pv 1) (pa_cons (pe_ix (ix_N K) (pv 0) (pv 1) (fun _ _ => rfl)) pa_nil)))) (pg_sub (pv 0) (pv 2) set_N))) pss_nil)))))))))
      (pss_one (ps_ret (pe_lc (own := [("row", 6)]) (g := gName 6) rfl sc_only_solution.nd (pi_list (pv 0)) (blkOk_by (own := [("row", 6)]) (N := ["rows", "column", "place", "pivot", "by", "one", "row"]) (sc := defScope s_only_solution) (by decide +kernel)) (fun _ _ _ _ _ => (pg_name (i := 6) sc_only_solution.nd rfl (Or.inl rfl))) (fun _ _ _ _ _ => pts_nil) (fun _ _ _ _ _ => (pe_ix (ix_listK K) (pv 6) (pe_un un_neg pe_int) (fun _ _ => rfl)))))))), ?_⟩
    -- rows = list(rows)
    refine ⟨_, rfl, a, xs, rfl, .inl (sqH (hs _ _ h1)), fun p np => ?_⟩
    have g0 := Gr.mut (o := .lst xs) hs np
    have mu0 : Mu H I (upd H p (.lst xs)) p (.lst xs) := ⟨np, hs.free np, upd_same⟩
    have xlen : xs.length = m := by rw [paired_len h2, rowsT_len]
    refine ⟨_, rfl, p, xs, rfl, .inl (sqH mu0.h), _, rfl, by omega, by omega, for_src (iSol K H m Vf rho p) (src_rng (n := xs.length)) g0 ⟨none, none, none, none, xs, T0, rfl, mu0, h2, hG⟩ ?_ ?_⟩
    · rintro i0 c xv σ1 I1 H1 I2 H2 hc g1 e1 ⟨z1, z2, z3, z4, ys, T, rfl, mu, pr, gk⟩ gy rv
      have rv : xv = vN c := rv
      subst rv
      have hi0 : i0 < m := by have := (List.getElem?_eq_some_iff.mp hc).1; rw [List.length_range] at this; omega
      have ec : c = i0 := by rw [List.getElem?_range (by omega)] at hc; exact (Option.some.inj hc).symm
      subst ec
      have hc : c < m := hi0
      have mu := mu.up gy
      have g2 := g1.trans gy
      have pr := paired_up pr gy.i
      have ylen : ys.length = m := by rw [paired_len pr, rowsT_len]
      -- pivot
      refine ⟨_, rfl, _, rfl, p, ys, rfl, .inl (sqH mu.h), _, _, rfl, ⟨by omega, by omega, by omega, by omega⟩, lc_flat (v := vN) (m := fun i => i) (f := fun i => !decide (entT (T i) i c = 0)) (src_rng2 (c := c)) g2.s (by rw [List.length_map, List.length_range]; omega) (fun e x I3 H3 he re g3 Qg kk => ?_) (fun D' I3 H3 g3 mu3 => ?_)⟩
      · have re : x = vN e := re
        subst re
        have hem : e < m := by
          obtain ⟨j, hj, ej⟩ := List.mem_map.mp he
          have := List.mem_range.mp hj
          omega
        have mu3 := mu.up g3
        have pr3 := paired_up pr g3.i
        obtain ⟨a', xs', q', hy, ha', _, hx', hq'⟩ := rows_at pr3 (rowsT_get hem) (rowT_get hc)
        refine kk _ rfl (fun Q2 q2 => ?_) (fun I4 H4 g4 _ Q2 q2 => ⟨_, rfl, q2 _ I4 H4 (Gr.refl g4.s) rfl⟩)
        exact ⟨_, rfl, _, rfl, p, ys, e, _, rfl, rfl, sqH mu3.h, hy, _, rfl, a', xs', c, _, rfl, rfl, sqH (g3.s _ _ ha'), hx', q', a0, _, 0, rfl, rfl, rdT hq' g3.s, nought _, _, rfl, q2 I3 H3 (Gr.refl g3.s)⟩
      have mu' := mu.up g3
      have pr3 := paired_up pr g3.i
      have g23 := g2.trans g3
      have em : (((ys.length : Int) - (c : Int)).toNat) = m - c := by omega
      have hpiv : ∃ r, (((List.range ((ys.length : Int) - (c : Int)).toNat).map (fun i => c + i)).filter fun i => !decide (entT (T i) i c = 0)) = c :: r := by
        rw [em]
        exact first_piv hc (by rw [entT_self]; rfl)
      obtain ⟨r, er⟩ := hpiv
      rw [map_same, er] at mu3
      refine ⟨D', _, 0, vN c, rfl, rfl, sqH mu3.h, atI_nat (j := 0) rfl, ?_⟩
      -- the swap
      obtain ⟨ra, rxs, rq, hy, hra, hrp, hrx, hrq⟩ := rows_at pr3 (rowsT_get hc) (rowT_get hc)
      have sy := set_same hy
      refine ⟨_, rfl, _, rfl, p, ys, c, _, rfl, rfl, sqH mu'.h, hy, _, rfl, _, rfl, p, ys, c, _, rfl, rfl, sqH mu'.h, hy, by show 2 ≤ sizeLine; decide, fun Tt nT => ?_⟩
      have gT := Gr.imm (o := .tup [.ref ra, .ref ra]) g23.s nT
      have mu' := mu'.up gT
      have g24 := g23.trans gT
      have pr4 := paired_up pr3 gT.i
      have muA := mu'.set (u := .lst (ys.set c (.ref ra)))
      have gA := g24.put (u := .lst (ys.set c (.ref ra))) mu'
      rw [sy] at muA gA
      have muB := muA.set (u := .lst (ys.set c (.ref ra)))
      have gB := gA.put (u := .lst (ys.set c (.ref ra))) muA
      rw [sy] at muB gB
      refine ⟨Tt, _, rfl, .inl (.inl upd_same), rfl, _, _, rfl, _, rfl, _, rfl, p, ys, c, rfl, rfl, mu'.h, by omega, ?_⟩
      rw [sy]
      refine ⟨_, _, rfl, _, rfl, _, rfl, p, ys, c, rfl, rfl, muA.h, by omega, ?_⟩
      rw [sy]
      refine ⟨rfl, ?_⟩
      -- by
      have hra4 := gT.i _ _ hra
      have hrq4 := rdT hrq gT.i
      have entc : entT (T c) c c = 1 := entT_self
      rw [entc] at hrq4
      refine ⟨_, rfl, _, rfl, p, ys, c, _, rfl, rfl, sqH muB.h, hy, _, rfl, ra, rxs, c, _, rfl, rfl, sqH (gB.s _ _ hra4), hrx, _, 1, 1, _, _, gB.s, rfl, ⟨a1, rfl, one _⟩, ⟨rq, rfl, hrq4⟩, ⟨rfl, rfl⟩, fun v5 I5 H5 g5 rv5 => ?_⟩
      have mu5 := muB.up g5
      have gg5 := gB.trans g5
      have pr5 := paired_up pr4 g5.i
      have hra5 := g5.i _ _ hra4
      have hrp5 := paired_up (paired_up hrp gT.i) g5.i
      -- rows[column] = [times(by, one) ..]
      refine ⟨_, rfl, _, rfl, p, ys, c, _, rfl, rfl, sqH mu5.h, hy, ra, rfl, ⟨_, sqH (gg5.s _ _ hra5)⟩, lc_src (r' := rQ K) (f := fun _ => true) (m := fun z => 1 * z) (src_list hra5 hrp5) gg5.s (by rw [rowT_len]; omega) (fun e x I6 H6 he re g6 Qg kk => ?_) (fun D6 I6 H6 ws g6 mu6 pr6 => ?_)⟩
      · refine kk _ rfl (evYes g6.s) (fun I7 H7 g7 _ Q2 q2 => ?_)
        exact ⟨_, rfl, _, rfl, I7, 1, e, _, x, g7.s, rfl, (rQ K).up rv5 (g6.i.trans g7.i), (rQ K).up re g7.i, ⟨by decide, by decide⟩, fun v8 I8 H8 g8 rv8 => q2 v8 I8 H8 g8 rv8⟩
      have e1 : (List.map (fun z : Int => 1 * z) (List.filter (fun _ => true) (rowT m (T c) c))) = rowT m (T c) c := by
        rw [filter_yes]
        exact (List.map_congr_left fun z _ => Int.one_mul z).trans (List.map_id' _)
      rw [e1] at pr6
      have gs6 := g6.stop mu6
      have mu7 := mu5.up gs6
      have gg7 := gg5.trans gs6
      have pr7 := paired_up pr5 gs6.i
      have newrow : (rQs K).rel (rowT m (T c) c) (.ref D6) (upd I6 D6 (.lst ws)) := ⟨D6, ws, rfl, upd_same, paired_up pr6 (Same.new mu6.i)⟩
      have pr8 := paired_set_same pr7 (rowsT_get hc) newrow
      refine ⟨_, rfl, _, rfl, p, ys, c, rfl, rfl, mu7.h, by omega, ?_⟩
      have mu8 := mu7.set (u := .lst (ys.set c (.ref D6)))
      have gg8 := gg7.put (u := .lst (ys.set c (.ref D6))) mu7
      have ylen8 : (ys.set c (.ref D6)).length = m := by rw [List.length_set]; exact ylen
      rw [← rowsT_mid0 (c := c)] at pr8
      refine ⟨_, rfl, p, _, rfl, .inl (sqH mu8.h), _, rfl, by omega, by omega, for_src (jSol K H m p c T (vN c) v5) (src_rng (n := (ys.set c (.ref D6)).length)) gg8 ⟨_, _, rfl, mu8, pr8⟩ ?_ ?_⟩
      · rintro i e xv σ3 I9 H9 I10 H10 he g9 e9 ⟨z2', ys9, rfl, mu9, pr9⟩ gy9 rv9
        have rv9 : xv = vN e := rv9
        subst rv9
        have him : i < m := by have := (List.getElem?_eq_some_iff.mp he).1; rw [List.length_range] at this; omega
        have ee : e = i := by rw [List.getElem?_range (by omega)] at he; exact (Option.some.inj he).symm
        subst ee
        have mu9 := mu9.up gy9
        have g10 := g9.trans gy9
        have pr9 := paired_up pr9 gy9.i
        have ylen9 : ys9.length = m := by rw [paired_len pr9, rowsT_len]
        refine ⟨_, rfl, _, rfl, rfl, _, rfl, ite2 (fun cc => ?_) (fun cc => ?_)⟩
        · have nec : e ≠ c := fun z => by
            subst z
            rw [decide_eq_true rfl] at cc
            cases cc
          obtain ⟨b, bxs, bq, hb, hbl, hbp, _, _⟩ := rows_at pr9 (rowsT_get him) (rowT_get hc)
          obtain ⟨d, dxs, dq, hd, hdl, hdp, _, _⟩ := rows_at pr9 (rowsT_get hc) (rowT_get hc)
          have mi : midT c e T e = T e := by unfold midT; rw [if_neg (Nat.lt_irrefl e)]
          have mc : midT c e T c = T c := midT_c gk hc
          rw [mi] at hbp
          rw [mc] at hdp
          refine ⟨_, rfl, _, rfl, p, ys9, e, _, rfl, rfl, sqH mu9.h, hb, _, rfl, _, rfl, _, rfl, p, ys9, c, _, rfl, rfl, sqH mu9.h, hd, I10, rowT m (T e) e, rowT m (T c) c, c, entT (T e) e c, .ref b, .ref d, g10.s, rfl, ⟨b, bxs, rfl, hbl, hbp⟩, ⟨d, dxs, rfl, hdl, hdp⟩, by rw [rowT_len, rowT_len], by rw [rowT_len]; omega, rowT_get hc, sh_ent, fun v11 I11 H11 g11 rv11 => ?_⟩
          have mu11 := mu9.up g11
          rw [row_without gk him hc nec] at rv11
          have pr11 := paired_set (i := e) (paired_up pr9 g11.i) rv11
          rw [rowsT_set him] at pr11
          exact ⟨_, rfl, _, rfl, p, ys9, e, rfl, rfl, mu11.h, by omega, I11, (g10.trans g11).put mu11, e9.trans (gy9.i.trans g11.i), _, _, rfl, mu11.set, pr11⟩
        · have nec : e = c := Classical.byContradiction fun n => cc (by
            have : ¬ vN e = vN c := fun z => n (vN_inj z)
            rw [decide_eq_false this]
            rfl)
          subst nec
          rw [rowsT_skip gk hc] at pr9
          exact ⟨I10, g10, e9.trans gy9.i, _, _, rfl, mu9, pr9⟩
      · rintro σ3 I9 H9 g9 e9 ⟨z2', ys9, rfl, mu9, pr9⟩
        rw [List.length_range, ylen8, rowsT_midm] at pr9
        exact ⟨I9, g9, g9.i, _, _, _, _, _, _, rfl, mu9, pr9, gk.step hc⟩
    · rintro σ1 I1 H1 g1 e1 ⟨z1, z2, z3, z4, ys, T, rfl, mu, pr, gk⟩
      rw [List.length_range, xlen] at gk
      have gs := g1.stop mu
      refine ⟨_, rfl, p, rfl, ⟨_, sqH mu.h⟩, lc_src (r' := rQ K) (f := fun _ => true) (m := fun row => (row.getLast?).getD 0) (src_list (I := upd I1 p (.lst ys)) upd_same (paired_up pr (Same.new mu.i))) gs.s (by rw [rowsT_len]; omega) (fun e x I6 H6 he re g6 Qg kk => ?_) (fun D6 I6 H6 ws g6 mu6 pr6 => ?_)⟩
      · refine kk _ rfl (evYes g6.s) (fun I7 H7 g7 _ Q2 q2 => ?_)
        obtain ⟨i, hi, rfl⟩ := List.mem_map.mp he
        obtain ⟨b, bxs, rfl, hb, hp⟩ := re
        obtain ⟨us, u, eu, ru⟩ := paired_last hp
        have hb7 := g7.h _ _ (g6.s _ _ hb)
        rw [eu] at hb7
        rw [rowT_getLast] at q2
        exact ⟨_, rfl, 1, rfl, b, _, -1, _, rfl, rfl, sqH hb7, atI_last _ _, q2 u I7 H7 (Gr.refl g7.s) ((rQ K).up ru g7.i)⟩
      · rw [filter_yes] at pr6
        have e2 : (rowsT m T).map (fun row => (row.getLast?).getD 0) = (List.range m).map Vf := by
          unfold rowsT
          rw [List.map_map]
          refine List.map_congr_left fun i hi => ?_
          show ((rowT m (T i) i).getLast?).getD 0 = Vf i
          rw [rowT_getLast, gk.fin (List.mem_range.mp hi)]
          rfl
        rw [e2] at pr6
        exact q _ _ H6 (gs.trans (g6.stop mu6)) ⟨D6, ws, rfl, upd_same, paired_up pr6 (Same.new mu6.i)⟩
end
end OC
namespace OC
open PySem PySem.Spec PyProof.Rows L2
section
variable {P : Program} {w : World} {K : PySem.W.Frag} {mg : Str → Option Value} {base : Heap} {k : Nat}
def plD : Pl := ⟨0, .draw, []⟩
theorem list_len {l : List V} (h : l.length ≤ 25) : l.length ≤ 90000 := by omega

def spGreatest (K : PySem.W.Frag) : Sp := fun vs H Q _ => ∃ I G L x y, Same I H ∧ vs = [x, y] ∧ (rG K).rel G x I ∧ rNs.rel L y I ∧ L ≠ [] ∧ L.length ≤ 30 ∧ (∀ q ∈ L, q < G.length) ∧
  ∀ (m : Nat) I' H', Gr I H I' H' → (∃ q ∈ L, mkOf G q = m) → (∀ q ∈ L, mkOf G q ≤ m) → Q (vN m) H'
abbrev s_greatest_mark : Stmt := topS 23
theorem sc_greatest_mark : FnScope ["chain", "places", "place"] ["chain", "places"] (defScope s_greatest_mark) := ⟨rfl, rfl, rfl, by decide +kernel, rfl, by decide +kernel, by decide +kernel⟩
theorem c_greatest_mark (D : Dn K mg "greatest_mark" s_greatest_mark ["chain", "places"]) (c_marks_of : Cal P w K mg base "marks_of" k (spMarksOf K)) : Cal P w K mg base "greatest_mark" (k + 1) (spGreatest K) := by
  refine D.ok sc_greatest_mark (fun vs H Q E h => ?_) (fun f cdv A' outer s0 H vs Q E hr h => ?_)
  · obtain ⟨I, G, L, x, y, _, rfl, _⟩ := h
    rfl
  · obtain ⟨I, G, L, x, y, hs, rfl, ⟨a, xs, rfl, h1, h2⟩, ⟨b, rfl, hb⟩, hne, hl, hlt, q⟩ := h
    refine ⟨_, (pss_one (ps_ret (pe_ix (ix_listK K) (pe_c c_marks_of hr (by rfl) (pa_cons (pe_lc (own := [("place", 2)]) (g := gName 2) rfl sc_greatest_mark.nd (pi_list (pv 1)) (blkOk_by (own := [("place", 2)]) (N := ["chain", "places", "place"]) (sc := defScope s_greatest_mark) (by decide +kernel)) (fun _ _ _ _ _ => (pg_name (i := 2) sc_greatest_mark.nd rfl (Or.inl rfl))) (fun _ _ _ _ _ => pts_nil) (fun _ _ _ _ _ => (pe_ix (ix_N K) (pv 0) (pv 2) (fun _ _ => rfl)))) pa_nil)) (pe_un un_neg pe_int) (fun _ _ => rfl)))), ?_⟩
    refine ⟨_, rfl, b, rfl, ⟨_, sqH (hs _ _ hb)⟩, lc_src (r' := rP K) (f := fun _ => true) (m := fun q => (G[q]?).getD plD) (src_listF hb) hs (by omega) (fun e x I1 H1 he re g1 Qg kk => ?_) (fun D' I1 H1 ws g1 mu pr => ?_)⟩
    · have re : x = vN e := re
      subst re
      obtain ⟨pl, hpl⟩ := pl_at (hlt e he)
      obtain ⟨y, hy, ry⟩ := paired_get h2 hpl
      refine kk _ rfl (evYes g1.s) (fun I2 H2 g2 _ Q2 q2 => ?_)
      have gi := g1.trans g2
      rw [hpl] at q2
      exact ⟨_, rfl, _, rfl, a, xs, e, y, rfl, rfl, sqH (gi.s _ _ (gi.i _ _ h1)), hy, q2 y I2 H2 (Gr.refl g2.s) ((rP K).up ry gi.i)⟩
    · rw [filter_yes] at pr
      have gs := g1.stop mu
      refine ⟨_, L.map fun q => (G[q]?).getD plD, _, gs.s, rfl, ⟨D', ws, rfl, upd_same, paired_up pr (Same.new mu.i)⟩, by rw [List.length_map]; exact hl, fun z => hne (List.map_eq_nil_iff.mp z), fun D2 I2 H2 ms m g2 mu2 hex hall => ?_⟩
      have h2 := mu2.h
      rw [List.map_append] at h2
      refine ⟨1, rfl, D2, _, -1, _, rfl, rfl, sqH h2, atI_last _ _, q m I2 H2 (gs.trans g2) ?_ fun z hz => ?_⟩
      · obtain ⟨pl, hpl, e⟩ := hex
        obtain ⟨z, hz, ez⟩ := List.mem_map.mp hpl
        obtain ⟨pl', hpl'⟩ := pl_at (hlt z hz)
        refine ⟨z, hz, ?_⟩
        rw [mk_at hpl', ← e, ← ez, hpl']
        rfl
      · obtain ⟨pl', hpl'⟩ := pl_at (hlt z hz)
        have := hall ((G[z]?).getD plD) (List.mem_map.mpr ⟨z, hz, rfl⟩)
        rw [hpl'] at this
        rw [mk_at hpl']
        exact this

/-- a list of what is reached from p -/
structure Way (C : Gm) (p : Nat) (L : List Nat) : Prop where
  mem : ∀ q, q ∈ L ↔ OkR C p q
  ord : L.Pairwise (· ≤ ·)
  len : L.length ≤ 25
  lt : ∀ q ∈ L, q < C.length
def rWay (C : Gm) : Rp Nat := ⟨fun p v I => ∃ L, rNs.rel L v I ∧ Way C p L, fun ⟨L, h1, h2⟩ e => ⟨L, rNs.up h1 e, h2⟩⟩
/-- the lists of the closed classes -/
structure Clos (C : Gm) (Ls : List (List Nat)) : Prop where
  cls : ∀ L ∈ Ls, ∃ p, p < C.length ∧ Way C p L ∧ ∀ q ∈ L, OkR C q p
  all : ∀ p, p < C.length → Recu C p → ∃ L ∈ Ls, p ∈ L
  len : Ls.length ≤ 24
def spClosed (K : PySem.W.Frag) : Sp := fun vs H Q _ => ∃ I C x, Same I H ∧ vs = [x] ∧ (rG K).rel C x I ∧ Wf C ∧ ∀ v I' H' Ls, Gr I H I' H' → (rL rNs).rel Ls v I' → Clos C Ls → Q v H'
def iClosed (H : Hp) (C : Gm) (x : V) (pw p0 : Addr) (i : Nat) (σ : L2.St) (I1 H1 : Hp) : Prop :=
  ∃ (z1 z4 : Option V) (ys : List V) (Ls : List (List Nat)), σ = [some x, z1, some (.ref pw), some (.ref p0), z4, none] ∧ Mu H I1 H1 p0 (.lst ys) ∧ Paired (fun e x => rNs.rel e x I1) Ls ys ∧
    (∀ L ∈ Ls, ∃ p, p < C.length ∧ Way C p L ∧ ∀ q ∈ L, OkR C q p) ∧ (∀ p, p < i → p < C.length → Recu C p → (∀ q, OkR C p q → p ≤ q) → ∃ L ∈ Ls, ∀ q, OkR C p q → q ∈ L) ∧ Ls.length ≤ i
theorem okR_lt {C : Gm} (h : Wf C) {p q : Nat} (hp : p < C.length) (a : OkR C p q) : q < C.length := by
  rcases a with rfl | a
  · exact hp
  · exact a.stays (T := fun x => x < C.length) hp fun x y _ r _ => h.ed r
open Classical in
theorem all_dec {l : List Nat} {R : Nat → Prop} : (l.map fun e => decide (R e)).all id = true ↔ ∀ e ∈ l, R e := by
  rw [List.all_eq_true]
  constructor
  · intro h e he
    exact of_decide_eq_true (h _ (List.mem_map.mpr ⟨e, he, rfl⟩))
  · intro h b hb
    obtain ⟨e, he, rfl⟩ := List.mem_map.mp hb
    exact decide_eq_true (h e he)
abbrev s_closed_classes : Stmt := topS 21
theorem sc_closed_classes : FnScope ["chain", "place", "ways", "found", "way", "other"] ["chain"] (defScope s_closed_classes) := ⟨rfl, rfl, rfl, by decide +kernel, rfl, by decide +kernel, by decide +kernel⟩
open Classical in
theorem c_closed_classes (D : Dn K mg "closed_classes" s_closed_classes ["chain"]) (m_range : mg "range" = none) (m_len : mg "len" = none) (m_enumerate : mg "enumerate" = none) (m_all : mg "all" = none) (c_reached : Cal P w K mg base "reached" k (spReached K)) :
    Cal P w K mg base "closed_classes" (k + 1) (spClosed K) := by
  refine D.ok sc_closed_classes (fun vs H Q E h => ?_) (fun f cdv A' outer s0 H vs Q E hr h => ?_)
  · obtain ⟨I, C, x, _, rfl, _⟩ := h
    rfl
  · obtain ⟨I, C, x, hs, rfl, ⟨a, xs, rfl, h1, h2⟩, hw, q⟩ := h
    refine ⟨_, (pss_cons (ps_set (i := 2) sc_closed_classes.nd rfl (Or.inr rfl) (pe_lc (own := [("place", 1)]) (g := gName 1) rfl sc_closed_classes.nd (pi_range1 (by rfl) m_range (pa_cons (pe_callB call_len_seq (by rfl) m_len PySem.boot_len (pa_cons (pv 0) pa_nil)) pa_nil)) (blkOk_by (own := [("place", 1)]) (N := ["chain", "place", "ways", "found", "way", "other"]) (sc := defScope s_closed_classes) (by decide +kernel)) (fun _ _ _ _ _ => (pg_name (i := 1) sc_closed_classes.nd rfl (Or.inl rfl))) (fun _ _ _ _ _ => pts_nil) (fun _ _ _ _ _ => (pe_c c_reached hr (by rfl) (pa_cons (pv 0) (pa_cons (pv 1) pa_nil))))))
      (pss_cons (ps_set (i := 3) sc_closed_classes.nd rfl (Or.inl rfl) (pe_lst pa_nil))
      (pss_cons (ps_for PassesOwn.never rfl (pi_enum (by rfl) m_enumerate (pa_cons (pv 2) pa_nil)) (pg_tup rfl (pgs_cons (pg_name (i := 1) sc_closed_classes.nd rfl (Or.inr rfl)) (pgs_cons (pg_name (i := 4) sc_closed_classes.nd rfl (Or.inl rfl)) pgs_nil)))
      (pss_one (ps_if (PW.pt (pw_and (pt_cmpR op_eq (pe_ix (ix_N K) (pv 4) pe_int (fun _ _ => rfl)) (pv 1) (nomark _)) (pw_and1 (pt_val (pe_callB (cr_all rfl) (by rfl) m_all (by decide +kernel) (pa_cons (pe_lc (own := [("other", 5)]) (g := gName 5) rfl sc_closed_classes.nd (pi_list (pv 4)) (blkOk_by (own := [("other", 5)]) (N := ["chain", "place", "ways", "found", "way", "other"]) (sc := defScope s_closed_classes) (by decide +kernel)) (fun _ _ _ _ _ => (pg_name (i := 5) sc_closed_classes.nd rfl (Or.inl rfl))) (fun _ _ _ _ _ => pts_nil) (fun _ _ _ _ _ => (pe_cmpR (op_inN K) (pv 1) (pe_ix (ix_N K) (pv 2) (pv 5) (fun _ _ => rfl)) (by rfl)))) pa_nil))))))
      (pss_one (ps_expr (pe_bm PySem.F.plainAttrs_list PySem.F.slot_list_append PySem.F.type_list_append mt_append (pv 3) (pa_cons (pv 4) pa_nil)))) pss_nil)))
      (pss_one (ps_ret (pv 3)))))), ?_⟩
    have xlen : xs.length = C.length := paired_len h2
    have hlen := hw.len
    refine ⟨_, rfl, a, xs, rfl, .inl (sqH (hs _ _ h1)), _, rfl, by omega, by omega, lc_src (r' := rWay C) (f := fun _ => true) (m := fun q => q) (src_rng (n := xs.length)) hs (by rw [List.length_range]; omega) (fun e x I1 H1 he re g1 Qg kk => ?_) (fun pw I1 H1 ws g1 mu pr => ?_)⟩
    · have re : x = vN e := re
      subst re
      have he : e < C.length := by have := List.mem_range.mp he; omega
      refine kk _ rfl (evYes g1.s) (fun I2 H2 g2 _ Q2 q2 => ?_)
      have gi := g1.trans g2
      refine ⟨_, rfl, _, rfl, I2, C, e, _, g2.s, rfl, (rG K).up ⟨a, xs, rfl, h1, h2⟩ gi.i, hw, he, fun D3 I3 H3 L g3 mu3 hm ho hl hlt => ?_⟩
      exact q2 _ _ H3 (g3.stop mu3) ⟨L, ⟨D3, rfl, upd_same⟩, hm, ho, hl, hlt⟩
    rw [map_same, filter_yes, xlen] at pr
    have gs := g1.stop mu
    have prw := paired_up pr (Same.new (o := .lst ws) mu.i)
    refine ⟨Nat.zero_le _, fun p0 np0 => ?_⟩
    have g2 := gs.trans (Gr.mut (o := .lst []) gs.s np0)
    have m0 := Mu.new (o := .lst []) gs np0
    refine ⟨_, rfl, pw, ws, rfl, sqH (g2.s _ _ upd_same), for_src (iClosed H C (.ref a) pw p0) (src_enum (I := upd I1 pw (.lst ws)) upd_same prw) g2 ⟨none, none, [], [], rfl, m0, .nil, fun L hL => absurd hL (by simp), fun p hp => absurd hp (Nat.not_lt_zero p), Nat.le_refl _⟩ ?_ ?_⟩
    · rintro i e xv σ1 I3 H3 I4 H4 he g3 e3 ⟨z1, z4, ys, Ls, rfl, mf, prl, hcls, hdone, hll⟩ g4 re
      obtain ⟨he1, he2⟩ := of_enumL he
      have hi : i < C.length := by have := (List.getElem?_eq_some_iff.mp he2).1; rw [List.length_range] at this; exact this
      have he2 : e.2 = i := by rw [List.getElem?_range hi] at he2; exact (Option.some.inj he2).symm
      have mf := mf.up g4
      have gg := g3.trans g4
      have prl := paired_up prl g4.i
      refine gPair re g4.s fun y z ry rz => ?_
      have ry : y = vN i := by rw [← he1]; exact ry
      subst ry
      rw [he2] at rz
      obtain ⟨L, ⟨b, rfl, hb⟩, way⟩ := rz
      have hbH := g4.s _ _ hb
      have hmin : ∃ h t, L = h :: t := by
        cases e : L with
        | nil =>
          have := (way.mem i).mpr (.inl rfl)
          rw [e] at this
          cases this
        | cons h t => exact ⟨h, t, rfl⟩
      obtain ⟨h0, t0, eL⟩ := hmin
      have hget : (L.map vN)[0]? = some (vN h0) := by rw [eL]; rfl
      have wsH : H4 pw = some (.lst ws) := gg.s _ _ (g4.i _ _ (e3 _ _ upd_same))
      have skip : (Recu C i → (∀ q, OkR C i q → i ≤ q) → False) → Nx I H (upd I1 pw (.lst ws)) (iClosed H C (.ref a) pw p0 (i + 1)) [some (.ref a), some (vN i), some (.ref pw), some (.ref p0), some (.ref b), none] H4 := fun hn =>
        ⟨I4, gg, e3.trans g4.i, _, _, ys, Ls, rfl, mf, prl, hcls, fun p hp hpn hr hmn => by
          by_cases e : p = i
          · subst e; exact (hn hr hmn).elim
          · exact hdone p (by omega) hpn hr hmn, by omega⟩
      refine ⟨_, rfl, b, _, 0, _, rfl, rfl, sqH hbH, hget, _, rfl, rfl, _, rfl, ?_⟩
      by_cases hh : h0 = i
      · have : decide (vN h0 = vN i) = true := decide_eq_true (by rw [hh])
        rw [this]
        refine iteT ⟨_, rfl, b, rfl, ⟨_, sqH hbH⟩, lc_flat (v := V.bl) (f := fun _ => true) (m := fun o => decide (OkR C o i)) (src_listF hb) g4.s (by have := way.len; omega) (fun o x I5 H5 ho ro g5 Qg kk => ?_) (fun D5 I5 H5 g5 mu5 => ?_)⟩
        · have ro : x = vN o := ro
          subst ro
          have hon := way.lt o ho
          obtain ⟨wv, hwv, ⟨L', ⟨c, rfl, hc⟩, way'⟩⟩ := paired_get prw (List.getElem?_range hon)
          refine kk _ rfl (evYes g5.s) (fun I6 H6 g6 _ Q2 q2 => ?_)
          have gi := g5.trans g6
          have hc6 := gi.i _ _ (g4.i _ _ (e3 _ _ hc))
          refine ⟨_, rfl, _, rfl, _, rfl, pw, ws, o, _, rfl, rfl, sqH (gi.h _ _ wsH), hwv, c, L', i, rfl, rfl, sqH (gi.s _ _ hc6), q2 _ I6 H6 (Gr.refl g6.s) ?_⟩
          have : decide (i ∈ L') = decide (OkR C o i) := by rw [decide_eq_decide]; exact way'.mem i
          rw [this]
        · rw [filter_yes] at mu5
          refine ⟨D5, _, rfl, sqH mu5.h, _, rfl, ?_⟩
          by_cases hall : ∀ o ∈ L, OkR C o i
          · rw [all_dec.mpr hall]
            have mf5 := mf.up g5
            refine iteT ⟨_, rfl, .inl ⟨rfl, _, sqH mf5.h⟩, _, rfl, p0, _, _, rfl, rfl, mf5.h, line_lt (by rw [paired_len prl]; omega), I5, (gg.trans g5).put mf5, e3.trans (g4.i.trans g5.i), _, _, _, Ls ++ [L], rfl, mf5.set, paired_snoc (paired_up prl g5.i) ⟨b, rfl, g5.i _ _ hb⟩, fun M hM => ?_, fun p hp hpn hr hmn => ?_, by rw [List.length_append]; show Ls.length + 1 ≤ i + 1; omega⟩
            · rcases List.mem_append.mp hM with z | z
              · exact hcls M z
              · rw [List.mem_singleton.mp z]; exact ⟨i, hi, way, hall⟩
            · by_cases e : p = i
              · subst e; exact ⟨L, by simp, fun q hq => (way.mem q).mpr hq⟩
              · obtain ⟨M, hM, z⟩ := hdone p (by omega) hpn hr hmn
                exact ⟨M, List.mem_append_left _ hM, z⟩
          · have : (L.map fun o => decide (OkR C o i)).all id = false := by
              cases e : (L.map fun o => decide (OkR C o i)).all id with
              | false => rfl
              | true => exact absurd (all_dec.mp e) hall
            rw [this]
            refine iteF ?_
            obtain ⟨I', g', e', r'⟩ := skip fun hr _ => hall fun o ho => hr o ((way.mem o).mp ho)
            obtain ⟨_, _, ys', Ls', es, mf', prl', rest'⟩ := r'
            exact ⟨I5, gg.trans g5, e3.trans (g4.i.trans g5.i), _, _, ys, Ls, rfl, mf.up g5, paired_up prl g5.i, hcls, fun p hp hpn hr hmn => by
              by_cases e : p = i
              · subst e; exact (hall fun o ho => hr o ((way.mem o).mp ho)).elim
              · exact hdone p (by omega) hpn hr hmn, by omega⟩
      · have : decide (vN h0 = vN i) = false := decide_eq_false fun z => hh (vN_inj z)
        rw [this]
        refine iteF (iteF (skip fun hr hmn => hh ?_))
        have h1 : OkR C i h0 := (way.mem h0).mp (by rw [eL]; simp)
        have h2 := hmn h0 h1
        have h3 : i ∈ L := (way.mem i).mpr (.inl rfl)
        have ho := way.ord
        rw [eL] at h3 ho
        rcases List.mem_cons.mp h3 with e | e
        · exact e.symm
        · have := (List.pairwise_cons.mp ho).1 i e
          omega
    · rintro σ1 I3 H3 g3 e3 ⟨z1, z4, ys, Ls, rfl, mf, prl, hcls, hdone, hll⟩
      rw [enumL_len, List.length_range] at hdone hll
      refine ⟨_, rfl, q _ _ H3 Ls (g3.stop mf) ⟨p0, ys, rfl, upd_same, paired_up prl (Same.new mf.i)⟩ ⟨hcls, fun p hp hr => ?_, by omega⟩⟩
      -- the least place that p reaches
      have least : ∀ n p, p ≤ n → p < C.length → Recu C p → ∃ p', p' < C.length ∧ Recu C p' ∧ OkR C p' p ∧ ∀ q, OkR C p' q → p' ≤ q := by
        intro n
        induction n with
        | zero => intro p hp hpn hr; exact ⟨p, hpn, hr, .inl rfl, fun q _ => by omega⟩
        | succ n ih =>
          intro p hp hpn hr
          by_cases hm : ∀ q, OkR C p q → p ≤ q
          · exact ⟨p, hpn, hr, .inl rfl, hm⟩
          · obtain ⟨q, hq⟩ := Classical.not_forall.mp hm
            obtain ⟨aq, hq⟩ := Classical.not_imp.mp hq
            have back := hr q aq
            obtain ⟨p', h1, h2, h3, h4⟩ := ih q (by omega) (okR_lt hw hpn aq) fun z hz => okR_trans (hr z (okR_trans aq hz)) aq
            exact ⟨p', h1, h2, okR_trans h3 back, h4⟩
      obtain ⟨p', h1, h2, h3, h4⟩ := least p p (Nat.le_refl _) hp hr
      obtain ⟨L, hL, hm⟩ := hdone p' h1 h1 h2 h4
      exact ⟨L, hL, hm p h3⟩
end
end OC
namespace OC
open PySem PySem.Spec PyProof.Rows L2
section
variable {P : Program} {w : World} {K : PySem.W.Frag} {mg : Str → Option Value} {base : Heap} {k : Nat}
/-- a dict of numbers by places -/
def KnR (K : PySem.W.Frag) (kn : Nat → Option Int) (kvs : List (Key × V)) (I : Hp) : Prop :=
  ∀ p : Nat, (kn p = none → valV kvs (Sum.inl (p : Int)) = none) ∧ ∀ z, kn p = some z → ∃ x, valV kvs (Sum.inl (p : Int)) = some x ∧ (rQ K).rel z x I
theorem KnR.up {kn : Nat → Option Int} {kvs : List (Key × V)} {I I' : Hp} (h : KnR K kn kvs I) (e : Same I I') : KnR K kn kvs I' := fun p => ⟨(h p).1, fun z hz => let ⟨x, h1, h2⟩ := (h p).2 z hz; ⟨x, h1, (rQ K).up h2 e⟩⟩
theorem KnR.is {kn : Nat → Option Int} {kvs : List (Key × V)} {I : Hp} (h : KnR K kn kvs I) (p : Nat) : (valV kvs (Sum.inl (p : Int))).isSome = (kn p).isSome := by
  cases e : kn p with
  | none => rw [(h p).1 e]; rfl
  | some z =>
    obtain ⟨x, h1, _⟩ := (h p).2 z e
    rw [h1]
    rfl
theorem dget {H : Hp} {d : Addr} {kvs : List (Key × V)} {p : Nat} (h : H d = some (.dK kvs)) : DGet H d (vN p) (valV kvs (Sum.inl (p : Int))) := .inl ⟨kvs, Sum.inl (p : Int), .inl h, rfl, rfl⟩
def spMeans (K : PySem.W.Frag) : Sp := fun vs H Q _ => ∃ I C kn Vf, ∃ rho : Nat → Nat, ∃ d kvs x y, Same I H ∧ vs = [x, .ref d, y] ∧ (rG K).rel C x I ∧ I d = some (.dK kvs) ∧ KnR K kn kvs I ∧ (rQ K).rel 0 y I ∧ Chain C ∧
  (∀ p z, kn p = some z → z = Vf p) ∧ (∀ p, p < C.length → kn p = none → Vf p = Vf (fOf C p) ∧ (kn (fOf C p) = none → rho (fOf C p) < rho p)) ∧ ∀ v I' H', Gr I H I' H' → (rQs K).rel ((List.range C.length).map Vf) v I' → Q v H'
def iMeans (K : PySem.W.Frag) (H : Hp) (m : Nat) (T : Nat → Eqn) (x d y : V) (pu p0 : Addr) (i : Nat) (σ : L2.St) (I1 H1 : Hp) : Prop :=
  ∃ (z3 z6 z7 z8 z9 : Option V) (ys : List V), σ = [some x, some d, some y, z3, some (.ref pu), some (.ref p0), z6, z7, z8, z9, none, none] ∧ Mu H I1 H1 p0 (.lst ys) ∧ Paired (fun e x => (rQs K).rel e x I1) ((rowsT m T).take i) ys
def jMeans (K : PySem.W.Frag) (H : Hp) (x d y p : V) (pu p0 pr : Addr) (r0 r1 : List Int) (ys : List V) (i : Nat) (σ : L2.St) (I1 H1 : Hp) : Prop :=
  ∃ (z7 z8 z9 : Option V) (ws : List V), σ = [some x, some d, some y, some p, some (.ref pu), some (.ref p0), some (.ref pr), z7, z8, z9, none, none] ∧ Mu H I1 H1 p0 (.lst ys) ∧ Mu H I1 H1 pr (.lst ws) ∧ Paired (fun e x => (rQ K).rel e x I1) (if i = 0 then r0 else r1) ws
abbrev s_means : Stmt := topS 22
theorem sc_means : FnScope ["chain", "known", "gain", "place", "unknown", "rows", "row", "chance", "target", "at", "solution", "other"] ["chain", "known", "gain"] (defScope s_means) := ⟨rfl, rfl, rfl, by decide +kernel, rfl, by decide +kernel, by decide +kernel⟩
theorem c_means (D : Dn K mg "means" s_means ["chain", "known", "gain"]) (m_range : mg "range" = none) (m_len : mg "len" = none) (k0 : Cst K mg "NOUGHT" 0) (k1 : Cst K mg "ONE_numbers" 1)
    (c_plus : Cal P w K mg base "plus" k (sp2Q K (fun _ _ => True) fun a b => a + b)) (c_minus : Cal P w K mg base "minus" k (sp2Q K (fun _ _ => True) fun a b => a - b)) (c_times : Cal P w K mg base "times" k (sp2Q K (fun a _ => Sh a) fun a b => a * b))
    (c_only_solution : Cal P w K mg base "only_solution" k (spSolution K)) : Cal P w K mg base "means" (k + 1) (spMeans K) := by
  obtain ⟨a0, m_NOUGHT, nought⟩ := k0
  obtain ⟨a1, m_ONE_numbers, one⟩ := k1
  refine D.ok sc_means (fun vs H Q E h => ?_) (fun f cdv A' outer s0 H vs Q E hr h => ?_)
  · obtain ⟨I, C, kn, Vf, rho, d, kvs, x, y, _, rfl, _⟩ := h
    rfl
  · obtain ⟨I, C, kn, Vf, rho, d, kvs, x, gy, hs, rfl, ⟨a, xs, rfl, h1, h2⟩, hd, hkn, hy0, hC, hk, hu', q⟩ := h
    have hu := hu_of hr
    refine ⟨_, (pss_cons (ps_set (i := 4) sc_means.nd rfl (Or.inr rfl) (pe_lc (own := [("place", 3)]) (g := gName 3) rfl sc_means.nd (pi_range1 (by rfl) m_range (pa_cons (pe_callB call_len_seq (by rfl) m_len PySem.boot_len (pa_cons (pv 0) pa_nil)) pa_nil)) (blkOk_by (own := [("place", 3)]) (N := ["chain", "known", "gain", "place", "unknown", "rows", "row", "chance", "target", "at", "solution", "other"]) (sc := defScope s_means) (by decide +kernel)) (fun _ _ _ _ _ => (pg_name (i := 3) sc_means.nd rfl (Or.inl rfl))) (fun _ _ _ _ _ => pts_one (pt_cmp (pc_dnotin hu (pv 3) (pv 1)) rfl)) (fun _ _ _ _ _ => (pv 3))))
      (pss_cons (ps_set (i := 5) sc_means.nd rfl (Or.inl rfl) (pe_lst pa_nil))
      (pss_cons (ps_for PassesOwn.never rfl (pi_list (pv 4)) (pg_name (i := 3) sc_means.nd rfl (Or.inr rfl))
      (pss_cons (ps_set (i := 6) sc_means.nd rfl (Or.inl rfl) (pe_op op_cat (pe_lc (own := [("other", 11)]) (g := gName 11) rfl sc_means.nd (pi_list (pv 4)) (blkOk_by (own := [("other", 11)]) (N := ["chain", "known", "gain", "place", "unknown", "rows", "row", "chance", "target", "at", "solution", "other"]) (sc := defScope s_means) (by decide +kernel)) (fun _ _ _ _ _ => (pg_name (i := 11) sc_means.nd rfl (Or.inl rfl))) (fun _ _ _ _ _ => pts_nil) (fun _ _ _ _ _ => (pe_ifExp (pt_cmpR op_eq (pv 11) (pv 3) (nomark _)) (pe_gr (by rfl) m_ONE_numbers) (pe_gr (by rfl) m_NOUGHT)))) (pe_lst (pa_cons (pv 2) pa_nil))))
      (pss_cons (ps_for PassesOwn.never rfl (pi_list (pe_ix (ix_tupK K) (pe_ix (ix_N K) (pv 0) (pv 3) (fun _ _ => rfl)) pe_int (fun _ _ => rfl))) (pg_tup rfl (pgs_cons (pg_name (i := 7) sc_means.nd rfl (Or.inl rfl)) (pgs_cons (pg_name (i := 8) sc_means.nd rfl (Or.inl rfl)) pgs_nil)))
      (pss_one (ps_if (pt_cmp (pc_din hu (pv 8) (pv 1)) rfl)
      (pss_one (ps_asg (pe_c c_plus hr (by rfl) (pa_cons (pe_ix (ix_last K) (pv 6) (pe_un un_neg pe_int) (fun _ _ => rfl)) (pa_cons (pe_c c_times hr (by rfl) (pa_cons (pv 7) (pa_cons (pe_dget hu (pv 1) (pv 8) (fun _ _ => rfl)) pa_nil))) pa_nil))) (pg_sub (pv 6) (pe_un un_neg pe_int) set_last))) (pss_cons (ps_set (i := 9) sc_means.nd rfl (Or.inl rfl) (pe_bm PySem.F.plainAttrs_list PySem.F.slot_list_index PySem.F.type_list_index (mt_indexN K) (pv 4) (pa_cons (pv 8) pa_nil)))
      (pss_one (ps_asg (pe_c c_minus hr (by rfl) (pa_cons (pe_ix (ix_N K) (pv 6) (pv 9) (fun _ _ => rfl)) (pa_cons (pv 7) pa_nil))) (pg_sub (pv 6) (pv 9) set_N)))))))
      (pss_one (ps_expr (pe_bm PySem.F.plainAttrs_list PySem.F.slot_list_append PySem.F.type_list_append mt_append (pv 5) (pa_cons (pv 6) pa_nil)))))))
      (pss_cons (ps_set (i := 10) sc_means.nd rfl (Or.inr rfl) (pe_c c_only_solution hr (by rfl) (pa_cons (pv 5) pa_nil)))
      (pss_one (ps_ret (pe_lc (own := [("place", 3)]) (g := gName 3) rfl sc_means.nd (pi_range1 (by rfl) m_range (pa_cons (pe_callB call_len_seq (by rfl) m_len PySem.boot_len (pa_cons (pv 0) pa_nil)) pa_nil)) (blkOk_by (own := [("place", 3)]) (N := ["chain", "known", "gain", "place", "unknown", "rows", "row", "chance", "target", "at", "solution", "other"]) (sc := defScope s_means) (by decide +kernel)) (fun _ _ _ _ _ => (pg_name (i := 3) sc_means.nd rfl (Or.inl rfl))) (fun _ _ _ _ _ => pts_nil) (fun _ _ _ _ _ => (pe_ifExp (pt_cmp (pc_din hu (pv 3) (pv 1)) rfl) (pe_dget hu (pv 1) (pv 3) (fun _ _ => rfl)) (pe_ix (ix_N K) (pv 10) (pe_bmK K PySem.F.plainAttrs_list PySem.F.slot_list_index PySem.F.type_list_index (mt_indexN K) (pv 4) (pa_cons (pv 3) pa_nil)) (fun _ _ => rfl))))))))))), ?_⟩
    have xlen : xs.length = C.length := paired_len h2
    have clen := hC.wf.len
    -- unknown
    refine ⟨_, rfl, a, xs, rfl, .inl (sqH (hs _ _ h1)), _, rfl, by omega, by omega, lc_flat (v := vN) (f := fun p => (kn p).isNone) (m := fun q => q) (src_rng (n := xs.length)) hs (by rw [List.length_range]; omega) (fun e x I1 H1 he re g1 Qg kk => ?_) (fun pu I1 H1 g1 mu => ?_)⟩
    · have re : x = vN e := re
      subst re
      refine kk _ rfl (fun Q2 q2 => ?_) (fun I2 H2 g2 _ Q2 q2 => ⟨_, rfl, q2 _ I2 H2 (Gr.refl g2.s) rfl⟩)
      refine ⟨_, rfl, _, rfl, d, _, rfl, dget (g1.s _ _ (g1.i _ _ hd)), _, rfl, ?_⟩
      rw [hkn.is, Option.not_isSome]
      exact q2 I1 H1 (Gr.refl g1.s)
    rw [map_same, xlen] at mu
    have mu : Mu H I1 H1 pu (.lst ((uList C.length kn).map vN)) := mu
    generalize hU : uList C.length kn = U at mu
    have gs := g1.stop mu
    have ulen : U.length ≤ 24 := by have := uList_len (n := C.length) (kn := kn); rw [hU] at this; omega
    have und : U.Nodup := by rw [← hU]; exact uList_nodup
    have umem : ∀ p, p ∈ U ↔ p < C.length ∧ kn p = none := fun p => by rw [← hU]; exact mem_uList
    have gok := gok_U (n := C.length) (kn := kn) (f := fOf C) (Vf := Vf) (rho := rho) (fun p hp => hC.lt hp) hk hu'
    rw [hU] at gok
    generalize hT : eqnU U kn (fOf C) = T at gok
    refine ⟨Nat.zero_le _, fun p0 np0 => ?_⟩
    have g2 := gs.trans (Gr.mut (o := .lst []) gs.s np0)
    have m0 := Mu.new (o := .lst []) gs np0
    refine ⟨_, rfl, pu, rfl, ⟨_, sqH (g2.s _ _ upd_same)⟩, for_src (iMeans K H U.length T (.ref a) (.ref d) gy pu p0) (src_listF (I := upd I1 pu (.lst (U.map vN))) upd_same) g2 ⟨none, none, none, none, none, [], rfl, m0, .nil⟩ ?_ ?_⟩
    · rintro i p xv σ1 I3 H3 I4 H4 he g3 e3 ⟨z3, z6, z7, z8, z9, ys, rfl, mf, prr⟩ g4 re
      have re : xv = vN p := re
      subst re
      have mf := mf.up g4
      have gg := g3.trans g4
      have prr := paired_up prr g4.i
      have hiU : i < U.length := (List.getElem?_eq_some_iff.mp he).1
      obtain ⟨hp, hpn⟩ := (umem p).mp (List.mem_of_getElem? he)
      have hpu4 : I4 pu = some (.lst (U.map vN)) := g4.i _ _ (e3 _ _ upd_same)
      -- row = [..] + [gain]
      refine ⟨_, rfl, pu, rfl, ⟨_, sqH (gg.s _ _ hpu4)⟩, lc_src (r' := rQ K) (f := fun _ => true) (m := fun o => if o = p then (1 : Int) else 0) (src_listF (I := I4) hpu4) gg.s (by omega) (fun o x I5 H5 ho ro g5 Qg kk => ?_) (fun D5 I5 H5 ws g5 mu5 pr5 => ?_)⟩
      · have ro : x = vN o := ro
        subst ro
        refine kk _ rfl (evYes g5.s) (fun I6 H6 g6 _ Q2 q2 => ?_)
        refine ⟨_, rfl, _, rfl, rfl, _, rfl, ?_⟩
        by_cases c : o = p
        · have : decide (vN o = vN p) = true := decide_eq_true (by rw [c])
          rw [this]
          refine iteT (q2 _ I6 H6 (Gr.refl g6.s) ?_)
          rw [if_pos c]
          exact ⟨a1, rfl, one _⟩
        · have : decide (vN o = vN p) = false := decide_eq_false fun z => c (vN_inj z)
          rw [this]
          refine iteF (q2 _ I6 H6 (Gr.refl g6.s) ?_)
          rw [if_neg c]
          exact ⟨a0, rfl, nought _⟩
      rw [filter_yes] at pr5
      have wlen : ws.length = U.length := by rw [paired_len pr5, List.length_map]
      refine ⟨_, rfl, by show 1 ≤ sizeLine; decide, fun D6 nD6 => ?_⟩
      have g6 := Gr.mut (o := .lst [gy]) g5.s nD6
      have mu6 := mu5.up g6
      refine ⟨D5, D6, ws, [gy], rfl, rfl, mu6.h, upd_same, line_le (by show ws.length + 1 ≤ 100000; omega), fun pr npr => ?_⟩
      have g56 := g5.trans g6
      have g57 := g56.trans (Gr.mut (o := .lst (ws ++ [gy])) g56.s npr)
      have gg7 := gg.trans g57
      have mrow : Mu H I5 (upd (upd H5 D6 (.lst [gy])) pr (.lst (ws ++ [gy]))) pr (.lst (ws ++ [gy])) := Mu.new (o := .lst (ws ++ [gy])) (gg.trans g56) npr
      have mf7 := mf.up g57
      have nrow : p0 ≠ pr := (mf.up g56).ne npr
      have prow : Paired (fun e x => (rQ K).rel e x I5) (row0 U.length i) (ws ++ [gy]) := by
        rw [← row0_U und he]
        exact paired_snoc pr5 ((rQ K).up hy0 (gg.trans g5).i)
      -- the branches
      obtain ⟨pl, hpl⟩ := pl_at hp
      obtain ⟨py, hpy, ⟨b, c, rfl, ht, hb⟩⟩ := paired_get h2 hpl
      have hkd : pl.kd = .draw := by have := hC.draw p hp; rw [kd_at hpl] at this; exact this
      have hts : pl.ts = [fOf C p] := by have := hC.ts hp; rw [ts_at hpl] at this; exact this
      rw [hkd, hts] at hb
      obtain ⟨bl, bxs, rfl, hbl, hbp⟩ := hb
      have i7 : Same I I5 := gg7.i
      refine ⟨_, rfl, _, rfl, a, xs, p, _, rfl, rfl, sqH (gg7.s _ _ (i7 _ _ h1)), hpy, b, _, 2, _, rfl, rfl, rdT ht (fun z o h => gg7.s _ _ (i7 _ _ h)), rfl, bl, rfl, ⟨_, sqH (gg7.s _ _ (i7 _ _ hbl))⟩, for_src (jMeans K H (.ref a) (.ref d) gy (vN p) pu p0 pr (row0 U.length i) (rowT U.length (T i) i) ys) (src_list (I := I5) (i7 _ _ hbl) (paired_up hbp i7)) gg7 ⟨_, _, _, ws ++ [gy], rfl, mf7, mrow, prow⟩ ?_ ?_⟩
      · rintro j t xv2 σ2 I8 H8 I9 H9 hj g8 e8 ⟨y7, y8, y9, ws', rfl, mf8, mr8, pw8⟩ g9 rt
        have ej : j = 0 := by have := (List.getElem?_eq_some_iff.mp hj).1; simp at this; omega
        subst ej
        have et : t = fOf C p := by simpa using hj.symm
        subst et
        have mf9 := mf8.up g9
        have mr9 := mr8.up g9
        have pw9 : Paired (fun e x => (rQ K).rel e x I9) (row0 U.length i) ws' := paired_up pw8 g9.i
        have gg9 := g8.trans g9
        have i9 : Same I I9 := gg9.i
        obtain ⟨ba, bx, rfl, hbt, hb1⟩ := rt
        have hd9 : H9 d = some (.dK kvs) := gg9.s _ _ (i9 _ _ hd)
        refine ⟨ba, _, rfl, rdT hbt gg9.s, rfl, _, _, rfl, _, _, rfl, rfl, ?_⟩
        refine ⟨_, rfl, _, rfl, d, _, rfl, dget hd9, _, rfl, ?_⟩
        rw [hkn.is]
        have fin : ∀ I10 H10 ws2, Same I9 I10 → Gr I H I10 H10 → Mu H I10 H10 p0 (.lst ys) → Mu H I10 H10 pr (.lst ws2) → Paired (fun e x => (rQ K).rel e x I10) (rowT U.length (T i) i) ws2 → ∀ z9, Nx I H I5 (jMeans K H (.ref a) (.ref d) gy (vN p) pu p0 pr (row0 U.length i) (rowT U.length (T i) i) ys (0 + 1)) [some (.ref a), some (.ref d), some gy, some (vN p), some (.ref pu), some (.ref p0), some (.ref pr), some bx, some (vN (fOf C p)), z9, none, none] H10 := fun I10 H10 ws2 s10 g10 m1 m2 hp2 z9 =>
          ⟨I10, g10, (e8.trans g9.i).trans s10, _, _, z9, ws2, rfl, m1, m2, hp2⟩
        cases ek : kn (fOf C p) with
        | some z =>
          obtain ⟨kx, hkx, rkx⟩ := (hkn (fOf C p)).2 z ek
          have hg : DGet H9 d (vN (fOf C p)) (some kx) := by rw [← hkx]; exact dget hd9
          have hrow : row0 U.length i = (List.range U.length).map (fun k => if k = i then (1 : Int) else 0) ++ [0] := rfl
          rw [hrow] at pw9
          obtain ⟨us, u, eu, ru⟩ := paired_last pw9
          subst eu
          refine iteT ⟨_, rfl, 1, rfl, pr, us, u, rfl, rfl, sqH mr9.h, _, rfl, _, rfl, _, rfl, d, kx, rfl, hg, I9, 1, z, _, _, gg9.s, rfl, hb1, (rQ K).up rkx i9, ⟨by decide, by decide⟩, fun v10 I10 H10 g10 rv10 => ⟨I10, 0, 1 * z, _, _, g10.s, rfl, (rQ K).up ru g10.i, rv10, trivial, fun v11 I11 H11 g11 rv11 => ?_⟩⟩
          have gA := g10.trans g11
          have mf11 := mf9.up gA
          have mr11 := mr9.up gA
          refine ⟨_, rfl, 1, rfl, pr, us, u, rfl, rfl, mr11.h, ?_⟩
          refine fin I11 _ (us ++ [v11]) gA.i ((gg9.trans gA).put mr11) (mf11.other nrow) mr11.set ?_ _
          have eT : T i = .inr z := by rw [← hT]; unfold eqnU; rw [he]; show (match kn (fOf C p) with | some z => _ | none => _) = _; rw [ek]
          rw [eT, ← row0_inr]
          have pus : Paired (fun e x => (rQ K).rel e x I11) ((List.range U.length).map (fun k => if k = i then (1 : Int) else 0)) us := by
            have hl := paired_len pw9
            have := paired_up pw9 gA.i
            exact paired_init this
          have e0 : (0 : Int) + 1 * z = z := by omega
          have rv11 : (rQ K).rel (0 + 1 * z) v11 I11 := rv11
          rw [e0] at rv11
          exact paired_snoc pus rv11
        | none =>
          have ht : fOf C p ∈ U := (umem _).mpr ⟨hC.lt hp, ek⟩
          obtain ⟨hj1, hj2⟩ := idxOf_get ht
          generalize hjx : U.idxOf (fOf C p) = jx at hj1 hj2
          have hjU : jx < U.length := (List.getElem?_eq_some_iff.mp hj1).1
          have eT : T i = .inl jx := by rw [← hT]; unfold eqnU; rw [he]; show (match kn (fOf C p) with | some z => _ | none => _) = _; rw [ek]; show Sum.inl (U.idxOf (fOf C p)) = _; rw [hjx]
          have nji : jx ≠ i := fun z => by
            have := gok.l i hiU jx eT
            rw [z] at this
            omega
          obtain ⟨u, hu9, ru⟩ := paired_get pw9 (row0_get hjU nji)
          have hpu9 : H9 pu = some (.lst (U.map vN)) := gg9.s _ _ ((e8.trans g9.i) _ _ (g57.i _ _ hpu4))
          refine iteF ⟨_, rfl, .inl ⟨rfl, _, sqH hpu9⟩, _, rfl, pu, U, jx, _, rfl, rfl, sqH hpu9, hj1, hj2, ?_⟩
          refine ⟨_, rfl, _, rfl, pr, ws', jx, u, rfl, rfl, sqH mr9.h, hu9, _, rfl, I9, 0, 1, _, _, gg9.s, rfl, ru, hb1, trivial, fun v11 I11 H11 g11 rv11 => ?_⟩
          have mf11 := mf9.up g11
          have mr11 := mr9.up g11
          have wl : jx < ws'.length := (List.getElem?_eq_some_iff.mp hu9).1
          refine ⟨_, rfl, _, rfl, pr, ws', jx, rfl, rfl, mr11.h, wl, ?_⟩
          refine fin I11 _ (ws'.set jx v11) g11.i ((gg9.trans g11).put mr11) (mf11.other nrow) mr11.set ?_ _
          rw [eT, ← row0_inl hjU nji]
          exact paired_set (paired_up pw9 g11.i) rv11
      · rintro σ2 I8 H8 g8 e8 ⟨y7, y8, y9, ws', rfl, mf8, mr8, pw8⟩
        have pw8 : Paired (fun e x => (rQ K).rel e x I8) (rowT U.length (T i) i) ws' := pw8
        have ylen : ys.length = i := by
          rw [paired_len prr, List.length_take, rowsT_len]
          omega
        refine ⟨_, rfl, .inl ⟨rfl, _, sqH mf8.h⟩, _, rfl, p0, _, _, rfl, rfl, mf8.h, line_lt (by omega), ?_⟩
        have gz := g8.stop mr8
        have mz : Mu H (upd I8 pr (.lst ws')) H8 p0 (.lst ys) := ⟨mf8.b, by rw [upd_ne nrow]; exact mf8.i, mf8.h⟩
        refine ⟨_, gz.put mz, (e3.trans (g4.i.trans g57.i)).trans (e8.trans (Same.new mr8.i)), _, _, _, _, _, _, rfl, mz.set, ?_⟩
        have e9 : (rowsT U.length T).take (i + 1) = (rowsT U.length T).take i ++ [rowT U.length (T i) i] := by rw [List.take_add_one, rowsT_get hiU]; rfl
        rw [e9]
        refine paired_snoc (paired_up prr ((g57.i.trans e8).trans (Same.new mr8.i))) ⟨pr, ws', rfl, upd_same, paired_up pw8 (Same.new mr8.i)⟩
    · rintro σ1 I3 H3 g3 e3 ⟨z3, z6, z7, z8, z9, ys, rfl, mf, prr⟩
      have tk : (rowsT U.length T).take U.length = rowsT U.length T := List.take_of_length_le (by rw [rowsT_len]; exact Nat.le_refl _)
      rw [tk] at prr
      have gs3 := g3.stop mf
      refine ⟨_, rfl, _, U.length, _, _, T, _, gs3.s, rfl, ⟨p0, ys, rfl, upd_same, paired_up prr (Same.new mf.i)⟩, ulen, gok, fun v4 I4 H4 g4 rv4 => ?_⟩
      have gg4 := gs3.trans g4
      have i4 : Same I I4 := gg4.i
      obtain ⟨sl, sxs, rfl, hsl, hsp⟩ := rv4
      have hpu4 : I4 pu = some (.lst (U.map vN)) := g4.i _ _ ((Same.new mf.i) _ _ (e3 _ _ upd_same))
      refine ⟨_, rfl, a, xs, rfl, .inl (sqH (gg4.s _ _ (i4 _ _ h1))), _, rfl, by omega, by omega, lc_src (r' := rQ K) (f := fun _ => true) (m := Vf) (src_rng (n := xs.length)) gg4.s (by rw [List.length_range]; omega) (fun e x I5 H5 he re g5 Qg kk => ?_) (fun D6 I6 H6 ws g6 mu6 pr6 => ?_)⟩
      · have re : x = vN e := re
        subst re
        have he : e < C.length := by have := List.mem_range.mp he; omega
        refine kk _ rfl (evYes g5.s) (fun I6 H6 g6 _ Q2 q2 => ?_)
        have gi := g5.trans g6
        have hd6 : H6 d = some (.dK kvs) := gi.s _ _ (gi.i _ _ (i4 _ _ hd))
        refine ⟨_, rfl, _, rfl, d, _, rfl, dget hd6, _, rfl, ?_⟩
        rw [hkn.is]
        cases ek : kn e with
        | some z =>
          obtain ⟨kx, hkx, rkx⟩ := (hkn e).2 z ek
          have hg : DGet H6 d (vN e) (some kx) := by rw [← hkx]; exact dget hd6
          refine iteT ⟨_, rfl, _, rfl, d, kx, rfl, hg, q2 kx I6 H6 (Gr.refl g6.s) ?_⟩
          rw [← hk e z ek]
          exact (rQ K).up rkx (i4.trans gi.i)
        | none =>
          have ht : e ∈ U := (umem _).mpr ⟨he, ek⟩
          obtain ⟨hj1, hj2⟩ := idxOf_get ht
          have hjU : U.idxOf e < U.length := (List.getElem?_eq_some_iff.mp hj1).1
          have hpu6 : H6 pu = some (.lst (U.map vN)) := gi.s _ _ (gi.i _ _ hpu4)
          have hz : ((List.range U.length).map fun i => Vf (U[i]?.getD 0))[U.idxOf e]? = some (Vf e) := by
            rw [List.getElem?_map, List.getElem?_range hjU]
            show some (Vf (U[U.idxOf e]?.getD 0)) = _
            rw [hj1]
            rfl
          obtain ⟨u, hu6, ru⟩ := paired_get hsp hz
          exact iteF ⟨_, rfl, _, rfl, .inl ⟨rfl, _, sqH hpu6⟩, _, rfl, pu, U, _, _, rfl, rfl, sqH hpu6, hj1, hj2, sl, sxs, _, u, rfl, rfl, sqH (gi.s _ _ (gi.i _ _ hsl)), hu6, q2 u I6 H6 (Gr.refl g6.s) ((rQ K).up ru gi.i)⟩
      · rw [filter_yes, xlen] at pr6
        exact q _ _ H6 (gg4.trans (g6.stop mu6)) ⟨D6, ws, rfl, upd_same, paired_up pr6 (Same.new mu6.i)⟩
end
end OC
namespace OC
open PySem PySem.Spec PyProof.Rows L2
section
variable {P : Program} {w : World} {K : PySem.W.Frag} {mg : Str → Option Value} {base : Heap} {k : Nat}
def evens : List Nat := [0, 2, 4, 6, 8]
theorem evens_dec {m : Nat} (h : m ≤ 9) : decide (m ∈ evens) = decide (m % 2 = 0) := by
  have : ∀ m : Fin 10, decide (m.val ∈ evens) = decide (m.val % 2 = 0) := by decide
  exact this ⟨m, by omega⟩
theorem KnR.put {kn : Nat → Option Int} {kvs : List (Key × V)} {I : Hp} {p : Nat} {z : Int} {x : V} (h : KnR K kn kvs I) (hx : (rQ K).rel z x I) : KnR K (fun q => if q = p then some z else kn q) (putK kvs (Sum.inl (p : Int)) x) I := fun q => by
  have e : valV (putK kvs (Sum.inl (p : Int)) x) (Sum.inl (q : Int)) = if q = p then some x else valV kvs (Sum.inl (q : Int)) := by
    rw [valV_put]
    by_cases c : q = p
    · subst c; rw [if_pos rfl, if_pos rfl]
    · rw [if_neg c, if_neg (fun z : (Sum.inl (q : Int) : Key) = Sum.inl (p : Int) => c (Int.ofNat.inj (Sum.inl.inj z)))]
  by_cases c : q = p
  · simp only [if_pos c] at e ⊢
    exact ⟨fun z => (by cases z), fun y hy => ⟨x, e, by rw [← Option.some.inj hy]; exact hx⟩⟩
  · simp only [if_neg c] at e ⊢
    rw [e]
    exact h q
/-- what is known behind some of the lists -/
structure KnI (C : Gm) (Ls done : List (List Nat)) (cur : List Nat) (kn : Nat → Option Int) : Prop where
  val : ∀ p z, kn p = some z → z = oddV C p
  all : ∀ L ∈ done, ∀ p ∈ L, kn p ≠ none
  now : ∀ p ∈ cur, kn p ≠ none
  only : ∀ p, kn p ≠ none → ∃ L ∈ Ls, p ∈ L
def spChances (K : PySem.W.Frag) : Sp := fun vs H Q _ => ∃ I C x y, Same I H ∧ vs = [x, y] ∧ (rG K).rel C x I ∧ rNs.rel evens y I ∧ Chain C ∧ ∀ v I' H', Gr I H I' H' → (rQs K).rel ((List.range C.length).map (oddV C)) v I' → Q v H'
def iCh (K : PySem.W.Frag) (H : Hp) (C : Gm) (Ls : List (List Nat)) (x y : V) (d : Addr) (i : Nat) (σ : L2.St) (I1 H1 : Hp) : Prop :=
  ∃ (z3 z4 : Option V) (kvs : List (Key × V)) (kn : Nat → Option Int), σ = [some x, some y, some (.ref d), z3, z4] ∧ Mu H I1 H1 d (.dK kvs) ∧ KnR K kn kvs I1 ∧ KnI C Ls (Ls.take i) [] kn ∧ kvs.length ≤ 25 * i
def jCh (K : PySem.W.Frag) (H : Hp) (C : Gm) (Ls : List (List Nat)) (L : List Nat) (x y b : V) (d : Addr) (i j : Nat) (σ : L2.St) (I1 H1 : Hp) : Prop :=
  ∃ (z4 : Option V) (kvs : List (Key × V)) (kn : Nat → Option Int), σ = [some x, some y, some (.ref d), some b, z4] ∧ Mu H I1 H1 d (.dK kvs) ∧ KnR K kn kvs I1 ∧ KnI C Ls (Ls.take i) (L.take j) kn ∧ kvs.length ≤ 25 * i + j
abbrev s_chances_into : Stmt := topS 24
theorem sc_chances_into : FnScope ["chain", "marks", "known", "closed", "place"] ["chain", "marks"] (defScope s_chances_into) := ⟨rfl, rfl, rfl, by decide +kernel, rfl, by decide +kernel, by decide +kernel⟩
theorem c_chances_into (D : Dn K mg "chances_into" s_chances_into ["chain", "marks"]) (k0 : Cst K mg "NOUGHT" 0) (k1 : Cst K mg "ONE_numbers" 1) (c_closed_classes : Cal P w K mg base "closed_classes" k (spClosed K))
    (c_greatest_mark : Cal P w K mg base "greatest_mark" k (spGreatest K)) (c_means : Cal P w K mg base "means" k (spMeans K)) : Cal P w K mg base "chances_into" (k + 1) (spChances K) := by
  obtain ⟨a0, m_NOUGHT, nought⟩ := k0
  obtain ⟨a1, m_ONE_numbers, one⟩ := k1
  refine D.ok sc_chances_into (fun vs H Q E h => ?_) (fun f cdv A' outer s0 H vs Q E hr h => ?_)
  · obtain ⟨I, C, x, y, _, rfl, _⟩ := h
    rfl
  · obtain ⟨I, C, x, y, hs, rfl, hG, ⟨b, rfl, hb⟩, hC, q⟩ := h
    have hu := hu_of hr
    refine ⟨_, (pss_cons (ps_set (i := 2) sc_chances_into.nd rfl (Or.inl rfl) pe_dnewK)
      (pss_cons (ps_for PassesOwn.never rfl (pi_list (pe_c c_closed_classes hr (by rfl) (pa_cons (pv 0) pa_nil))) (pg_name (i := 3) sc_chances_into.nd rfl (Or.inl rfl))
      (pss_one (ps_for PassesOwn.never rfl (pi_list (pv 3)) (pg_name (i := 4) sc_chances_into.nd rfl (Or.inl rfl))
      (pss_one (ps_dput hu (pv 2) (pv 4) (pe_ifExp (pt_cmpR (op_inN K) (pe_c c_greatest_mark hr (by rfl) (pa_cons (pv 0) (pa_cons (pv 3) pa_nil))) (pv 1) (by rfl)) (pe_gr (by rfl) m_ONE_numbers) (pe_gr (by rfl) m_NOUGHT)) rfl)))))
      (pss_one (ps_ret (pe_c c_means hr (by rfl) (pa_cons (pv 0) (pa_cons (pv 2) (pa_cons (pe_gr (by rfl) m_NOUGHT) pa_nil)))))))), ?_⟩
    intro d nd
    have g0 := Gr.mut (o := .dK []) hs nd
    have m0 : Mu H I (upd H d (.dK [])) d (.dK []) := ⟨nd, hs.free nd, upd_same⟩
    refine ⟨_, rfl, I, C, x, g0.s, rfl, hG, hC.wf, fun v1 I1 H1 Ls g1 rv1 hcl => ?_⟩
    obtain ⟨pl, pls, rfl, hpl, hpp⟩ := rv1
    have m1 := m0.up g1
    have gg := g0.trans g1
    refine ⟨pl, rfl, ⟨_, sqH (gg.s _ _ hpl)⟩, for_src (iCh K H C Ls x (.ref b) d) (src_list (I := I1) hpl hpp) gg ⟨none, none, [], fun _ => none, rfl, m1, fun p => ⟨fun _ => rfl, fun z hz => (by cases hz)⟩, ⟨fun p z hz => (by cases hz), fun L hL => absurd hL (by simp), fun p hp => absurd hp (by simp), fun p hp => absurd rfl hp⟩, Nat.le_refl _⟩ ?_ ?_⟩
    · rintro i L xv σ1 I2 H2 I3 H3 hL g2 e2 ⟨z3, z4, kvs, kn, rfl, mu, kr, ki, hl⟩ g3 ⟨bl, rfl, hbl⟩
      have mu := mu.up g3
      have g23 := g2.trans g3
      have hLm : L ∈ Ls := List.mem_of_getElem? hL
      obtain ⟨p', hp', way, back⟩ := hcl.cls L hLm
      have hi24 : i < 24 := by have := (List.getElem?_eq_some_iff.mp hL).1; have := hcl.len; omega
      refine ⟨_, rfl, bl, rfl, ⟨_, sqH (g23.s _ _ hbl)⟩, for_src (jCh K H C Ls L x (.ref b) (.ref bl) d i) (src_listF (I := I3) hbl) g23 ⟨_, kvs, kn, rfl, mu, kr.up g3.i, ki, hl⟩ ?_ ?_⟩
      · rintro j p xv2 σ2 I4 H4 I5 H5 hp g4 e4 ⟨z4', kvs', kn', rfl, mu', kr', ki', hl'⟩ g5 rp
        have rp : xv2 = vN p := rp
        subst rp
        have mu' := mu'.up g5
        have g45 := g4.trans g5
        have hpL : p ∈ L := List.mem_of_getElem? hp
        have hj : j < 25 := by have := (List.getElem?_eq_some_iff.mp hp).1; have := way.len; omega
        refine ⟨_, rfl, _, rfl, I5, C, L, x, _, g45.s, rfl, (rG K).up hG g45.i, ⟨bl, rfl, (e4.trans g5.i) _ _ hbl⟩, fun z => (by rw [z] at hpL; cases hpL), by have := way.len; omega, way.lt, fun m I6 H6 g6 hex hall => ?_⟩
        have g46 := g45.trans g6
        have mu6 := mu'.up g6
        have hm9 : m ≤ 9 := by
          obtain ⟨t, ht, e⟩ := hex
          rw [← e]
          exact hC.wf.mark t (way.lt t ht)
        have eqv : ∀ q, OkR C p q → q ∈ L := fun q hq => (way.mem q).mpr (okR_trans ((way.mem p).mp hpL) hq)
        have val : oddV C p = if m % 2 = 0 then 1 else 0 := by
          refine hC.recu_val (way.lt p hpL) (fun q hq => okR_trans (back q (eqv q hq)) ((way.mem p).mp hpL)) ?_ fun q hq => hall q (eqv q hq)
          obtain ⟨t, ht, e⟩ := hex
          exact ⟨t, okR_trans (back p hpL) ((way.mem t).mp ht), e⟩
        have fin : ∀ v, (rQ K).rel (oddV C p) v I6 → DPut H6 d (vN p) v (upd H6 d (.dK (putK kvs' (Sum.inl (p : Int)) v))) ∧ Nx I H I3 (jCh K H C Ls L x (.ref b) (.ref bl) d i (j + 1)) [some x, some (.ref b), some (.ref d), some (.ref bl), some (vN p)] (upd H6 d (.dK (putK kvs' (Sum.inl (p : Int)) v))) := fun v hv => by
          refine ⟨DPut.k (k := Sum.inl (p : Int)) mu6.h (line_lt (by omega)), I6, g46.put mu6, (e4.trans g5.i).trans g6.i, _, _, _, rfl, mu6.set, (kr'.up (g5.i.trans g6.i)).put hv, ⟨fun q z hz => ?_, fun M hM q hq => ?_, fun q hq => ?_, fun q hq => ?_⟩, ?_⟩
          · by_cases c : q = p
            · rw [if_pos c] at hz; rw [c]; exact (Option.some.inj hz).symm
            · rw [if_neg c] at hz; exact ki'.val q z hz
          · by_cases c : q = p
            · rw [if_pos c]; intro z; cases z
            · rw [if_neg c]; exact ki'.all M hM q hq
          · by_cases c : q = p
            · rw [if_pos c]; intro z; cases z
            · rw [if_neg c]
              rw [List.take_add_one, hp] at hq
              rcases List.mem_append.mp hq with h | h
              · exact ki'.now q h
              · exact absurd (List.mem_singleton.mp h) c
          · by_cases c : q = p
            · rw [c]; exact ⟨L, hLm, hpL⟩
            · rw [if_neg c] at hq; exact ki'.only q hq
          · have := length_putK kvs' (Sum.inl (p : Int)) v
            omega
        refine ⟨_, rfl, b, evens, m, rfl, rfl, sqH (g46.s _ _ (g46.i _ _ hb)), _, rfl, ?_⟩
        rw [evens_dec hm9]
        by_cases c : m % 2 = 0
        · rw [decide_eq_true c]
          rw [if_pos c] at val
          exact iteT ⟨_, rfl, _, rfl, d, _, rfl, fin (.ref a1) (by rw [val]; exact ⟨a1, rfl, one _⟩)⟩
        · rw [decide_eq_false c]
          rw [if_neg c] at val
          exact iteF ⟨_, rfl, _, rfl, d, _, rfl, fin (.ref a0) (by rw [val]; exact ⟨a0, rfl, nought _⟩)⟩
      · rintro σ2 I4 H4 g4 e4 ⟨z4', kvs', kn', rfl, mu', kr', ki', hl'⟩
        rw [List.take_length] at ki'
        refine ⟨I4, g4, (e2.trans g3.i).trans e4, _, _, kvs', kn', rfl, mu', kr', ⟨ki'.val, fun M hM q hq => ?_, fun q hq => absurd hq (by simp), ki'.only⟩, ?_⟩
        · rw [List.take_add_one, hL] at hM
          rcases List.mem_append.mp hM with h | h
          · exact ki'.all M h q hq
          · rw [List.mem_singleton.mp h] at hq; exact ki'.now q hq
        · have := way.len
          omega
    · rintro σ1 I2 H2 g2 e2 ⟨z3, z4, kvs, kn, rfl, mu, kr, ki, hl⟩
      rw [List.take_length] at ki
      have gs := g2.stop mu
      refine ⟨_, rfl, _, rfl, _, C, kn, oddV C, fun p => cnt C.length (OkR C p), d, kvs, x, .ref a0, gs.s, rfl, (rG K).up hG gs.i, upd_same, kr.up (Same.new mu.i), ⟨a0, rfl, nought _⟩, hC, ki.val, fun p hp hn => ⟨hC.next hp, fun hn' => hC.rank hp fun hr => ?_⟩, fun v I4 H4 g4 rv => q v I4 H4 (gs.trans g4) rv⟩
      obtain ⟨L, hL, hpL⟩ := hcl.all p hp hr
      exact ki.all L hL p hpL hn

def spWinning (K : PySem.W.Frag) : Sp := fun vs H Q _ => ∃ I C x, Same I H ∧ vs = [x] ∧ (rG K).rel C x I ∧ Chain C ∧ ∀ v I' H', Gr I H I' H' → (rQs K).rel ((List.range C.length).map (oddV C)) v I' → Q v H'
abbrev s_winning_chances : Stmt := topS 25
theorem sc_winning_chances : FnScope ["chain"] ["chain"] (defScope s_winning_chances) := ⟨rfl, rfl, rfl, by decide +kernel, rfl, by decide +kernel, by decide +kernel⟩
theorem c_winning_chances (D : Dn K mg "winning_chances" s_winning_chances ["chain"]) (c_chances_into : Cal P w K mg base "chances_into" k (spChances K)) : Cal P w K mg base "winning_chances" (k + 1) (spWinning K) := by
  refine D.ok sc_winning_chances (fun vs H Q E h => ?_) (fun f cdv A' outer s0 H vs Q E hr h => ?_)
  · obtain ⟨I, C, x, _, rfl, _⟩ := h
    rfl
  · obtain ⟨I, C, x, hs, rfl, hG, hC, q⟩ := h
    refine ⟨_, (pss_one (ps_ret (pe_c c_chances_into hr (by rfl) (pa_cons (pv 0) (pa_cons (pe_lst (pa_cons pe_int (pa_cons pe_int (pa_cons pe_int (pa_cons pe_int (pa_cons pe_int pa_nil)))))) pa_nil))))), ?_⟩
    refine ⟨_, rfl, by show 5 ≤ sizeLine; decide, fun b nb => ?_⟩
    have g := Gr.imm (o := .lst (evens.map vN)) hs nb
    exact ⟨_, C, x, _, g.s, rfl, (rG K).up hG g.i, ⟨b, rfl, upd_same⟩, hC, fun v I' H' g' rv => q v I' H' (g.trans g') rv⟩
end
end OC
namespace OC
open PySem PySem.Spec PyProof.Rows L2
section
variable {P : Program} {w : World} {K : PySem.W.Frag} {mg : Str → Option Value} {base : Heap} {k : Nat}
/-- some step leads into the places -/
def fitB (G : Gm) (Ins : List Nat) (p : Nat) : Bool := (tsOf G p).any fun t => decide (t ∈ Ins)
theorem fit_iff {G : Gm} {Ins : List Nat} {p : Nat} : fitB G Ins p = true ↔ ∃ t, Ed G p t ∧ t ∈ Ins := by
  unfold fitB
  rw [List.any_eq_true]
  constructor
  · rintro ⟨t, h1, h2⟩
    exact ⟨t, h1, of_decide_eq_true h2⟩
  · rintro ⟨t, h1, h2⟩
    exact ⟨t, h1, decide_eq_true h2⟩
theorem one_all {l : List Nat} {f : Nat → Bool} (h : l.length = 1) : (l.map f).all id = l.any f := by
  match l, h with
  | [a], _ => simp
theorem map_any {l : List Nat} {f : Nat → Bool} : (l.map f).any id = l.any f := by rw [List.any_map]; rfl
def spFits (K : PySem.W.Frag) : Sp := fun vs H Q _ => ∃ I G p Ins x y, Same I H ∧ vs = [x, vN p, y] ∧ (rG K).rel G x I ∧ rNs.rel Ins y I ∧ Wf G ∧ p < G.length ∧ ∀ I' H', Gr I H I' H' → Q (.bl (fitB G Ins p)) H'
abbrev s_fits : Stmt := topS 27
theorem sc_fits : FnScope ["game", "place", "inside", "held", "target"] ["game", "place", "inside"] (defScope s_fits) := ⟨rfl, rfl, rfl, by decide +kernel, rfl, by decide +kernel, by decide +kernel⟩
theorem c_fits (D : Dn K mg "fits" s_fits ["game", "place", "inside"]) (m_all : mg "all" = none) (m_any : mg "any" = none) (c_targets : Cal P w K mg base "targets" k (spTargets K)) : Cal P w K mg base "fits" (k + 1) (spFits K) := by
  refine D.ok sc_fits (fun vs H Q E h => ?_) (fun f cdv A' outer s0 H vs Q E hr h => ?_)
  · obtain ⟨I, G, p, Ins, x, y, _, rfl, _⟩ := h
    rfl
  · obtain ⟨I, G, p, Ins, x, y, hs, rfl, hG, ⟨b, rfl, hb⟩, hw, hp, q⟩ := h
    refine ⟨_, (pss_cons (ps_setLc (i := 3) (own := [("target", 4)]) (g := gName 4) (by rfl) sc_fits.nd rfl rfl (sw_true rfl rfl rfl (by decide +kernel)) (pi_list (pe_c c_targets hr (by rfl) (pa_cons (pv 0) (pa_cons (pv 1) pa_nil)))) (blkOk_by (own := [("target", 4)]) (N := ["game", "place", "inside", "held", "target"]) (sc := defScope s_fits) (by decide +kernel)) (fun _ _ _ _ _ => (pg_name (i := 4) sc_fits.nd rfl (Or.inl rfl))) (fun _ _ _ _ _ => pts_nil) (fun _ _ _ _ _ => (pe_cmpR (op_inN K) (pv 4) (pv 2) (by rfl))))
      (pss_one (ps_ret (pe_ifExp (pt_cmpR op_eq (pe_ix (ix_tupK K) (pe_ix (ix_N K) (pv 0) (pv 1) (fun _ _ => rfl)) pe_int (fun _ _ => rfl)) pe_str (nomark _)) (pe_callB (cr_all rfl) (by rfl) m_all (by decide +kernel) (pa_cons (pv 3) pa_nil)) (pe_callB (cr_any rfl) (by rfl) m_any (by decide +kernel) (pa_cons (pv 3) pa_nil)))))), ?_⟩
    refine ⟨_, rfl, _, rfl, I, G, p, x, hs, rfl, hG, hw, hp, fun D1 I1 H1 g1 mu => ?_⟩
    have gs := g1.stop mu
    have tl := hw.some p hp
    refine ⟨D1, rfl, ⟨_, sqH mu.h⟩, lc_flat (v := V.bl) (f := fun _ => true) (m := fun t => decide (t ∈ Ins)) (src_listF upd_same) gs.s (by omega) (fun e x I2 H2 he re g2 Qg kk => ?_) (fun D2 I2 H2 g2 mu2 => ?_)⟩
    · have re : x = vN e := re
      subst re
      refine kk _ rfl (evYes g2.s) (fun I3 H3 g3 _ Q2 q2 => ?_)
      have gi := (gs.trans g2).trans g3
      exact ⟨_, rfl, _, rfl, b, Ins, e, rfl, rfl, sqH (gi.s _ _ (gi.i _ _ hb)), q2 _ I3 H3 (Gr.refl g3.s) rfl⟩
    · rw [filter_yes] at mu2
      have g := gs.trans g2
      obtain ⟨a, xs, pl, yv, rfl, hpl, ⟨b', c, rfl, ht, _⟩, hx, hy⟩ := rG_at ((rG K).up hG g.i) g.s hp
      refine ⟨_, rfl, _, rfl, a, xs, p, _, rfl, rfl, hx, hy, b', _, 1, _, rfl, rfl, rdT ht g.s, rfl, rfl, _, rfl, ite2 (fun d => ?_) (fun d => ?_)⟩
      · have d : pl.kd = .draw := of_decide_eq_true ((kS_inj (b := .draw)).symm.trans d)
        refine ⟨_, rfl, D2, _, rfl, sqH mu2.h, ?_⟩
        have h1 := hw.one p hp ((kd_at hpl).trans d)
        rw [one_all h1]
        exact q I2 H2 g
      · refine ⟨_, rfl, D2, _, rfl, sqH mu2.h, ?_⟩
        rw [map_any]
        exact q I2 H2 g
def spCanBe (K : PySem.W.Frag) : Sp := fun vs H Q _ => ∃ I G Ins x y, Same I H ∧ vs = [x, y] ∧ (rG K).rel G x I ∧ rNs.rel Ins y I ∧ Wf G ∧ Ins.length ≤ 100 ∧ (∀ p ∈ Ins, p < G.length ∧ fitB G Ins p = true) ∧ ∀ I' H', Gr I H I' H' → Q (.bl true) H'
abbrev s_can_be_kept : Stmt := topS 28
theorem sc_can_be_kept : FnScope ["game", "places", "place"] ["game", "places"] (defScope s_can_be_kept) := ⟨rfl, rfl, rfl, by decide +kernel, rfl, by decide +kernel, by decide +kernel⟩
theorem c_can_be_kept (D : Dn K mg "can_be_kept" s_can_be_kept ["game", "places"]) (m_all : mg "all" = none) (c_fits : Cal P w K mg base "fits" k (spFits K)) : Cal P w K mg base "can_be_kept" (k + 1) (spCanBe K) := by
  refine D.ok sc_can_be_kept (fun vs H Q E h => ?_) (fun f cdv A' outer s0 H vs Q E hr h => ?_)
  · obtain ⟨I, G, Ins, x, y, _, rfl, _⟩ := h
    rfl
  · obtain ⟨I, G, Ins, x, y, hs, rfl, hG, ⟨b, rfl, hb⟩, hw, hl, hall, q⟩ := h
    refine ⟨_, (pss_one (ps_ret (pe_callB (cr_all rfl) (by rfl) m_all (by decide +kernel) (pa_cons (pe_lc (own := [("place", 2)]) (g := gName 2) rfl sc_can_be_kept.nd (pi_list (pv 1)) (blkOk_by (own := [("place", 2)]) (N := ["game", "places", "place"]) (sc := defScope s_can_be_kept) (by decide +kernel)) (fun _ _ _ _ _ => (pg_name (i := 2) sc_can_be_kept.nd rfl (Or.inl rfl))) (fun _ _ _ _ _ => pts_nil) (fun _ _ _ _ _ => (pe_c c_fits hr (by rfl) (pa_cons (pv 0) (pa_cons (pv 2) (pa_cons (pv 1) pa_nil)))))) pa_nil)))), ?_⟩
    refine ⟨_, rfl, b, rfl, ⟨_, sqH (hs _ _ hb)⟩, lc_flat (v := V.bl) (f := fun _ => true) (m := fun t => fitB G Ins t) (src_listF hb) hs (by omega) (fun e x I2 H2 he re g2 Qg kk => ?_) (fun D2 I2 H2 g2 mu2 => ?_)⟩
    · have re : x = vN e := re
      subst re
      refine kk _ rfl (evYes g2.s) (fun I3 H3 g3 _ Q2 q2 => ?_)
      have gi := g2.trans g3
      exact ⟨_, rfl, _, rfl, _, rfl, I3, G, e, Ins, _, _, g3.s, rfl, (rG K).up hG gi.i, ⟨b, rfl, gi.i _ _ hb⟩, hw, (hall e he).1, fun I4 H4 g4 => q2 _ I4 H4 g4 rfl⟩
    · rw [filter_yes] at mu2
      refine ⟨D2, _, rfl, sqH mu2.h, ?_⟩
      have : (Ins.map fun t => fitB G Ins t).all id = true := by
        rw [List.all_map, List.all_eq_true]
        exact fun p hp => (hall p hp).2
      rw [this]
      exact q I2 H2 g2
/-- the places that one can stay in -/
structure Stay (G : Gm) (L : List Nat) (f : Nat → Bool) : Prop where
  inn : ∀ p, f p = true → p ∈ L
  step : ∀ p, f p = true → ∃ t, Ed G p t ∧ f t = true
  max : ∀ S : Nat → Prop, (∀ p, S p → p ∈ L ∧ ∃ t, Ed G p t ∧ S t) → ∀ p, S p → f p = true
def spRounds (K : PySem.W.Frag) : Sp := fun vs H Q _ => ∃ I G L x y, Same I H ∧ vs = [x, y] ∧ (rG K).rel G x I ∧ rNs.rel L y I ∧ Wf G ∧ L.length ≤ 24 ∧ (∀ p ∈ L, p < G.length) ∧
  ∀ D I' H' (r : List (Option Nat)), Gr I H I' H' → Mu H I' H' D (.lst (r.map vO)) → r.length = G.length → Stay G L (fun p => decide (p ∈ L ∧ r[p]? = some none)) → Q (.ref D) H'
def wRo (H I : Hp) (G : Gm) (L : List Nat) (x y : V) (pf : Addr) (m : Nat) (σ : L2.St) (H1 : Hp) : Prop :=
  ∃ (I1 : Hp) (z2 z6 : Option V) (r : List (Option Nat)) (F : List Nat) (pl : Addr) (c : Nat), Gr I H I1 H1 ∧ σ = [some x, some y, z2, some (.ref pf), some (.ref pl), some (vN c), z6] ∧ Mu H I1 H1 pf (.lst (r.map vO)) ∧ I1 pl = some (.lst (F.map vN)) ∧
    r.length = G.length ∧ (∀ q, q ∈ F ↔ q ∈ L ∧ r[q]? = some none) ∧ (∀ S : Nat → Prop, (∀ p, S p → p ∈ L ∧ ∃ t, Ed G p t ∧ S t) → ∀ p, S p → p ∈ F) ∧ F.length ≤ 24 ∧ m = F.length
def iRo (H : Hp) (G : Gm) (x y : V) (pf pl po : Addr) (c : Nat) (O : List Nat) (r : List (Option Nat)) (i : Nat) (σ : L2.St) (I1 H1 : Hp) : Prop :=
  ∃ (z2 : Option V) (r' : List (Option Nat)), σ = [some x, some y, z2, some (.ref pf), some (.ref pl), some (vN c), some (.ref po)] ∧ Mu H I1 H1 pf (.lst (r'.map vO)) ∧ r'.length = G.length ∧ ∀ q, r'[q]? = if q ∈ O.take i then some (some c) else r[q]?
theorem set_vO {r : List (Option Nat)} {p : Nat} {o : Option Nat} : (r.map vO).set p (vO o) = (r.set p o).map vO := (List.map_set).symm
abbrev s_rounds_out : Stmt := topS 29
theorem sc_rounds_out : FnScope ["game", "places", "place", "found", "left", "number", "out"] ["game", "places"] (defScope s_rounds_out) := ⟨rfl, rfl, rfl, by decide +kernel, rfl, by decide +kernel, by decide +kernel⟩
theorem c_rounds_out (D : Dn K mg "rounds_out" s_rounds_out ["game", "places"]) (m_list : mg "list" = none) (c_fits : Cal P w K mg base "fits" k (spFits K)) : Cal P w K mg base "rounds_out" (k + 1) (spRounds K) := by
  refine D.ok sc_rounds_out (fun vs H Q E h => ?_) (fun f cdv A' outer s0 H vs Q E hr h => ?_)
  · obtain ⟨I, G, L, x, y, _, rfl, _⟩ := h
    rfl
  · obtain ⟨I, G, L, x, y, hs, rfl, hG, ⟨b, rfl, hb⟩, hw, hl, hlt, q⟩ := h
    refine ⟨_, (pss_cons (ps_setLc (i := 3) (own := [("place", 2)]) (g := gName 2) (by rfl) sc_rounds_out.nd rfl rfl (sw_true rfl rfl rfl (by decide +kernel)) (pi_list (pv 0)) (blkOk_by (own := [("place", 2)]) (N := ["game", "places", "place", "found", "left", "number", "out"]) (sc := defScope s_rounds_out) (by decide +kernel)) (fun _ _ _ _ _ => (pg_name (i := 2) sc_rounds_out.nd rfl (Or.inl rfl))) (fun _ _ _ _ _ => pts_nil) (fun _ _ _ _ _ => pe_non))
      (pss_cons (ps_set (i := 4) sc_rounds_out.nd rfl (Or.inr rfl) (pe_callTy call_list_of (by rfl) m_list (by decide +kernel) (pa_cons (pv 1) pa_nil)))
      (pss_cons (ps_set (i := 5) sc_rounds_out.nd rfl (Or.inl rfl) pe_int)
      (pss_one (ps_while PassesOwn.never (pt_val pe_bl)
      (pss_cons (ps_set (i := 6) sc_rounds_out.nd rfl (Or.inr rfl) (pe_lc (own := [("place", 2)]) (g := gName 2) rfl sc_rounds_out.nd (pi_list (pv 4)) (blkOk_by (own := [("place", 2)]) (N := ["game", "places", "place", "found", "left", "number", "out"]) (sc := defScope s_rounds_out) (by decide +kernel)) (fun _ _ _ _ _ => (pg_name (i := 2) sc_rounds_out.nd rfl (Or.inl rfl))) (fun _ _ _ _ _ => pts_one (pt_not (pt_val (pe_c c_fits hr (by rfl) (pa_cons (pv 0) (pa_cons (pv 2) (pa_cons (pv 4) pa_nil))))))) (fun _ _ _ _ _ => (pv 2))))
      (pss_cons (ps_if (pt_not (pt_truth (pv 6) (by intro _; rfl)))
      (pss_one (ps_ret (pv 3))) pss_nil)
      (pss_cons (ps_for PassesOwn.never rfl (pi_list (pv 6)) (pg_name (i := 2) sc_rounds_out.nd rfl (Or.inl rfl))
      (pss_one (ps_asg (pv 5) (pg_sub (pv 3) (pv 2) set_N))))
      (pss_cons (ps_set (i := 4) sc_rounds_out.nd rfl (Or.inr rfl) (pe_lc (own := [("place", 2)]) (g := gName 2) rfl sc_rounds_out.nd (pi_list (pv 4)) (blkOk_by (own := [("place", 2)]) (N := ["game", "places", "place", "found", "left", "number", "out"]) (sc := defScope s_rounds_out) (by decide +kernel)) (fun _ _ _ _ _ => (pg_name (i := 2) sc_rounds_out.nd rfl (Or.inl rfl))) (fun _ _ _ _ _ => pts_one (pt_cmpR (op_notInN K) (pv 2) (pv 6) (by rfl))) (fun _ _ _ _ _ => (pv 2))))
      (pss_one (ps_aug (i := 5) sc_rounds_out.nd rfl (Or.inl rfl) pe_int ip_add))))))))))), ?_⟩
    obtain ⟨a, xs, rfl, h1, h2⟩ := hG
    have clen := hw.len
    refine ⟨_, rfl, a, rfl, ⟨xs, sqH (hs _ _ h1)⟩, lc_flat (v := vO) (f := fun _ => true) (m := fun _ => none) (src_list h1 h2) hs (by omega) (fun e x I1 H1 he re g1 Qg kk => kk _ rfl (evYes g1.s) (fun I2 H2 g2 _ Q2 q2 => q2 _ I2 H2 (Gr.refl g2.s) rfl)) (fun pf I1 H1 g1 mf => ?_)⟩
    rw [filter_yes] at mf
    refine ⟨_, rfl, b, _, rfl, .inl (sqH (g1.s _ _ (g1.i _ _ hb))), fun pl npl => ?_⟩
    have g2 := g1.trans (Gr.imm (o := .lst (L.map vN)) g1.s npl)
    have mf := mf.up (Gr.imm (o := .lst (L.map vN)) g1.s npl)
    have hr0 : ∀ p, p < G.length → (G.map fun _ => (none : Option Nat))[p]? = some none := fun p hp => by rw [List.getElem?_map, List.getElem?_eq_getElem hp]; rfl
    refine ⟨wRo H I G L (.ref a) (.ref b) pf, ⟨_, _, none, none, G.map fun _ => none, L, pl, 1, g2, rfl, mf, upd_same, List.length_map _, fun q => ⟨fun h => ⟨h, hr0 q (hlt q h)⟩, fun h => h.1⟩, fun S hS p hp => (hS p hp).1, hl, rfl⟩, ?_⟩
    rintro m σ1 H3 ⟨I3, z2, z6, r, F, pl, c, g3, rfl, mf, hF, rl, hmem, hmax, fl, rfl⟩
    refine ⟨_, rfl, (if_pos rfl).mpr ⟨fun σ' H' => ∃ m', m' < F.length ∧ wRo H I G L (.ref a) (.ref b) pf m' σ' H', fun _ _ h => h, ?_⟩⟩
    have hFn : ∀ p ∈ F, p < G.length := fun p hp => hlt p ((hmem p).mp hp).1
    refine ⟨_, rfl, pl, rfl, ⟨_, sqH (g3.s _ _ hF)⟩, lc_flat (v := vN) (f := fun p => !fitB G F p) (m := fun p => p) (src_listF hF) g3.s (by omega) (fun e x I4 H4 he re g4 Qg kk => ?_) (fun po I4 H4 g4 mo => ?_)⟩
    · have re : x = vN e := re
      subst re
      have gi := g3.trans g4
      exact kk _ rfl (fun Q2 q2 => ⟨_, rfl, _, rfl, _, rfl, I4, G, e, F, _, _, g4.s, rfl, (rG K).up ⟨a, xs, rfl, h1, h2⟩ gi.i, ⟨pl, rfl, g4.i _ _ hF⟩, hw, hFn e he, fun I5 H5 g5 => ⟨_, rfl, q2 I5 H5 g5⟩⟩) (fun I5 H5 g5 _ Q2 q2 => ⟨_, rfl, q2 _ I5 H5 (Gr.refl g5.s) rfl⟩)
    rw [map_same] at mo
    generalize hO : F.filter (fun p => !fitB G F p) = O at mo
    have memO : ∀ p, p ∈ O ↔ p ∈ F ∧ fitB G F p = false := fun p => by rw [← hO, List.mem_filter]; simp
    have gs := g4.stop mo
    have mf := mf.up gs
    have gg := g3.trans gs
    refine ⟨_, rfl, _, .inl ⟨_, sqH mo.h, rfl⟩, ?_⟩
    have fin : O = [] → Stay G L (fun p => decide (p ∈ L ∧ r[p]? = some none)) := fun e => by
      refine ⟨fun p hp => (of_decide_eq_true hp).1, fun p hp => ?_, fun S hS p hp => decide_eq_true ((hmem p).mp (hmax S hS p hp))⟩
      have hpF : p ∈ F := (hmem p).mpr (of_decide_eq_true hp)
      have hfit : fitB G F p = true := by
        cases e' : fitB G F p with
        | true => rfl
        | false =>
          have := (memO p).mpr ⟨hpF, e'⟩
          rw [e] at this
          cases this
      obtain ⟨t, h1, h2⟩ := fit_iff.mp hfit
      exact ⟨t, h1, decide_eq_true ((hmem t).mp h2)⟩
    cases eO : O with
    | nil =>
      rw [eO] at fin
      exact iteT ⟨_, rfl, q pf _ H4 r gg mf rl (fin rfl)⟩
    | cons o O' =>
      refine iteF ?_
      have olen : O.length ≤ 24 := by rw [← hO]; exact Nat.le_trans (List.length_filter_le _ _) fl
      refine ⟨_, rfl, po, rfl, ⟨_, sqH mo.h⟩, for_src (iRo H G (.ref a) (.ref b) pf pl po c O r) (src_listF (I := upd I4 po (.lst (O.map vN))) upd_same) gg ⟨z2, r, rfl, mf, rl, fun q => by simp⟩ ?_ ?_⟩
      · rintro i e x σ2 I5 H5 I6 H6 he g5 e5 ⟨z2', r', rfl, mf', rl', hr'⟩ g6 re
        have re : x = vN e := re
        subst re
        have mf' := mf'.up g6
        have hen : e < G.length := hFn e ((memO e).mp (List.mem_of_getElem? he)).1
        refine ⟨_, rfl, _, rfl, _, rfl, pf, _, e, rfl, rfl, mf'.h, by rw [List.length_map]; omega, I6, (g5.trans g6).put mf', e5.trans g6.i, _, r'.set e (some c), rfl, ?_, by rw [List.length_set]; exact rl', fun q => ?_⟩
        · rw [← set_vO]
          exact mf'.set
        · rw [List.getElem?_set, List.take_add_one, he]
          by_cases c1 : e = q
          · subst c1
            rw [if_pos rfl, if_pos (by omega), if_pos (by simp)]
          · rw [if_neg c1, hr' q]
            by_cases c2 : q ∈ O.take i
            · rw [if_pos c2, if_pos (List.mem_append_left _ c2)]
            · rw [if_neg c2, if_neg]
              intro z
              rcases List.mem_append.mp z with z | z
              · exact c2 z
              · exact c1 (List.mem_singleton.mp z).symm
      · rintro σ2 I5 H5 g5 e5 ⟨z2', r', rfl, mf', rl', hr'⟩
        rw [List.take_length] at hr'
        have hF5 : I5 pl = some (.lst (F.map vN)) := e5 _ _ (gs.i _ _ hF)
        refine ⟨_, rfl, pl, rfl, ⟨_, sqH (g5.s _ _ hF5)⟩, lc_flat (v := vN) (f := fun p => !decide (p ∈ O)) (m := fun p => p) (src_listF hF5) g5.s (by omega) (fun e x I6 H6 he re g6 Qg kk => ?_) (fun pn I6 H6 g6 mn => ?_)⟩
        · have re : x = vN e := re
          subst re
          have ho6 := g6.s _ _ (g6.i _ _ (e5 _ _ (upd_same : upd I4 po (.lst (O.map vN)) po = _)))
          exact kk _ rfl (fun Q2 q2 => ⟨_, rfl, _, rfl, po, O, e, rfl, rfl, sqH ho6, _, rfl, q2 I6 H6 (Gr.refl g6.s)⟩) (fun I7 H7 g7 _ Q2 q2 => ⟨_, rfl, q2 _ I7 H7 (Gr.refl g7.s) rfl⟩)
        rw [map_same] at mn
        have gs6 := g6.stop mn
        have mem' : ∀ q, q ∈ F.filter (fun p => !decide (p ∈ O)) ↔ q ∈ F ∧ q ∉ O := fun q => by rw [List.mem_filter]; simp
        refine ⟨_, rfl, _, _, rfl, rfl, _, ?_, _, _, _, r', F.filter (fun p => !decide (p ∈ O)), pn, c + 1, g5.trans gs6, rfl, mf'.up gs6, upd_same, rl', fun q => ?_, fun S hS p hp => ?_, Nat.le_trans (List.length_filter_le _ _) fl, rfl⟩
        · refine (List.length_filter_lt_length_iff_exists).mpr ⟨o, ((memO o).mp (by rw [eO]; simp)).1, ?_⟩
          have : o ∈ O := by rw [eO]; simp
          simp [this]
        · rw [mem', hmem, hr' q]
          by_cases c2 : q ∈ O
          · rw [if_pos c2]
            exact ⟨fun h => absurd c2 h.2, fun h => by cases h.2⟩
          · rw [if_neg c2]
            exact ⟨fun h => h.1, fun h => ⟨h, c2⟩⟩
        · refine (mem' p).mpr ⟨hmax S hS p hp, fun z => ?_⟩
          have := ((memO p).mp z).2
          obtain ⟨t, h1, h2⟩ := (hS p hp).2
          rw [fit_iff.mpr ⟨t, h1, hmax S hS t h2⟩] at this
          cases this
def spStaying (K : PySem.W.Frag) : Sp := fun vs H Q _ => ∃ I G L x y, Same I H ∧ vs = [x, y] ∧ (rG K).rel G x I ∧ rNs.rel L y I ∧ Wf G ∧ L.length ≤ 24 ∧ (∀ p ∈ L, p < G.length) ∧
  ∀ D I' H' f, Gr I H I' H' → Mu H I' H' D (.lst ((L.filter f).map vN)) → Stay G L f → Q (.ref D) H'
abbrev s_staying : Stmt := topS 30
theorem sc_staying : FnScope ["game", "places", "rounds", "place"] ["game", "places"] (defScope s_staying) := ⟨rfl, rfl, rfl, by decide +kernel, rfl, by decide +kernel, by decide +kernel⟩
theorem c_staying (D : Dn K mg "staying" s_staying ["game", "places"]) (c_rounds_out : Cal P w K mg base "rounds_out" k (spRounds K)) : Cal P w K mg base "staying" (k + 1) (spStaying K) := by
  refine D.ok sc_staying (fun vs H Q E h => ?_) (fun f cdv A' outer s0 H vs Q E hr h => ?_)
  · obtain ⟨I, G, L, x, y, _, rfl, _⟩ := h
    rfl
  · obtain ⟨I, G, L, x, y, hs, rfl, hG, ⟨b, rfl, hb⟩, hw, hl, hlt, q⟩ := h
    refine ⟨_, (pss_cons (ps_set (i := 2) sc_staying.nd rfl (Or.inr rfl) (pe_c c_rounds_out hr (by rfl) (pa_cons (pv 0) (pa_cons (pv 1) pa_nil))))
      (pss_one (ps_ret (pe_lc (own := [("place", 3)]) (g := gName 3) rfl sc_staying.nd (pi_list (pv 1)) (blkOk_by (own := [("place", 3)]) (N := ["game", "places", "rounds", "place"]) (sc := defScope s_staying) (by decide +kernel)) (fun _ _ _ _ _ => (pg_name (i := 3) sc_staying.nd rfl (Or.inl rfl))) (fun _ _ _ _ _ => pts_one (pt_cmpR op_isN (pe_ix (ix_N K) (pv 2) (pv 3) (fun _ _ => rfl)) pe_non (nomark _))) (fun _ _ _ _ _ => (pv 3)))))), ?_⟩
    refine ⟨_, rfl, _, rfl, I, G, L, x, _, hs, rfl, hG, ⟨b, rfl, hb⟩, hw, hl, hlt, fun D1 I1 H1 r g1 mu rl st => ?_⟩
    have gs := g1.stop mu
    refine ⟨_, rfl, b, rfl, ⟨_, sqH (gs.s _ _ (gs.i _ _ hb))⟩, lc_flat (v := vN) (f := fun p => decide (r[p]? = some none)) (m := fun p => p) (src_listF (gs.i _ _ hb)) gs.s (by omega) (fun e x I2 H2 he re g2 Qg kk => ?_) (fun D2 I2 H2 g2 mu2 => ?_)⟩
    · have re : x = vN e := re
      subst re
      have hen := hlt e he
      have hD := g2.s _ _ (g2.i _ _ (upd_same : upd I1 D1 (.lst (r.map vO)) D1 = _))
      obtain ⟨o, ho⟩ : ∃ o, r[e]? = some o := ⟨r[e]'(by omega), List.getElem?_eq_getElem (by omega)⟩
      refine kk _ rfl (fun Q2 q2 => ⟨_, rfl, _, rfl, D1, _, e, _, rfl, rfl, sqH hD, get_map ho, ?_⟩) (fun I3 H3 g3 _ Q2 q2 => ⟨_, rfl, q2 _ I3 H3 (Gr.refl g3.s) rfl⟩)
      have fine := q2 I2 H2 (Gr.refl g2.s)
      rw [ho] at fine
      cases o with
      | none => exact ⟨rfl, _, rfl, fine⟩
      | some n => exact ⟨rfl, _, rfl, fine⟩
    · rw [map_same] at mu2
      refine q D2 I2 H2 (fun p => decide (p ∈ L ∧ r[p]? = some none)) (gs.trans g2) ?_ st
      have : L.filter (fun p => decide (p ∈ L ∧ r[p]? = some none)) = L.filter (fun p => decide (r[p]? = some none)) := List.filter_congr fun p hp => by simp [hp]
      rw [this]
      exact ⟨gs.h.free mu2.b, mu2.i, mu2.h⟩
end
end OC
namespace OC
open PySem PySem.Spec PyProof.Rows L2
/-! ### places that lead to one another -/
def Mut2 (G : Gm) (L : List Nat) (p o : Nat) : Prop := OkB G L p o ∧ OkB G L o p
section
variable {G : Gm} {L : List Nat} {p q o : Nat}
theorem Mut2.symm (h : Mut2 G L p o) : Mut2 G L o p := ⟨h.2, h.1⟩
theorem Mut2.trans (h : Mut2 G L p o) (h' : Mut2 G L o q) : Mut2 G L p q := ⟨h.1.trans h'.1, h'.2.trans h.2⟩
theorem Mut2.self (h : Mut2 G L p o) : OkB G L p p := h.1.trans h.2
theorem Mut2.mem (h : Mut2 G L p o) : o ∈ L := h.1.last
theorem Mut2.of (h : OkB G L p p) : Mut2 G L p p := ⟨h, h⟩
/-- its next step -/
theorem Mut2.next (h : Mut2 G L p o) : ∃ t, Ed G o t ∧ Mut2 G L p t := by
  obtain ⟨t, e, ht, z⟩ := h.2.first
  refine ⟨t, e, h.1.snoc e ht, ?_⟩
  rcases z with rfl | z
  · exact h.self
  · exact z
open Classical in
noncomputable def cls (G : Gm) (L : List Nat) (p : Nat) : List Nat := L.filter fun o => decide (Mut2 G L p o)
open Classical in
theorem mem_cls : o ∈ cls G L p ↔ Mut2 G L p o := by
  unfold cls
  rw [List.mem_filter]
  exact ⟨fun h => of_decide_eq_true h.2, fun h => ⟨h.mem, decide_eq_true h⟩⟩
theorem cls_eq (h : Mut2 G L p o) : cls G L p = cls G L o := by
  unfold cls
  refine List.filter_congr fun x _ => decide_eq_decide.mpr ⟨fun z => h.symm.trans z, fun z => h.trans z⟩
open Classical in
noncomputable def isHd (G : Gm) (L : List Nat) (p : Nat) : Bool := decide (∃ t, cls G L p = p :: t)
noncomputable def knotsOf (G : Gm) (L : List Nat) : List (List Nat) := (L.filter (isHd G L)).map (cls G L)
/-- the classes -/
structure Comp (G : Gm) (L : List Nat) (Ls : List (List Nat)) : Prop where
  cls : ∀ c ∈ Ls, ∃ p, OkB G L p p ∧ ∀ o, o ∈ c ↔ Mut2 G L p o
  all : ∀ p, OkB G L p p → ∃ c ∈ Ls, p ∈ c
  len : Ls.length ≤ 24
  clen : ∀ c ∈ Ls, c.length ≤ 24
open Classical in
theorem comp_knots (hl : L.length ≤ 24) : Comp G L (knotsOf G L) where
  cls := fun c hc => by
    obtain ⟨p, hp, rfl⟩ := List.mem_map.mp hc
    obtain ⟨t, e⟩ := of_decide_eq_true (List.mem_filter.mp hp).2
    have : p ∈ OC.cls G L p := by rw [e]; simp
    exact ⟨p, (mem_cls.mp this).self, fun o => mem_cls⟩
  all := fun p hp => by
    have h0 : p ∈ OC.cls G L p := mem_cls.mpr (.of hp)
    cases e : OC.cls G L p with
    | nil => rw [e] at h0; cases h0
    | cons h t =>
      have hh : Mut2 G L p h := mem_cls.mp (by rw [e]; simp)
      have e2 : OC.cls G L h = h :: t := by rw [← cls_eq hh]; exact e
      refine ⟨OC.cls G L h, List.mem_map.mpr ⟨h, List.mem_filter.mpr ⟨hh.mem, decide_eq_true ⟨t, e2⟩⟩, rfl⟩, mem_cls.mpr hh.symm⟩
  len := by
    unfold knotsOf
    rw [List.length_map]
    exact Nat.le_trans (List.length_filter_le _ _) hl
  clen := fun c hc => by
    obtain ⟨p, hp, rfl⟩ := List.mem_map.mp hc
    exact Nat.le_trans (List.length_filter_le _ _) hl
/-- among the places that one can stay in the classes are the same -/
theorem okB_stay {f : Nat → Bool} (st : Stay G L f) {u v : Nat} (a : OkB G L u v) : ∀ {p : Nat}, OkB G L p u → OkB G L v p → OkB G (L.filter f) u v := by
  have key : ∀ p x, Mut2 G L p x → x ∈ L.filter f := fun p x h => List.mem_filter.mpr ⟨h.mem, st.max (fun z => Mut2 G L p z) (fun z hz => ⟨hz.mem, hz.next⟩) x h⟩
  induction a with
  | one h s => exact fun h1 h2 => .one h (key _ _ ⟨h1.snoc h s, h2⟩)
  | cons h s r ih => exact fun h1 h2 => .cons h (key _ _ ⟨h1.snoc h s, r.trans h2⟩) (ih (h1.snoc h s) h2)
theorem mut_stay {f : Nat → Bool} (st : Stay G L f) : Mut2 G (L.filter f) p o ↔ Mut2 G L p o := by
  have up : ∀ {a b}, OkB G (L.filter f) a b → OkB G L a b := fun h => h.mono (fun _ _ h => h) fun v hv => (List.mem_filter.mp hv).1
  exact ⟨fun h => ⟨up h.1, up h.2⟩, fun h => ⟨okB_stay st h.1 h.self h.2, okB_stay st h.2 h.1 h.self⟩⟩
theorem Comp.stay {f : Nat → Bool} (st : Stay G L f) {Ls : List (List Nat)} (h : Comp G (L.filter f) Ls) : Comp G L Ls where
  cls := fun c hc => by
    obtain ⟨p, h1, h2⟩ := h.cls c hc
    exact ⟨p, ((mut_stay st).mp (.of h1)).self, fun o => (h2 o).trans (mut_stay st)⟩
  all := fun p hp => h.all p ((mut_stay st).mpr (.of hp)).self
  len := h.len
  clen := h.clen
theorem Comp.perm {Ls Ls' : List (List Nat)} (h : Comp G L Ls) (e : Ls'.Perm Ls) : Comp G L Ls' where
  cls := fun c hc => h.cls c (e.mem_iff.mp hc)
  all := fun p hp => let ⟨c, h1, h2⟩ := h.all p hp; ⟨c, e.mem_iff.mpr h1, h2⟩
  len := by rw [e.length_eq]; exact h.len
  clen := fun c hc => h.clen c (e.mem_iff.mp hc)
theorem Comp.fit {Ls : List (List Nat)} (h : Comp G L Ls) {c : List Nat} (hc : c ∈ Ls) (ho : o ∈ c) : fitB G c o = true := by
  obtain ⟨p, h1, h2⟩ := h.cls c hc
  obtain ⟨t, e, ht⟩ := ((h2 o).mp ho).next
  exact fit_iff.mpr ⟨t, e, (h2 t).mpr ht⟩
theorem Comp.sub {Ls : List (List Nat)} (h : Comp G L Ls) {c : List Nat} (hc : c ∈ Ls) (ho : o ∈ c) : o ∈ L := by
  obtain ⟨p, h1, h2⟩ := h.cls c hc
  exact ((h2 o).mp ho).mem
end
section
variable {P : Program} {w : World} {K : PySem.W.Frag} {mg : Str → Option Value} {base : Heap} {k : Nat}
def rBeh (G : Gm) (L : List Nat) : Rp Nat := ⟨fun p v I => ∃ B, rNs.rel B v I ∧ ∀ q, q ∈ B ↔ OkB G L p q, fun ⟨B, h1, h2⟩ e => ⟨B, rNs.up h1 e, h2⟩⟩
def spKnots (K : PySem.W.Frag) : Sp := fun vs H Q _ => ∃ I G L x y, Same I H ∧ vs = [x, y] ∧ (rG K).rel G x I ∧ rNs.rel L y I ∧ Wf G ∧ L.length ≤ 24 ∧ (∀ p ∈ L, p < G.length) ∧ ∀ v I' H', Gr I H I' H' → (rL rNs).rel (knotsOf G L) v I' → Q v H'
def iKn (H : Hp) (G : Gm) (L : List Nat) (x y : V) (pw pf : Addr) (i : Nat) (σ : L2.St) (I1 H1 : Hp) : Prop :=
  ∃ (z2 z5 : Option V) (ys : List V), σ = [some x, some y, z2, some (.ref pw), some (.ref pf), z5, none] ∧ Mu H I1 H1 pf (.lst ys) ∧ Paired (fun e v => rNs.rel e v I1) (((L.take i).filter (isHd G L)).map (cls G L)) ys
abbrev s_knots : Stmt := topS 32
theorem sc_knots : FnScope ["game", "places", "place", "ways", "found", "knot", "other"] ["game", "places"] (defScope s_knots) := ⟨rfl, rfl, rfl, by decide +kernel, rfl, by decide +kernel, by decide +kernel⟩
open Classical in
theorem c_knots (D : Dn K mg "knots" s_knots ["game", "places"]) (c_behind : Cal P w K mg base "behind" k (spBehind K)) : Cal P w K mg base "knots" (k + 1) (spKnots K) := by
  refine D.ok sc_knots (fun vs H Q E h => ?_) (fun f cdv A' outer s0 H vs Q E hr h => ?_)
  · obtain ⟨I, G, L, x, y, _, rfl, _⟩ := h
    rfl
  · obtain ⟨I, G, L, x, y, hs, rfl, hG, ⟨b, rfl, hb⟩, hw, hl, hlt, q⟩ := h
    have hu := hu_of hr
    refine ⟨_, (pss_cons (ps_set (i := 3) sc_knots.nd rfl (Or.inr rfl) (pe_dc (own := [("place", 2)]) (g := gName 2) rfl sc_knots.nd (pi_list (pv 1)) (blkOk_by (own := [("place", 2)]) (N := ["game", "places", "place", "ways", "found", "knot", "other"]) (sc := defScope s_knots) (by decide +kernel)) (fun _ _ _ _ _ => (pg_name (i := 2) sc_knots.nd rfl (Or.inl rfl))) (fun _ _ _ _ _ => pts_nil) (fun _ _ _ _ _ => (pv 2)) (fun _ _ _ _ _ => (pe_c c_behind hr (by rfl) (pa_cons (pv 0) (pa_cons (pv 2) (pa_cons (pv 1) pa_nil)))))))
      (pss_cons (ps_set (i := 4) sc_knots.nd rfl (Or.inl rfl) (pe_lst pa_nil))
      (pss_cons (ps_for PassesOwn.never rfl (pi_list (pv 1)) (pg_name (i := 2) sc_knots.nd rfl (Or.inr rfl))
      (pss_cons (ps_setLc (i := 5) (own := [("other", 6)]) (g := gName 6) (by rfl) sc_knots.nd rfl rfl (sw_true rfl rfl rfl (by decide +kernel)) (pi_list (pv 1)) (blkOk_by (own := [("other", 6)]) (N := ["game", "places", "place", "ways", "found", "knot", "other"]) (sc := defScope s_knots) (by decide +kernel)) (fun _ _ _ _ _ => (pg_name (i := 6) sc_knots.nd rfl (Or.inl rfl))) (fun _ _ _ _ _ => pts_one (PW.pt (pw_and (pt_cmpR (op_inN K) (pv 6) (pe_dget hu (pv 3) (pv 2) (fun _ _ => rfl)) (by rfl)) (pw_and1 (pt_cmpR (op_inN K) (pv 2) (pe_dget hu (pv 3) (pv 6) (fun _ _ => rfl)) (by rfl)))))) (fun _ _ _ _ _ => (pv 6)))
      (pss_one (ps_if (PW.pt (pw_and (pt_truth (pv 5) (by intro _; rfl)) (pw_and1 (pt_cmpR op_eq (pe_ix (ix_N K) (pv 5) pe_int (fun _ _ => rfl)) (pv 2) (nomark _)))))
      (pss_one (ps_expr (pe_bm PySem.F.plainAttrs_list PySem.F.slot_list_append PySem.F.type_list_append mt_append (pv 4) (pa_cons (pv 5) pa_nil)))) pss_nil))))
      (pss_one (ps_ret (pv 4)))))), ?_⟩
    refine ⟨_, rfl, b, rfl, ⟨_, sqH (hs _ _ hb)⟩, dc_src (r' := rBeh G L) (src_listF hb) hs (by omega) (fun e I1 H1 he g1 Qg kk => ?_) (fun pw I1 H1 kvs g1 mw hv => ?_)⟩
    · refine kk _ rfl (evYes g1.s) (fun I2 H2 g2 Q2 q2 => ⟨_, rfl, q2 _ I2 H2 (Gr.refl g2.s) rfl⟩) (fun I2 H2 g2 Q2 q2 => ?_)
      have gi := g1.trans g2
      exact ⟨_, rfl, _, rfl, _, rfl, I2, G, e, L, x, .ref b, gi.s, rfl, (rG K).up hG gi.i, ⟨b, rfl, gi.i _ _ hb⟩, hw, hlt e he, fun D3 I3 H3 B g3 mu3 hB _ => q2 _ _ H3 (g3.stop mu3) ⟨B, ⟨D3, rfl, upd_same⟩, hB⟩⟩
    have gs := g1.stop mw
    have hv : ∀ p ∈ L, ∃ x, valV kvs (Sum.inl (p : Int)) = some x ∧ (rBeh G L).rel p x I1 := hv
    refine ⟨Nat.zero_le _, fun pf npf => ?_⟩
    have g2 := gs.trans (Gr.mut (o := .lst []) gs.s npf)
    have m0 := Mu.new (o := .lst []) gs npf
    have up0 : Same I1 (upd I1 pw (.dK kvs)) := Same.new mw.i
    refine ⟨_, rfl, b, rfl, ⟨_, sqH (g2.s _ _ (g2.i _ _ hb))⟩, for_src (iKn H G L x (.ref b) pw pf) (src_listF (g2.i _ _ hb)) g2 ⟨none, none, [], rfl, m0, .nil⟩ ?_ ?_⟩
    · rintro i e xv σ1 I3 H3 I4 H4 he g3 e3 ⟨z2, z5, ys, rfl, mf, pr⟩ g4 re
      have re : xv = vN e := re
      subst re
      have heL : e ∈ L := List.mem_of_getElem? he
      have hi : i < 24 := by have := (List.getElem?_eq_some_iff.mp he).1; omega
      have mf := mf.up g4
      have gg := g3.trans g4
      have pr := paired_up pr g4.i
      have wk : ∀ {I5}, Same I4 I5 → I5 pw = some (.dK kvs) := fun e5 => e5 _ _ (g4.i _ _ (e3 _ _ upd_same))
      refine ⟨_, rfl, b, rfl, ⟨_, sqH (gg.s _ _ (gg.i _ _ hb))⟩, lc_flat (v := vN) (f := fun o => decide (Mut2 G L e o)) (m := fun o => o) (src_listF (gg.i _ _ hb)) g4.s (by omega) (fun o xo I5 H5 ho ro g5 Qg kk => ?_) (fun pk I5 H5 g5 mk => ?_)⟩
      · have ro : xo = vN o := ro
        subst ro
        refine kk _ rfl (fun Q2 q2 => ?_) (fun I6 H6 g6 _ Q2 q2 => ⟨_, rfl, q2 _ I6 H6 (Gr.refl g6.s) rfl⟩)
        have e5 : Same I1 I5 := ((up0.trans e3).trans g4.i).trans g5.i
        obtain ⟨v1, hv1, B1, ⟨c1, rfl, hc1⟩, hB1⟩ := hv e heL
        obtain ⟨v2, hv2, B2, ⟨c2, rfl, hc2⟩, hB2⟩ := hv o ho
        have hw5 := g5.s _ _ (wk g5.i)
        have fin : Q2 (decide (Mut2 G L e o)) H5 := q2 I5 H5 (Gr.refl g5.s)
        refine ⟨_, rfl, _, rfl, _, rfl, pw, _, rfl, by rw [← hv1]; exact dget hw5, c1, B1, o, rfl, rfl, sqH (g5.s _ _ (e5 _ _ hc1)), _, rfl, ite2 (fun d => ?_) (fun d => ?_)⟩
        · refine ⟨_, rfl, _, rfl, _, rfl, pw, _, rfl, by rw [← hv2]; exact dget hw5, c2, B2, e, rfl, rfl, sqH (g5.s _ _ (e5 _ _ hc2)), _, rfl, ?_⟩
          have d : OkB G L e o := (hB1 o).mp (of_decide_eq_true d)
          have : decide (e ∈ B2) = decide (Mut2 G L e o) := by rw [decide_eq_decide, hB2]; exact ⟨fun z => ⟨d, z⟩, fun z => z.2⟩
          rw [this]
          exact fin
        · have : decide (Mut2 G L e o) = false := decide_eq_false fun z => d (decide_eq_true ((hB1 o).mpr z.1))
          rw [this] at fin
          exact fin
      rw [map_same] at mk
      have mk : Mu H4 I5 H5 pk (.lst ((cls G L e).map vN)) := mk
      have g5s := g5.stop mk
      have mf := mf.up g5s
      have gg := gg.trans g5s
      have pr := paired_up pr g5s.i
      have tk : L.take (i + 1) = L.take i ++ [e] := by rw [List.take_add_one, he]; rfl
      have skip : isHd G L e = false → Nx I H (upd I1 pw (.dK kvs)) (iKn H G L x (.ref b) pw pf (i + 1)) [some x, some (.ref b), some (vN e), some (.ref pw), some (.ref pf), some (.ref pk), none] H5 := fun hn =>
        ⟨_, gg, (e3.trans g4.i).trans g5s.i, _, _, ys, rfl, mf, by rw [tk, List.filter_append, List.map_append, List.filter_cons, if_neg (by rw [hn]; exact Bool.false_ne_true)]; simpa using pr⟩
      refine ⟨_, rfl, _, .inl ⟨_, sqH mk.h, rfl⟩, ?_⟩
      cases ec : cls G L e with
      | nil => exact iteF (iteF (skip (decide_eq_false fun z => by obtain ⟨t, z⟩ := z; rw [ec] at z; cases z)))
      | cons h t =>
        refine iteT ⟨_, rfl, pk, _, 0, _, rfl, rfl, sqH mk.h, by rw [ec]; rfl, _, rfl, rfl, _, rfl, ?_⟩
        by_cases c : h = e
        · have : decide (vN h = vN e) = true := decide_eq_true (by rw [c])
          rw [this]
          refine iteT ⟨_, rfl, .inl ⟨rfl, _, sqH mf.h⟩, _, rfl, pf, _, _, rfl, rfl, mf.h, line_lt ?_, _, gg.put mf, (e3.trans g4.i).trans g5s.i, _, _, _, rfl, mf.set, ?_⟩
          · rw [paired_len pr, List.length_map]
            have := List.length_filter_le (isHd G L) (L.take i)
            rw [List.length_take] at this
            omega
          · rw [tk, List.filter_append, List.map_append, List.filter_cons, if_pos (show isHd G L e = true from decide_eq_true ⟨t, by rw [ec, c]⟩)]
            exact paired_snoc pr ⟨pk, rfl, upd_same⟩
        · have : decide (vN h = vN e) = false := decide_eq_false fun z => c (vN_inj z)
          rw [this]
          exact iteF (skip (decide_eq_false fun z => by obtain ⟨t, z⟩ := z; rw [ec] at z; exact c (List.cons.inj z).1))
    · rintro σ1 I3 H3 g3 e3 ⟨z2, z5, ys, rfl, mf, pr⟩
      rw [List.take_length] at pr
      exact ⟨_, rfl, q _ _ H3 (g3.stop mf) ⟨pf, ys, rfl, upd_same, paired_up pr (Same.new mf.i)⟩⟩
def spGreatC (K : PySem.W.Frag) : Sp := fun vs H Q _ => ∃ I G L x y, Same I H ∧ vs = [x, y] ∧ (rG K).rel G x I ∧ rNs.rel L y I ∧ Wf G ∧ L.length ≤ 24 ∧ (∀ p ∈ L, p < G.length) ∧
  ∀ v I' H' Ls, Gr I H I' H' → (rL rNs).rel Ls v I' → Comp G L Ls → Q v H'
def iGc (H : Hp) (Ks : List (List Nat)) (x y : V) (pf pw : Addr) (i : Nat) (σ : L2.St) (I1 H1 : Hp) : Prop :=
  ∃ (z4 : Option V) (ys : List V), σ = [some x, some y, some (.ref pf), some (.ref pw), z4] ∧ Mu H I1 H1 pf (.lst ys) ∧ Mu H I1 H1 pw (.lst []) ∧ Paired (fun e v => rNs.rel e v I1) (Ks.take i) ys
def wGc (H I : Hp) (G : Gm) (L : List Nat) (x y : V) (pf pw : Addr) (m : Nat) (σ : L2.St) (H1 : Hp) : Prop :=
  ∃ (I1 : Hp) (z4 : Option V) (ys ws : List V) (Ks : List (List Nat)), Gr I H I1 H1 ∧ σ = [some x, some y, some (.ref pf), some (.ref pw), z4] ∧ Mu H I1 H1 pf (.lst ys) ∧ Mu H I1 H1 pw (.lst ws) ∧ Paired (fun e v => rNs.rel e v I1) Ks ys ∧
    ((m = 1 ∧ ws = [y] ∧ Ks = []) ∨ (m = 0 ∧ ws = [] ∧ Comp G L Ks))
abbrev s_greatest_companies : Stmt := topS 33
theorem sc_greatest_companies : FnScope ["game", "places", "found", "waiting", "knot"] ["game", "places"] (defScope s_greatest_companies) := ⟨rfl, rfl, rfl, by decide +kernel, rfl, by decide +kernel, by decide +kernel⟩
theorem c_greatest_companies (D : Dn K mg "greatest_companies" s_greatest_companies ["game", "places"]) (m_sorted : mg "sorted" = none) (c_knots : Cal P w K mg base "knots" k (spKnots K)) (c_staying : Cal P w K mg base "staying" k (spStaying K)) (c_can_be_kept : Cal P w K mg base "can_be_kept" k (spCanBe K)) :
    Cal P w K mg base "greatest_companies" (k + 1) (spGreatC K) := by
  refine D.ok sc_greatest_companies (fun vs H Q E h => ?_) (fun f cdv A' outer s0 H vs Q E hr h => ?_)
  · obtain ⟨I, G, L, x, y, _, rfl, _⟩ := h
    rfl
  · obtain ⟨I, G, L, x, y, hs, rfl, hG, ⟨b, rfl, hb⟩, hw, hl, hlt, q⟩ := h
    refine ⟨_, (pss_cons (ps_set (i := 2) sc_greatest_companies.nd rfl (Or.inl rfl) (pe_lst pa_nil))
      (pss_cons (ps_set (i := 3) sc_greatest_companies.nd rfl (Or.inl rfl) (pe_lst (pa_cons (pv 1) pa_nil)))
      (pss_cons (ps_while PassesOwn.never (pt_truth (pv 3) (by intro _; rfl))
      (pss_one (ps_for PassesOwn.never rfl (pi_list (pe_c c_knots hr (by rfl) (pa_cons (pv 0) (pa_cons (pe_c c_staying hr (by rfl) (pa_cons (pv 0) (pa_cons (pe_bm0 PySem.F.plainAttrs_list PySem.F.slot_list_pop PySem.F.type_list_pop mt_pop (pv 3)) pa_nil))) pa_nil)))) (pg_name (i := 4) sc_greatest_companies.nd rfl (Or.inl rfl))
      (pss_one (ps_if (pt_val (pe_c c_can_be_kept hr (by rfl) (pa_cons (pv 0) (pa_cons (pv 4) pa_nil))))
      (pss_one (ps_expr (pe_bm PySem.F.plainAttrs_list PySem.F.slot_list_append PySem.F.type_list_append mt_append (pv 2) (pa_cons (pv 4) pa_nil)))) (pss_one (ps_expr (pe_bm PySem.F.plainAttrs_list PySem.F.slot_list_append PySem.F.type_list_append mt_append (pv 3) (pa_cons (pv 4) pa_nil)))))))))
      (pss_one (ps_ret (pe_callB (cr_sortedL hr.units) (by rfl) m_sorted (by decide +kernel) (pa_cons (pv 2) pa_nil))))))), ?_⟩
    refine ⟨Nat.zero_le _, fun pf n1 => ⟨_, rfl, by show 1 ≤ sizeLine; decide, fun pw n2 => ?_⟩⟩
    have g1 := Gr.mut (o := .lst []) hs n1
    have mu1 : Mu H I (upd H pf (.lst [])) pf (.lst []) := ⟨n1, hs.free n1, upd_same⟩
    have g2 := g1.trans (Gr.mut (o := .lst [.ref b]) g1.s n2)
    have mu2 := Mu.new (o := .lst [.ref b]) g1 n2
    have nsw := mu1.ne n2
    have mu1 := mu1.up (Gr.mut (o := .lst [.ref b]) g1.s n2)
    refine ⟨wGc H I G L x (.ref b) pf pw, ⟨1, I, none, [], [.ref b], [], g2, rfl, mu1, mu2, .nil, .inl ⟨rfl, rfl, rfl⟩⟩, fun m σ1 H1 inv => ?_⟩
    obtain ⟨I1, z4, ys, ws, Ks, g, rfl, mf, mw, pr, ⟨rfl, rfl, rfl⟩ | ⟨rfl, rfl, cp⟩⟩ := inv
    · refine ⟨_, rfl, _, .inl ⟨_, sqH mw.h, rfl⟩, iteT ⟨fun σ' H' => ∃ m', m' < 1 ∧ wGc H I G L x (.ref b) pf pw m' σ' H', fun _ _ h => h, ?_⟩⟩
      have gp := g.put (u := .lst []) mw
      have mfp := mf.other (u := .lst []) nsw
      have mwp := mw.set (u := .lst [])
      refine ⟨_, rfl, _, rfl, _, rfl, .inl ⟨rfl, _, sqH mw.h⟩, pw, _, .ref b, rfl, rfl, mw.h, rfl, I1, G, L, x, .ref b, gp.s, rfl, (rG K).up hG gp.i, ⟨b, rfl, gp.i _ _ hb⟩, hw, hl, hlt, fun D2 I2 H2 f2 g2 mu2 st => ?_⟩
      have gs := g2.stop mu2
      have slen : (L.filter f2).length ≤ 24 := Nat.le_trans (List.length_filter_le _ _) hl
      refine ⟨_, G, L.filter f2, x, .ref D2, gs.s, rfl, (rG K).up hG (gp.i.trans gs.i), ⟨D2, rfl, upd_same⟩, hw, slen, fun p hp => hlt p (List.mem_filter.mp hp).1, fun v I3 H3 g3 ⟨pk, xks, e, hk, pk'⟩ => ?_⟩
      subst e
      have cp : Comp G L (knotsOf G (L.filter f2)) := (comp_knots slen).stay st
      generalize hKs : knotsOf G (L.filter f2) = Ks at cp pk'
      have gg := (gp.trans gs).trans g3
      have mf3 := (mfp.up gs).up g3
      have mw3 := (mwp.up gs).up g3
      refine ⟨pk, rfl, ⟨_, sqH (g3.s _ _ hk)⟩, for_src (iGc H Ks x (.ref b) pf pw) (src_list hk pk') gg ⟨_, _, rfl, mf3, mw3, by cases pr; exact .nil⟩ ?_ ?_⟩
      · rintro i e xv σ2 I4 H4 I5 H5 he g4 e4 ⟨z4', ys', rfl, mf4, mw4, pr4⟩ g5 re
        have hi : i < 24 := by have := (List.getElem?_eq_some_iff.mp he).1; have := cp.len; omega
        have he' : e ∈ Ks := List.mem_of_getElem? he
        have gg5 := g4.trans g5
        refine ⟨_, rfl, _, rfl, I5, G, e, x, _, gg5.s, rfl, (rG K).up hG gg5.i, re, hw, Nat.le_trans (cp.clen e he') (by decide), fun p hp => ⟨hlt p (cp.sub he' hp), cp.fit he' hp⟩, fun I6 H6 g6 => ⟨_, rfl, ?_⟩⟩
        have mf6 := (mf4.up g5).up g6
        refine iteT ⟨_, rfl, .inl ⟨rfl, _, sqH mf6.h⟩, _, rfl, pf, _, _, rfl, rfl, mf6.h, line_lt ?_, I6, (gg5.trans g6).put mf6, (e4.trans g5.i).trans g6.i, _, _, rfl, mf6.set, ((mw4.up g5).up g6).other nsw.symm, ?_⟩
        · rw [paired_len pr4, List.length_take]
          omega
        · rw [List.take_add_one, he]
          exact paired_snoc (paired_up pr4 (g5.i.trans g6.i)) (rNs.up re g6.i)
      · rintro σ2 I4 H4 g4 e4 ⟨z4', ys', rfl, mf4, mw4, pr4⟩
        rw [List.take_length] at pr4
        exact ⟨0, by decide, I4, _, _, _, Ks, g4, rfl, mf4, mw4, pr4, .inr ⟨rfl, rfl, cp⟩⟩
    · refine ⟨_, rfl, _, .inl ⟨_, sqH mw.h, rfl⟩, iteF ⟨_, rfl, pf, ys, Ks, fun e v => rNs.rel e v I1, rfl, mf.h, fun L' v ⟨c, e, hc⟩ => ⟨c, e, g.s _ _ hc⟩, pr, fun Ls' xs' p hp hpr np => ?_⟩⟩
      have g' := g.trans (Gr.imm (o := .lst xs') g.s np)
      exact q _ _ _ Ls' g' ⟨p, xs', rfl, upd_same, paired_up hpr (Same.new (g.s.free np))⟩ (cp.perm hp)
def spMarkOf (K : PySem.W.Frag) : Sp := fun vs H Q _ => ∃ I G c x y, Same I H ∧ vs = [x, y] ∧ (rG K).rel G x I ∧ rNs.rel c y I ∧ c ≠ [] ∧ c.length ≤ 24 ∧ (∀ p ∈ c, p < G.length) ∧
  ∀ m I' H', Gr I H I' H' → (∃ t ∈ c, mkOf G t = m) → (∀ o ∈ c, mkOf G o ≤ m) → Q (vN m) H'
abbrev s_company_mark : Stmt := topS 34
theorem sc_company_mark : FnScope ["game", "places", "place"] ["game", "places"] (defScope s_company_mark) := ⟨rfl, rfl, rfl, by decide +kernel, rfl, by decide +kernel, by decide +kernel⟩
/-- a place, read -/
theorem place_at {G : Gm} {v : V} {I H : Hp} {p : Nat} (h : (rG K).rel G v I) (s : Same I H) (hp : p < G.length) :
    ∃ a xs b c, v = .ref a ∧ SqL K H a xs ∧ xs[p]? = some (.ref b) ∧ SqT K H b [vN (mkOf G p), .str (kS (kdOf G p)), c] ∧ (rTs K (kdOf G p)).rel (tsOf G p) c I := by
  obtain ⟨a, xs, pl, yv, rfl, hpl, ⟨b', c, rfl, ht, hc⟩, hx, hy⟩ := rG_at h s hp
  rw [mk_at hpl, kd_at hpl, ts_at hpl]
  exact ⟨a, xs, b', c, rfl, hx, hy, rdT ht s, hc⟩
end
end OC
namespace OC
open PySem PySem.Spec PyProof.Rows L2
/-! ### a def with a keyword-only parameter -/
def DnK (K : PySem.W.Frag) (mg : Str → Option Value) (x : Str) (st : Stmt) (ps : List Str) (n : Nat) (ks : List Str) : Prop := ∃ f fd, Fun K x x st f fd ∧ mg x = some (.ref f) ∧ KBn K fd ps n ks (fun us ws => us ++ ws) (fun vs zs => vs ++ zs)
def CalK (P : Program) (w : World) (K : PySem.W.Frag) (mg : Str → Option Value) (base : Heap) (x : Str) (k n : Nat) (ks : List Str) (sp : Sp) : Prop :=
  ∃ f fd ps, FnOk P w K mg base CX0 k f fd ps sp ∧ mg x = some (.ref f) ∧ PySem.W.keepIn K (.ref f) = true ∧ KBn K fd ps n ks (fun us ws => us ++ ws) (fun vs zs => vs ++ zs)
section
variable {P : Program} {w : World} {K : PySem.W.Frag} {mg : Str → Option Value} {base : Heap} {x : Str} {st : Stmt} {ps N ks : List Str} {k j n : Nat} {sp sp' : Sp}
theorem CalK.mono (h : CalK P w K mg base x j n ks sp) (le : j ≤ k) : CalK P w K mg base x k n ks sp := by
  obtain ⟨f, fd, ps, F, r⟩ := h
  exact ⟨f, fd, ps, F.mono le, r⟩
theorem DnK.ok (D : DnK K mg x st ps n ks) (S : FnScope N ps (defScope st)) (len : ∀ vs H Q E, sp vs H Q E → vs.length = ps.length)
    (hbody : ∀ (f : Addr) (cdv : Value) (A : Around) (outer : List Env) (s : Shared) (H : Hp) (vs : List V) (Q : VK) (E : XK), Room k (A.deeper (envOfC x (defScope st) s.heap.objs.size f cdv)) → sp vs H Q E →
      ∃ t, PSs (cxOf CX0 P w K mg base N x (defScope st) f cdv A outer s H E).nox (defBody st) t ∧ t { nx := fun _ H' => Q .non H', rt := Q } (start N vs) H) : CalK P w K mg base x (k + 1) n ks sp := by
  obtain ⟨f, fd, F, m, b⟩ := D
  exact ⟨f, fd, ps, F.ok S len (hbody f), m, F.kp, b⟩
theorem pe_ck {X : Cx} {p pos : Pos} {e : Expr} {es : List Expr} {kws : List Keyword} {t tk : TA} (C : CalK X.prog X.w X.K X.mg X.base x k n ks sp) (hr : Room k X.A) (hg : Gl X x) (ha : PA X (e :: es) t) (hkw : PK X kws tk) (hall : (backToKw pos (keywordEach kws X.env)).all (·.1.isSome) = true := by rfl) (hks : (backToKw pos (keywordEach kws X.env)).filterMap (·.1) = ks := by rfl)
    (hdb : (x == ("__debug__" : Str)) = false := by decide)
    (he : starEach (e :: es) X.env = (false, eval e X.env) :: starEach es X.env := by rfl)
    (hpl : Eq ((backTo pos (starEach (e :: es) X.env)).any (·.1) || (backToKw pos (keywordEach kws X.env)).any (·.1.isNone)) false := by rfl) :
    PE X (.Call (.Name x p) (e :: es) kws pos) (tCallN n ks.length sp (fun vs zs => vs ++ zs) E0 t tk) := by
  obtain ⟨f, fd, ps, F, m, kp, b⟩ := C
  exact pe_callN F hr hg m kp b pass0 ha hkw hall hks hdb he hpl
end
section
variable {P : Program} {w : World} {K : PySem.W.Frag} {mg : Str → Option Value} {base : Heap} {k : Nat}
theorem c_company_mark (D : Dn K mg "company_mark" s_company_mark ["game", "places"]) (m_max : mg "max" = none) : Cal P w K mg base "company_mark" (k + 1) (spMarkOf K) := by
  refine D.ok sc_company_mark (fun vs H Q E h => ?_) (fun f cdv A' outer s0 H vs Q E hr h => ?_)
  · obtain ⟨I, G, L, x, y, _, rfl, _⟩ := h
    rfl
  · obtain ⟨I, G, c, x, y, hs, rfl, hG, ⟨b, rfl, hb⟩, hne, hl, hlt, q⟩ := h
    refine ⟨_, (pss_one (ps_ret (pe_callB (cr_maxN K rfl) (by rfl) m_max (by decide +kernel) (pa_cons (pe_lc (own := [("place", 2)]) (g := gName 2) rfl sc_company_mark.nd (pi_list (pv 1)) (blkOk_by (own := [("place", 2)]) (N := ["game", "places", "place"]) (sc := defScope s_company_mark) (by decide +kernel)) (fun _ _ _ _ _ => (pg_name (i := 2) sc_company_mark.nd rfl (Or.inl rfl))) (fun _ _ _ _ _ => pts_nil) (fun _ _ _ _ _ => (pe_ix (ix_tupK K) (pe_ix (ix_N K) (pv 0) (pv 2) (fun _ _ => rfl)) pe_int (fun _ _ => rfl)))) pa_nil)))), ?_⟩
    refine ⟨_, rfl, b, rfl, ⟨_, sqH (hs _ _ hb)⟩, lc_flat (v := vN) (f := fun _ => true) (m := fun t => mkOf G t) (src_listF hb) hs (by omega) (fun e xe I2 H2 he re g2 Qg kk => ?_) (fun D2 I2 H2 g2 mu2 => ?_)⟩
    · have re : xe = vN e := re
      subst re
      refine kk _ rfl (evYes g2.s) (fun I3 H3 g3 _ Q2 q2 => ?_)
      have gi := g2.trans g3
      obtain ⟨a, xs, d, cc, rfl, p1, p2, p3, _⟩ := place_at ((rG K).up hG gi.i) gi.s (hlt e he)
      exact ⟨_, rfl, _, rfl, a, xs, e, _, rfl, rfl, p1, p2, d, _, 0, _, rfl, rfl, p3, rfl, q2 _ I3 H3 (Gr.refl g3.s) rfl⟩
    · rw [filter_yes] at mu2
      refine ⟨D2, _, rfl, sqH mu2.h, fun z => hne (List.map_eq_nil_iff.mp z), fun m hm hmax => ?_⟩
      obtain ⟨t, h1, h2⟩ := List.mem_map.mp hm
      exact q m I2 H2 g2 ⟨t, h1, h2⟩ fun o ho => hmax _ (List.mem_map.mpr ⟨o, ho, rfl⟩)
/-- the places of at most this mark -/
def low (G : Gm) (L : List Nat) (m : Nat) : List Nat := L.filter fun p => decide (mkOf G p ≤ m)
theorem mem_low {G : Gm} {L : List Nat} {m p : Nat} : p ∈ low G L m ↔ p ∈ L ∧ mkOf G p ≤ m := by
  unfold low
  rw [List.mem_filter]
  exact ⟨fun h => ⟨h.1, of_decide_eq_true h.2⟩, fun h => ⟨h.1, decide_eq_true h.2⟩⟩
/-- q is on the round of a place with the mark m, all along lesser ones -/
def Fx1 (G : Gm) (L : List Nat) (m q : Nat) : Prop := ∃ t, mkOf G t = m ∧ Mut2 G (low G L m) t q
def spTopped (K : PySem.W.Frag) : Sp := fun vs H Q _ => ∃ I G L m x y, Same I H ∧ vs = [x, y, vN m] ∧ (rG K).rel G x I ∧ rNs.rel L y I ∧ Wf G ∧ L.length ≤ 24 ∧ (∀ p ∈ L, p < G.length) ∧
  ∀ v I' H' Ls, Gr I H I' H' → (rL rNs).rel Ls v I' → (∀ q, (∃ c ∈ Ls, q ∈ c) ↔ Fx1 G L m q) → Ls.length ≤ 24 → (∀ c ∈ Ls, c.length ≤ 24) → Q v H'
open Classical in
noncomputable def mxOf (G : Gm) (c : List Nat) (m : Nat) : Bool := decide ((∃ t ∈ c, mkOf G t = m) ∧ ∀ o ∈ c, mkOf G o ≤ m)
theorem mx_eq {G : Gm} {c : List Nat} {m n : Nat} (h1 : ∃ t ∈ c, mkOf G t = n) (h2 : ∀ o ∈ c, mkOf G o ≤ n) : mxOf G c m = decide (n = m) := by
  unfold mxOf
  rw [decide_eq_decide]
  obtain ⟨t, ht, e⟩ := h1
  constructor
  · rintro ⟨⟨t', ht', e'⟩, h⟩
    have a := h2 t' ht'
    have b := h t ht
    omega
  · rintro rfl
    exact ⟨⟨t, ht, e⟩, h2⟩
abbrev s_topped : Stmt := topS 35
theorem sc_topped : FnScope ["game", "places", "mark", "low", "place", "one"] ["game", "places", "mark"] (defScope s_topped) := ⟨rfl, rfl, rfl, by decide +kernel, rfl, by decide +kernel, by decide +kernel⟩
theorem comp_fx {G : Gm} {L : List Nat} {m : Nat} {Ls : List (List Nat)} (cp : Comp G (low G L m) Ls) (q : Nat) : (∃ c ∈ Ls.filter (fun c => mxOf G c m), q ∈ c) ↔ Fx1 G L m q := by
  constructor
  · rintro ⟨c, hc, hq⟩
    obtain ⟨hc, hm⟩ := List.mem_filter.mp hc
    obtain ⟨⟨t, ht, e⟩, _⟩ := of_decide_eq_true hm
    obtain ⟨p, h1, h2⟩ := cp.cls c hc
    exact ⟨t, e, ((h2 t).mp ht).symm.trans ((h2 q).mp hq)⟩
  · rintro ⟨t, e, h⟩
    obtain ⟨c, hc, ht⟩ := cp.all t h.self
    obtain ⟨p, h1, h2⟩ := cp.cls c hc
    refine ⟨c, List.mem_filter.mpr ⟨hc, decide_eq_true ⟨⟨t, ht, e⟩, fun o ho => ?_⟩⟩, (h2 q).mpr (((h2 t).mp ht).trans h)⟩
    exact (mem_low.mp (cp.sub hc ho)).2
theorem le_nat {a b : Nat} : decide ((a : Int) ≤ (b : Int)) = decide (a ≤ b) := decide_eq_decide.mpr Int.ofNat_le
theorem c_topped (D : Dn K mg "topped" s_topped ["game", "places", "mark"]) (c_greatest_companies : Cal P w K mg base "greatest_companies" k (spGreatC K)) (c_company_mark : Cal P w K mg base "company_mark" k (spMarkOf K)) : Cal P w K mg base "topped" (k + 1) (spTopped K) := by
  refine D.ok sc_topped (fun vs H Q E h => ?_) (fun f cdv A' outer s0 H vs Q E hr h => ?_)
  · obtain ⟨I, G, L, m, x, y, _, rfl, _⟩ := h
    rfl
  · obtain ⟨I, G, L, m, x, y, hs, rfl, hG, ⟨b, rfl, hb⟩, hw, hl, hlt, q⟩ := h
    refine ⟨_, (pss_cons (ps_setLc (i := 3) (own := [("place", 4)]) (g := gName 4) (by rfl) sc_topped.nd rfl rfl (sw_true rfl rfl rfl (by decide +kernel)) (pi_list (pv 1)) (blkOk_by (own := [("place", 4)]) (N := ["game", "places", "mark", "low", "place", "one"]) (sc := defScope s_topped) (by decide +kernel)) (fun _ _ _ _ _ => (pg_name (i := 4) sc_topped.nd rfl (Or.inl rfl))) (fun _ _ _ _ _ => pts_one (pt_cmpR op_le (pe_ix (ix_tupK K) (pe_ix (ix_N K) (pv 0) (pv 4) (fun _ _ => rfl)) pe_int (fun _ _ => rfl)) (pv 2) (nomark _))) (fun _ _ _ _ _ => (pv 4)))
      (pss_one (ps_ret (pe_lc (own := [("one", 5)]) (g := gName 5) rfl sc_topped.nd (pi_list (pe_c c_greatest_companies hr (by rfl) (pa_cons (pv 0) (pa_cons (pv 3) pa_nil)))) (blkOk_by (own := [("one", 5)]) (N := ["game", "places", "mark", "low", "place", "one"]) (sc := defScope s_topped) (by decide +kernel)) (fun _ _ _ _ _ => (pg_name (i := 5) sc_topped.nd rfl (Or.inl rfl))) (fun _ _ _ _ _ => pts_one (pt_cmpR op_eq (pe_c c_company_mark hr (by rfl) (pa_cons (pv 0) (pa_cons (pv 5) pa_nil))) (pv 2) (nomark _))) (fun _ _ _ _ _ => (pv 5)))))), ?_⟩
    refine ⟨_, rfl, b, rfl, ⟨_, sqH (hs _ _ hb)⟩, lc_flat (v := vN) (f := fun p => decide (mkOf G p ≤ m)) (m := fun p => p) (src_listF hb) hs (by omega) (fun e xe I2 H2 he re g2 Qg kk => ?_) (fun D1 I1 H1 g1 mu1 => ?_)⟩
    · have re : xe = vN e := re
      subst re
      refine kk _ rfl (fun Q2 q2 => ?_) (fun I3 H3 g3 _ Q2 q2 => ⟨_, rfl, q2 _ I3 H3 (Gr.refl g3.s) rfl⟩)
      obtain ⟨a, xs, d, cc, rfl, p1, p2, p3, _⟩ := place_at ((rG K).up hG g2.i) g2.s (hlt e he)
      refine ⟨_, rfl, _, rfl, a, xs, e, _, rfl, rfl, p1, p2, d, _, 0, _, rfl, rfl, p3, rfl, _, rfl, _, _, rfl, rfl, _, rfl, ?_⟩
      rw [le_nat]
      exact q2 I2 H2 (Gr.refl g2.s)
    rw [map_same] at mu1
    have mu1 : Mu H I1 H1 D1 (.lst ((low G L m).map vN)) := mu1
    have gs := g1.stop mu1
    have llen : (low G L m).length ≤ 24 := Nat.le_trans (List.length_filter_le _ _) hl
    refine ⟨_, rfl, _, rfl, _, G, low G L m, x, _, gs.s, rfl, (rG K).up hG gs.i, ⟨D1, rfl, upd_same⟩, hw, llen, fun p hp => hlt p (mem_low.mp hp).1, fun v I2 H2 Ls g2 ⟨al, xl, e, hal, hpl⟩ cp => ?_⟩
    subst e
    have gg := gs.trans g2
    refine ⟨al, rfl, ⟨_, sqH (g2.s _ _ hal)⟩, lc_src (r' := rNs) (f := fun c => mxOf G c m) (m := fun c => c) (src_list hal hpl) gg.s (by have := cp.len; omega) (fun c xc I3 H3 hc rc g3 Qg kk => ?_) (fun D3 I3 H3 ys g3 mu3 pr => ?_)⟩
    · refine kk _ rfl (fun Q2 q2 => ?_) (fun I4 H4 g4 _ Q2 q2 => ⟨_, rfl, q2 _ I4 H4 (Gr.refl g4.s) (rNs.up rc g4.i)⟩)
      obtain ⟨p, h1, h2⟩ := cp.cls c hc
      have gi := gg.trans g3
      refine ⟨_, rfl, _, rfl, I3, G, c, x, _, g3.s, rfl, (rG K).up hG gi.i, rc, fun z => ?_, cp.clen c hc, fun o ho => hlt o (mem_low.mp (cp.sub hc ho)).1, fun n I4 H4 g4 hex hall => ⟨_, rfl, rfl, _, rfl, ?_⟩⟩
      · have := (h2 p).mpr (.of h1)
        rw [z] at this
        cases this
      · have := q2 I4 H4 g4
        rw [mx_eq hex hall] at this
        by_cases c : n = m
        · rw [decide_eq_true c] at this
          rw [decide_eq_true (by rw [c])]
          exact this
        · rw [decide_eq_false c] at this
          rw [decide_eq_false (fun z => c (vN_inj z))]
          exact this
    · rw [map_same] at pr
      refine q _ _ H3 (Ls.filter fun c => mxOf G c m) (gg.trans (g3.stop mu3)) ⟨D3, ys, rfl, upd_same, paired_up pr (Same.new mu3.i)⟩ (comp_fx cp) (Nat.le_trans (List.length_filter_le _ _) cp.len) fun c hc => cp.clen c (List.mem_filter.mp hc).1
/-- the places on rounds with a greatest mark that is odd -/
def Fxd (G : Gm) (q : Nat) : Prop := ∃ i, i < 5 ∧ Fx1 G (List.range G.length) (1 + 2 * i) q
def spWonIn (K : PySem.W.Frag) : Sp := fun vs H Q _ => ∃ I G x y, Same I H ∧ vs = [x, y, .str "theirs"] ∧ (rG K).rel G x I ∧ rNs.rel (List.range G.length) y I ∧ Wf G ∧
  ∀ D I' H' F, Gr I H I' H' → rNs.rel F (.ref D) I' → (∀ q, q ∈ F ↔ Fxd G q) → Q (.ref D) H'
def iWi (H : Hp) (G : Gm) (x y : V) (pf : Addr) (i : Nat) (σ : L2.St) (I1 H1 : Hp) : Prop :=
  ∃ (z4 z5 : Option V) (F : List Nat), σ = [some x, some y, some (.str "theirs"), some (.ref pf), z4, z5, none] ∧ Mu H I1 H1 pf (.lst (F.map vN)) ∧ (∀ q, q ∈ F ↔ ∃ j, j < i ∧ Fx1 G (List.range G.length) (1 + 2 * j) q) ∧ F.length ≤ 576 * i
def jWi (H : Hp) (x y z4 : V) (Ls : List (List Nat)) (F0 : List Nat) (pf : Addr) (i : Nat) (σ : L2.St) (I1 H1 : Hp) : Prop :=
  ∃ (z5 : Option V) (F : List Nat), σ = [some x, some y, some (.str "theirs"), some (.ref pf), some z4, z5, none] ∧ Mu H I1 H1 pf (.lst (F.map vN)) ∧ (∀ q, q ∈ F ↔ q ∈ F0 ∨ ∃ c ∈ Ls.take i, q ∈ c) ∧ F.length ≤ F0.length + 24 * i
theorem rgc_10 : RgC 1 10 2 5 := ⟨by decide, by decide, by decide +kernel, by decide +kernel⟩
abbrev s_won_in : Stmt := topS 36
theorem sc_won_in : FnScope ["game", "places", "side", "found", "mark", "company", "place"] ["game", "places", "side"] (defScope s_won_in) := ⟨rfl, rfl, rfl, by decide +kernel, rfl, by decide +kernel, by decide +kernel⟩
theorem c_won_in (D : DnK K mg "won_in" s_won_in ["game", "places", "side"] 2 ["side"]) (m_range : mg "range" = none) (m_sorted : mg "sorted" = none) (c_topped : Cal P w K mg base "topped" k (spTopped K)) : CalK P w K mg base "won_in" (k + 1) 2 ["side"] (spWonIn K) := by
  refine D.ok sc_won_in (fun vs H Q E h => ?_) (fun f cdv A' outer s0 H vs Q E hr h => ?_)
  · obtain ⟨I, G, x, y, _, rfl, _⟩ := h
    rfl
  · obtain ⟨I, G, x, y, hs, rfl, hG, ⟨b, rfl, hb⟩, hw, q⟩ := h
    refine ⟨_, (pss_cons (ps_set (i := 3) sc_won_in.nd rfl (Or.inr rfl) (pe_lst pa_nil))
      (pss_cons (ps_for PassesOwn.never rfl (pi_range3 (by rfl) m_range (pa_cons (pe_ifExp (pt_cmpR op_eq (pv 2) pe_str (nomark _)) pe_int pe_int) (pa_cons pe_int (pa_cons pe_int pa_nil)))) (pg_name (i := 4) sc_won_in.nd rfl (Or.inl rfl))
      (pss_one (ps_for PassesOwn.never rfl (pi_list (pe_c c_topped hr (by rfl) (pa_cons (pv 0) (pa_cons (pv 1) (pa_cons (pv 4) pa_nil))))) (pg_name (i := 5) sc_won_in.nd rfl (Or.inl rfl))
      (pss_one (ps_expr (pe_bm PySem.F.plainAttrs_list PySem.F.slot_list_extend PySem.F.type_list_extend mt_extend (pv 3) (pa_cons (pe_lc (own := [("place", 6)]) (g := gName 6) rfl sc_won_in.nd (pi_list (pv 5)) (blkOk_by (own := [("place", 6)]) (N := ["game", "places", "side", "found", "mark", "company", "place"]) (sc := defScope s_won_in) (by decide +kernel)) (fun _ _ _ _ _ => (pg_name (i := 6) sc_won_in.nd rfl (Or.inl rfl))) (fun _ _ _ _ _ => pts_one (pt_cmpR (op_notInN K) (pv 6) (pv 3) (by rfl))) (fun _ _ _ _ _ => (pv 6))) pa_nil)))))))
      (pss_one (ps_ret (pe_callB (cr_sortedN K) (by rfl) m_sorted (by decide +kernel) (pa_cons (pv 3) pa_nil)))))), ?_⟩
    have clen := hw.len
    refine ⟨Nat.zero_le _, fun pf npf => ?_⟩
    have g0 := Gr.mut (o := .lst []) hs npf
    have m0 : Mu H I (upd H pf (.lst [])) pf (.lst []) := ⟨npf, hs.free npf, upd_same⟩
    refine ⟨_, rfl, rfl, _, rfl, ite2 (fun c => absurd c (by decide)) (fun _ => ⟨1, 10, 2, 5, rfl, rgc_10, for_rngC (iWi H G x (.ref b) pf) g0 ⟨none, none, [], rfl, m0, fun q => ⟨fun z => absurd z (by simp), fun ⟨j, z, _⟩ => absurd z (Nat.not_lt_zero j)⟩, Nat.le_refl _⟩ ?_ ?_⟩)⟩
    · rintro i σ1 I1 H1 hi g1 e1 ⟨z4, z5, F, rfl, mf, hF, fl⟩
      have em : V.int (1 + (i : Int) * 2) = vN (1 + 2 * i) := by
        show V.int _ = V.int _
        congr 1
        omega
      rw [em]
      refine ⟨_, rfl, _, rfl, _, rfl, I1, G, List.range G.length, 1 + 2 * i, x, _, g1.s, rfl, (rG K).up hG g1.i, ⟨b, rfl, g1.i _ _ hb⟩, hw, by rw [List.length_range]; exact clen, fun p hp => List.mem_range.mp hp, fun v I2 H2 Ls g2 ⟨al, xl, e, hal, hpl⟩ hfx ll lc => ?_⟩
      subst e
      have mf := mf.up g2
      have gg := g1.trans g2
      refine ⟨al, rfl, ⟨_, sqH (g2.s _ _ hal)⟩, for_src (jWi H x (.ref b) (vN (1 + 2 * i)) Ls F pf) (src_list hal hpl) gg ⟨z5, F, rfl, mf, fun q => ⟨fun z => .inl z, fun z => z.elim id fun ⟨c, hc, _⟩ => absurd hc (by simp)⟩, by omega⟩ ?_ ?_⟩
      · rintro j c xv σ2 I3 H3 I4 H4 hc g3 e3 ⟨z5', F', rfl, mf', hF', fl'⟩ g4 ⟨bc, rfl, hbc⟩
        have mf' := mf'.up g4
        have gg4 := g3.trans g4
        have hcm : c ∈ Ls := List.mem_of_getElem? hc
        have hj : j < 24 := by have := (List.getElem?_eq_some_iff.mp hc).1; omega
        refine ⟨_, rfl, .inl ⟨rfl, _, sqH mf'.h⟩, _, rfl, bc, rfl, ⟨_, sqH (g4.s _ _ hbc)⟩, lc_flat (v := vN) (f := fun p => !decide (p ∈ F')) (m := fun p => p) (src_listF hbc) g4.s (by have := lc c hcm; omega) (fun e xe I5 H5 he re g5 Qg kk => ?_) (fun D5 I5 H5 g5 mu5 => ?_)⟩
        · have re : xe = vN e := re
          subst re
          exact kk _ rfl (fun Q2 q2 => ⟨_, rfl, _, rfl, pf, F', e, rfl, rfl, sqH (g5.h _ _ mf'.h), _, rfl, q2 I5 H5 (Gr.refl g5.s)⟩) (fun I6 H6 g6 _ Q2 q2 => ⟨_, rfl, q2 _ I6 H6 (Gr.refl g6.s) rfl⟩)
        · rw [map_same] at mu5
          have g5s := g5.stop mu5
          have mf5 := mf'.up g5s
          have lfil : (c.filter fun p => !decide (p ∈ F')).length ≤ 24 := Nat.le_trans (List.length_filter_le _ _) (lc c hcm)
          have mapp : F'.map vN ++ (c.filter fun p => !decide (p ∈ F')).map vN = (F' ++ c.filter fun p => !decide (p ∈ F')).map vN := by rw [List.map_append]
          refine ⟨pf, D5, _, _, rfl, rfl, mf5.h, mu5.h, line_le (by rw [len_nat, len_nat]; omega), _, (gg4.trans g5s).put mf5, (e3.trans g4.i).trans g5s.i, _, F' ++ c.filter fun p => !decide (p ∈ F'), rfl, by rw [← mapp]; exact mf5.set, fun q => ?_, by rw [List.length_append]; omega⟩
          rw [List.mem_append, hF' q, List.take_add_one, hc]
          constructor
          · rintro ((z | ⟨c', hc', z⟩) | z)
            · exact .inl z
            · exact .inr ⟨c', List.mem_append_left _ hc', z⟩
            · exact .inr ⟨c, by simp, (List.mem_filter.mp z).1⟩
          · rintro (z | ⟨c', hc', z⟩)
            · exact .inl (.inl z)
            · rcases List.mem_append.mp hc' with h | h
              · exact .inl (.inr ⟨c', h, z⟩)
              · rw [List.mem_singleton.mp h] at z
                by_cases y : q ∈ F'
                · exact .inl ((hF' q).mp y)
                · exact .inr (List.mem_filter.mpr ⟨z, by simp [y]⟩)
      · rintro σ2 I3 H3 g3 e3 ⟨z5', F', rfl, mf', hF', fl'⟩
        rw [List.take_length] at hF'
        refine ⟨I3, g3, (e1.trans g2.i).trans e3, _, _, F', rfl, mf', fun q => ?_, by omega⟩
        rw [hF' q, hfx q, hF q]
        constructor
        · rintro (⟨j, hj, z⟩ | z)
          · exact ⟨j, by omega, z⟩
          · exact ⟨i, by omega, z⟩
        · rintro ⟨j, hj, z⟩
          by_cases e : j = i
          · subst e; exact .inr z
          · exact .inl ⟨j, by omega, z⟩
    · rintro σ1 I1 H1 g1 e1 ⟨z4, z5, F, rfl, mf, hF, fl⟩
      refine ⟨_, rfl, pf, F, rfl, sqH mf.h, fun l' p hperm _ np => ?_⟩
      exact q p _ _ l' (g1.trans (Gr.imm (o := .lst (l'.map vN)) g1.s np)) ⟨p, rfl, upd_same⟩ fun z => (hperm.mem_iff).trans (hF z)
end
end OC
namespace OC
open PySem PySem.Spec PyProof.Rows L2
/-- a search against the steps, from tp -/
structure Bf (G : Gm) (C : List Nat) (tp : Nat) (r : List (Option Nat)) (W : List Nat) (h : Nat) (rest : List Nat) : Prop where
  len : r.length = G.length
  zero : r[tp]? = some (some 0)
  inC : ∀ p d, r[p]? = some (some d) → p ∈ C
  near : ∀ p d, p ≠ tp → r[p]? = some (some d) → ∃ t d', Ed G p t ∧ t ∈ C ∧ r[t]? = some (some d') ∧ d' < d
  wt : ∀ y ∈ W, ∃ d, r[y]? = some (some d)
  done : ∀ y d, r[y]? = some (some d) → y ∈ W ∨ ∀ p ∈ C, Ed G p y → (∃ d', r[p]? = some (some d')) ∨ (y = h ∧ p ∈ rest)
structure Dist (G : Gm) (C : List Nat) (tp : Nat) (r : List (Option Nat)) : Prop where
  len : r.length = G.length
  zero : r[tp]? = some (some 0)
  all : ∀ p ∈ C, ∃ d, r[p]? = some (some d)
  near : ∀ p d, p ≠ tp → r[p]? = some (some d) → ∃ t d', Ed G p t ∧ t ∈ C ∧ r[t]? = some (some d') ∧ d' < d
noncomputable def bfM (n : Nat) (r : List (Option Nat)) (W : List Nat) : Nat := 2 * cnt n (fun x => r[x]? = some none) + W.length
section
variable {G : Gm} {C : List Nat} {tp : Nat} {r : List (Option Nat)} {W : List Nat} {h : Nat} {rest : List Nat}
theorem Bf.pop (b : Bf G C tp r (h :: W) h0 []) : Bf G C tp r W h C where
  len := b.len
  zero := b.zero
  inC := b.inC
  near := b.near
  wt := fun y hy => b.wt y (List.mem_cons_of_mem _ hy)
  done := fun y d hy => by
    rcases b.done y d hy with z | z
    · rcases List.mem_cons.mp z with e | e
      · exact .inr fun p hp _ => .inr ⟨e, hp⟩
      · exact .inl e
    · exact .inr fun p hp e => .inl ((z p hp e).elim id fun z => absurd z.2 (by simp))
theorem Bf.skip {p : Nat} (b : Bf G C tp r W h (p :: rest)) (hs : Ed G p h → ∃ d', r[p]? = some (some d')) : Bf G C tp r W h rest where
  len := b.len
  zero := b.zero
  inC := b.inC
  near := b.near
  wt := b.wt
  done := fun y d hy => by
    rcases b.done y d hy with z | z
    · exact .inl z
    · refine .inr fun q hq e => ?_
      rcases z q hq e with z | ⟨z1, z2⟩
      · exact .inl z
      · rcases List.mem_cons.mp z2 with e2 | z2
        · rw [z1, e2] at e
          rw [e2]
          exact .inl (hs e)
        · exact .inr ⟨z1, z2⟩
theorem Bf.put {p dh : Nat} (b : Bf G C tp r W h (p :: rest)) (hp : p ∈ C) (hl : p < G.length) (hn : r[p]? = some none) (hh : r[h]? = some (some dh)) (e : Ed G p h) : Bf G C tp (r.set p (some (dh + 1))) (W ++ [p]) h rest := by
  have at_p : (r.set p (some (dh + 1)))[p]? = some (some (dh + 1)) := by rw [List.getElem?_set, if_pos rfl, if_pos (by rw [b.len]; exact hl)]
  have other : ∀ q, q ≠ p → (r.set p (some (dh + 1)))[q]? = r[q]? := fun q hq => by rw [List.getElem?_set, if_neg (fun z => hq z.symm)]
  have keep : ∀ q d, r[q]? = some (some d) → (r.set p (some (dh + 1)))[q]? = some (some d) := fun q d hq => by rw [other q (fun z => by rw [z, hn] at hq; cases hq)]; exact hq
  refine ⟨by rw [List.length_set]; exact b.len, keep _ _ b.zero, fun q d hq => ?_, fun q d hne hq => ?_, fun y hy => ?_, fun y d hy => ?_⟩
  · by_cases c : q = p
    · rw [c]; exact hp
    · rw [other q c] at hq; exact b.inC q d hq
  · by_cases c : q = p
    · subst c
      rw [at_p] at hq
      have hq := Option.some.inj (Option.some.inj hq)
      exact ⟨h, dh, e, b.inC h dh hh, keep _ _ hh, by omega⟩
    · rw [other q c] at hq
      obtain ⟨t, d', h1, h2, h3, h4⟩ := b.near q d hne hq
      exact ⟨t, d', h1, h2, keep _ _ h3, h4⟩
  · rcases List.mem_append.mp hy with z | z
    · obtain ⟨d, hd⟩ := b.wt y z
      exact ⟨d, keep _ _ hd⟩
    · rw [List.mem_singleton.mp z]; exact ⟨_, at_p⟩
  · by_cases c : y = p
    · rw [c]; exact .inl (by simp)
    · rw [other y c] at hy
      rcases b.done y d hy with z | z
      · exact .inl (List.mem_append_left _ z)
      · refine .inr fun q hq e => ?_
        rcases z q hq e with ⟨d', z⟩ | ⟨z1, z2⟩
        · exact .inl ⟨d', keep _ _ z⟩
        · rcases List.mem_cons.mp z2 with e2 | z2
          · rw [e2]; exact .inl ⟨_, at_p⟩
          · exact .inr ⟨z1, z2⟩
theorem Bf.less {p dh : Nat} (b : Bf G C tp r W h (p :: rest)) (hl : p < G.length) (hn : r[p]? = some none) : bfM G.length (r.set p (some (dh + 1))) (W ++ [p]) < bfM G.length r W := by
  have at_p : (r.set p (some (dh + 1)))[p]? = some (some (dh + 1)) := by rw [List.getElem?_set, if_pos rfl, if_pos (by rw [b.len]; exact hl)]
  have : cnt G.length (fun x => (r.set p (some (dh + 1)))[x]? = some none) < cnt G.length (fun x => r[x]? = some none) := by
    refine cnt_lt (fun x _ hx => ?_) hl hn (by rw [at_p]; intro z; cases z)
    by_cases c : x = p
    · rw [c, at_p] at hx; cases hx
    · rw [List.getElem?_set, if_neg (fun z => c z.symm)] at hx; exact hx
  unfold bfM
  rw [List.length_append]
  show _ + (W.length + 1) < _
  omega
theorem Bf.fin (b : Bf G C tp r [] h []) (ht : ∀ p ∈ C, OkB G C p tp) : Dist G C tp r where
  len := b.len
  zero := b.zero
  near := b.near
  all := fun p hp => by
    have key : ∀ {u v}, OkB G C u v → u ∈ C → (∃ d, r[v]? = some (some d)) → ∃ d, r[u]? = some (some d) := by
      intro u v a
      have one : ∀ {u v}, Ed G u v → u ∈ C → (∃ d, r[v]? = some (some d)) → ∃ d, r[u]? = some (some d) := fun e hu ⟨d, hd⟩ => by
        rcases b.done _ d hd with z | z
        · cases z
        · exact (z _ hu e).elim id fun z => absurd z.2 (by simp)
      induction a with
      | one e s => exact one e
      | cons e s _ ih => exact fun hu hd => one e hu (ih s hd)
    exact key (ht p hp) hp ⟨0, b.zero⟩
end
section
variable {P : Program} {w : World} {K : PySem.W.Frag} {mg : Str → Option Value} {base : Heap} {k : Nat}
def spDist (K : PySem.W.Frag) : Sp := fun vs H Q _ => ∃ I G C tp x y, Same I H ∧ vs = [x, y, vN tp] ∧ (rG K).rel G x I ∧ rNs.rel C y I ∧ Wf G ∧ (∀ p ∈ C, p < G.length) ∧ tp ∈ C ∧ C.length ≤ 24 ∧ (∀ p ∈ C, OkB G C p tp) ∧
  ∀ v I' H' r, Gr I H I' H' → rSt.rel r v I' → Dist G C tp r → Q v H'
def wDi (H I : Hp) (G : Gm) (C : List Nat) (tp : Nat) (x y : V) (pf pw : Addr) (m : Nat) (σ : L2.St) (H1 : Hp) : Prop :=
  ∃ (I1 : Hp) (z5 z6 : Option V) (r : List (Option Nat)) (W : List Nat) (h : Nat), Gr I H I1 H1 ∧ σ = [some x, some y, some (vN tp), some (.ref pf), some (.ref pw), z5, z6, none] ∧ Mu H I1 H1 pf (.lst (r.map vO)) ∧ Mu H I1 H1 pw (.lst (W.map vN)) ∧ pf ≠ pw ∧ Bf G C tp r W h [] ∧ m = bfM G.length r W ∧ m ≤ 60
def iDi (H : Hp) (G : Gm) (C : List Nat) (tp : Nat) (x y : V) (pf pw : Addr) (h m : Nat) (i : Nat) (σ : L2.St) (I1 H1 : Hp) : Prop :=
  ∃ (z6 : Option V) (r : List (Option Nat)) (W : List Nat), σ = [some x, some y, some (vN tp), some (.ref pf), some (.ref pw), some (vN h), z6, none] ∧ Mu H I1 H1 pf (.lst (r.map vO)) ∧ Mu H I1 H1 pw (.lst (W.map vN)) ∧ Bf G C tp r W h (C.drop i) ∧ (∃ dh, r[h]? = some (some dh)) ∧ bfM G.length r W < m
theorem seq0 {n : Nat} : seqIndex? 0 (n + 1) = some 0 := by
  unfold seqIndex?
  simp
abbrev s_distances : Stmt := topS 37
theorem sc_distances : FnScope ["game", "places", "place", "found", "waiting", "here", "other", "one"] ["game", "places", "place"] (defScope s_distances) := ⟨rfl, rfl, rfl, by decide +kernel, rfl, by decide +kernel, by decide +kernel⟩
theorem c_distances (D : Dn K mg "distances" s_distances ["game", "places", "place"]) (c_targets : Cal P w K mg base "targets" k (spTargets K)) : Cal P w K mg base "distances" (k + 1) (spDist K) := by
  refine D.ok sc_distances (fun vs H Q E h => ?_) (fun f cdv A' outer s0 H vs Q E hr h => ?_)
  · obtain ⟨I, G, C, tp, x, y, _, rfl, _⟩ := h
    rfl
  · obtain ⟨I, G, C, tp, x, y, hs, rfl, hG, ⟨b, rfl, hb⟩, hw, hlt, htp, hl, hto, q⟩ := h
    refine ⟨_, (pss_cons (ps_setLc (i := 3) (own := [("one", 7)]) (g := gName 7) (by rfl) sc_distances.nd rfl rfl (sw_true rfl rfl rfl (by decide +kernel)) (pi_list (pv 0)) (blkOk_by (own := [("one", 7)]) (N := ["game", "places", "place", "found", "waiting", "here", "other", "one"]) (sc := defScope s_distances) (by decide +kernel)) (fun _ _ _ _ _ => (pg_name (i := 7) sc_distances.nd rfl (Or.inl rfl))) (fun _ _ _ _ _ => pts_nil) (fun _ _ _ _ _ => pe_non))
      (pss_cons (ps_asg pe_int (pg_sub (pv 3) (pv 2) set_N))
      (pss_cons (ps_set (i := 4) sc_distances.nd rfl (Or.inl rfl) (pe_lst (pa_cons (pv 2) pa_nil)))
      (pss_cons (ps_while PassesOwn.never (pt_truth (pv 4) (by intro _; rfl))
      (pss_cons (ps_set (i := 5) sc_distances.nd rfl (Or.inl rfl) (pe_bm PySem.F.plainAttrs_list PySem.F.slot_list_pop PySem.F.type_list_pop mt_popAt (pv 4) (pa_cons pe_int pa_nil)))
      (pss_one (ps_for PassesOwn.never rfl (pi_list (pv 1)) (pg_name (i := 6) sc_distances.nd rfl (Or.inl rfl))
      (pss_one (ps_if (PW.pt (pw_and (pt_cmpR op_isN (pe_ix (ix_N K) (pv 3) (pv 6) (fun _ _ => rfl)) pe_non (nomark _)) (pw_and1 (pt_cmpR (op_inN K) (pv 5) (pe_c c_targets hr (by rfl) (pa_cons (pv 0) (pa_cons (pv 6) pa_nil))) (by rfl)))))
      (pss_cons (ps_asg (pe_op op_add (pe_ix (ix_N K) (pv 3) (pv 5) (fun _ _ => rfl)) pe_int) (pg_sub (pv 3) (pv 6) set_N))
      (pss_one (ps_expr (pe_bm PySem.F.plainAttrs_list PySem.F.slot_list_append PySem.F.type_list_append mt_appN (pv 4) (pa_cons (pv 6) pa_nil))))) pss_nil))))))
      (pss_one (ps_ret (pv 3))))))), ?_⟩
    obtain ⟨a, xs, rfl, h1, h2⟩ := hG
    have clen := hw.len
    have tpn := hlt tp htp
    refine ⟨_, rfl, a, rfl, ⟨xs, sqH (hs _ _ h1)⟩, lc_flat (v := vO) (f := fun _ => true) (m := fun _ => none) (src_list h1 h2) hs (by omega) (fun e x I1 H1 he re g1 Qg kk => kk _ rfl (evYes g1.s) (fun I2 H2 g2 _ Q2 q2 => q2 _ I2 H2 (Gr.refl g2.s) rfl)) (fun pf I1 H1 g1 mf => ?_)⟩
    rw [filter_yes] at mf
    have e0 : (List.map vO (G.map fun _ => (none : Option Nat))).set tp (.int 0) = ((G.map fun _ => (none : Option Nat)).set tp (some 0)).map vO := set_vO (o := some 0)
    refine ⟨_, rfl, _, rfl, pf, _, tp, rfl, rfl, mf.h, by rw [List.length_map, List.length_map]; exact tpn, ?_⟩
    rw [e0]
    have g2 := g1.put (u := .lst (((G.map fun _ => (none : Option Nat)).set tp (some 0)).map vO)) mf
    have mf := mf.set (u := .lst (((G.map fun _ => (none : Option Nat)).set tp (some 0)).map vO))
    refine ⟨_, rfl, by show 1 ≤ sizeLine; decide, fun pw n2 => ?_⟩
    have g3 := g2.trans (Gr.mut (o := .lst [vN tp]) g2.s n2)
    have mw := Mu.new (o := .lst [vN tp]) g2 n2
    have nsw := mf.ne n2
    have mf := mf.up (Gr.mut (o := .lst [vN tp]) g2.s n2)
    have hr0 : ∀ p, p < G.length → (G.map fun _ => (none : Option Nat))[p]? = some none := fun p hp => by rw [List.getElem?_map, List.getElem?_eq_getElem hp]; rfl
    have r_tp : ((G.map fun _ => (none : Option Nat)).set tp (some 0))[tp]? = some (some 0) := by rw [List.getElem?_set, if_pos rfl, if_pos (by rw [List.length_map]; exact tpn)]
    have r_other : ∀ p d, p ≠ tp → ((G.map fun _ => (none : Option Nat)).set tp (some 0))[p]? = some (some d) → False := fun p d hp z => by
      rw [List.getElem?_set, if_neg (fun z => hp z.symm)] at z
      have hpn : p < G.length := by have := (List.getElem?_eq_some_iff.mp z).1; rw [List.length_map] at this; exact this
      rw [hr0 p hpn] at z
      cases z
    have b0 : Bf G C tp ((G.map fun _ => (none : Option Nat)).set tp (some 0)) [tp] tp [] := by
      refine ⟨by rw [List.length_set, List.length_map], r_tp, fun p d hp => ?_, fun p d hne hp => (r_other p d hne hp).elim, fun y hy => ⟨0, by rw [List.mem_singleton.mp hy]; exact r_tp⟩, fun y d hy => ?_⟩
      · by_cases c : p = tp
        · rw [c]; exact htp
        · exact (r_other p d c hp).elim
      · by_cases c : y = tp
        · rw [c]; exact .inl (by simp)
        · exact (r_other y d c hy).elim
    have m60 : bfM G.length ((G.map fun _ => (none : Option Nat)).set tp (some 0)) [tp] ≤ 60 := by
      have : cnt G.length (fun x => ((G.map fun _ => (none : Option Nat)).set tp (some 0))[x]? = some none) ≤ G.length := cnt_bound
      show 2 * _ + 1 ≤ 60
      omega
    refine ⟨wDi H I G C tp (.ref a) (.ref b) pf pw, ⟨_, I1, none, none, _, [tp], tp, g3, rfl, mf, mw, nsw, b0, rfl, m60⟩, fun m σ1 H3 inv => ?_⟩
    obtain ⟨I3, z5, z6, r, W, h0, g3, rfl, mf, mw, nsw, bf, hm, hm60⟩ := inv
    refine ⟨_, rfl, _, .inl ⟨_, sqH mw.h, rfl⟩, ?_⟩
    cases W with
    | nil => exact iteF ⟨_, rfl, q (.ref pf) _ H3 r (g3.stop mf) ⟨pf, rfl, upd_same⟩ ((Bf.fin bf hto))⟩
    | cons h W =>
      refine iteT ⟨fun σ' H' => ∃ m', m' < m ∧ wDi H I G C tp (.ref a) (.ref b) pf pw m' σ' H', fun _ _ h => h, ?_⟩
      obtain ⟨dh, hdh⟩ := bf.wt h List.mem_cons_self
      have bf := bf.pop
      have gp := g3.put (u := .lst (W.map vN)) mw
      have mfp := mf.other (u := .lst (W.map vN)) nsw
      have mwp := mw.set (u := .lst (W.map vN))
      refine ⟨_, rfl, .inl ⟨rfl, _, sqH mw.h⟩, pw, _, 0, 0, vN h, rfl, rfl, mw.h, by decide, by decide, by rw [List.map_cons, List.length_cons]; exact seq0, rfl, _, rfl, b, rfl, ⟨_, sqH (gp.s _ _ (gp.i _ _ hb))⟩, for_src (iDi H G C tp (.ref a) (.ref b) pf pw h m) (src_listF (gp.i _ _ hb)) gp ⟨z6, r, W, rfl, mfp, mwp, bf, ⟨dh, hdh⟩, ?_⟩ ?_ ?_⟩
      · rw [hm]
        unfold bfM
        rw [List.length_cons]
        omega
      · rintro i p xv σ2 I4 H4 I5 H5 hp g4 e4 ⟨z6', r', W', rfl, mf', mw', bf', ⟨dh', hdh'⟩, lt'⟩ g5 re
        have re : xv = vN p := re
        subst re
        have mf' := mf'.up g5
        have mw' := mw'.up g5
        have gg := g4.trans g5
        have hpC : p ∈ C := List.mem_of_getElem? hp
        have hpn := hlt p hpC
        have rlen := bf'.len
        rw [drop_at hp] at bf'
        have skip : (Ed G p h → ∃ d', r'[p]? = some (some d')) → ∀ I6 H6, Gr I5 H5 I6 H6 → Nx I H I3 (iDi H G C tp (.ref a) (.ref b) pf pw h m (i + 1)) [some (.ref a), some (.ref b), some (vN tp), some (.ref pf), some (.ref pw), some (vN h), some (vN p), none] H6 := fun hn I6 H6 g6 =>
          ⟨I6, gg.trans g6, (e4.trans g5.i).trans g6.i, _, r', W', rfl, mf'.up g6, mw'.up g6, bf'.skip hn, ⟨dh', hdh'⟩, lt'⟩
        obtain ⟨o, ho⟩ : ∃ o, r'[p]? = some o := ⟨r'[p]'(by omega), List.getElem?_eq_getElem (by omega)⟩
        refine ⟨_, rfl, _, rfl, pf, _, p, _, rfl, rfl, sqH mf'.h, get_map ho, ?_⟩
        cases o with
        | some d => exact ⟨rfl, _, rfl, iteF (iteF (skip (fun _ => ⟨d, ho⟩) I5 H5 (Gr.refl g5.s)))⟩
        | none =>
          refine ⟨rfl, _, rfl, iteT ⟨_, rfl, _, rfl, _, rfl, I5, G, p, _, gg.s, rfl, (rG K).up ⟨a, xs, rfl, h1, h2⟩ gg.i, hw, hpn, fun D6 I6 H6 g6 mu6 => ⟨D6, tsOf G p, h, rfl, rfl, sqH mu6.h, _, rfl, ite2 (fun c => ?_) (fun c => ?_)⟩⟩⟩
          · have hE : h ∈ tsOf G p := of_decide_eq_true c
            have mf6 := mf'.up g6
            have mw6 := mw'.up g6
            have e1 : (List.map vO r').set p (V.int ((dh' : Int) + 1)) = (r'.set p (some (dh' + 1))).map vO := set_vO (o := some (dh' + 1))
            refine ⟨_, rfl, _, rfl, pf, _, h, _, rfl, rfl, sqH mf6.h, get_map hdh', _, _, rfl, rfl, _, rfl, _, rfl, pf, _, p, rfl, rfl, mf6.h, by rw [List.length_map]; omega, ?_⟩
            rw [e1]
            have g7 := (gg.trans g6).put (u := .lst ((r'.set p (some (dh' + 1))).map vO)) mf6
            have mw7 := mw6.other (u := .lst ((r'.set p (some (dh' + 1))).map vO)) nsw.symm
            have mf7 := mf6.set (u := .lst ((r'.set p (some (dh' + 1))).map vO))
            have wl : W'.length < m := by unfold bfM at lt'; omega
            refine ⟨_, rfl, .inl ⟨rfl, _, sqH mw7.h⟩, _, rfl, pw, W', p, rfl, rfl, mw7.h, by omega, I6, g7.put mw7, (e4.trans g5.i).trans g6.i, _, _, _, rfl, mf7.other nsw, mw7.set, bf'.put hpC hpn ho hdh' hE, ?_, Nat.lt_trans (bf'.less hpn ho) lt'⟩
            by_cases c : h = p
            · rw [c] at hdh'; rw [hdh'] at ho; cases ho
            · exact ⟨dh', by rw [List.getElem?_set, if_neg (fun z => c z.symm)]; exact hdh'⟩
          · exact skip (fun z => absurd (decide_eq_true (show h ∈ tsOf G p from z)) c) I6 H6 g6
      · rintro σ2 I4 H4 g4 e4 ⟨z6', r', W', rfl, mf', mw', bf', _, lt'⟩
        rw [List.drop_length] at bf'
        exact ⟨_, lt', I4, _, _, r', W', h, g4, rfl, mf', mw', nsw, bf', rfl, by omega⟩
/-- a way back -/
structure Ret (G : Gm) (C : List Nat) (tp : Nat) (rank : Nat → Nat) (s : List (Option Nat)) : Prop where
  len : s.length = G.length
  mine : ∀ p ∈ C, kdOf G p ≠ .draw → ∃ b t, s[p]? = some (some b) ∧ (tsOf G p)[b]? = some t ∧ t ∈ C ∧ (p = tp ∨ rank t < rank p)
  free : ∀ p ∈ C, kdOf G p = .draw → s[p]? = some none ∧ ∀ t, Ed G p t → t ∈ C ∧ (p = tp ∨ rank t < rank p)
def Nr (C : List Nat) (tp : Nat) (r : List (Option Nat)) (p t : Nat) : Prop := t ∈ C ∧ (p = tp ∨ ∃ d d', r[t]? = some (some d) ∧ r[p]? = some (some d') ∧ d < d')
def rkOf (r : List (Option Nat)) (p : Nat) : Nat := (r[p]?.getD none).getD 0
theorem Nr.rk {C : List Nat} {tp : Nat} {r : List (Option Nat)} {p t : Nat} (h : Nr C tp r p t) : t ∈ C ∧ (p = tp ∨ rkOf r t < rkOf r p) :=
  ⟨h.1, h.2.imp id fun ⟨d, d', h1, h2, h3⟩ => by unfold rkOf; rw [h1, h2]; exact h3⟩
theorem Dist.some {G : Gm} {C : List Nat} {tp : Nat} {r : List (Option Nat)} (h : Dist G C tp r) (ht : ∀ p ∈ C, OkB G C p tp) {p : Nat} (hp : p ∈ C) : ∃ t, Ed G p t ∧ Nr C tp r p t := by
  by_cases c : p = tp
  · obtain ⟨t, e, h1, _⟩ := (ht p hp).first
    exact ⟨t, e, h1, .inl c⟩
  · obtain ⟨d, hd⟩ := h.all p hp
    obtain ⟨t, d', e, h1, h2, h3⟩ := h.near p d c hd
    exact ⟨t, e, h1, .inr ⟨d', d, h2, hd, h3⟩⟩
def spReturn (K : PySem.W.Frag) : Sp := fun vs H Q _ => ∃ I G C tp x y, Same I H ∧ vs = [x, y, vN tp] ∧ (rG K).rel G x I ∧ rNs.rel C y I ∧ Wf G ∧ (∀ p ∈ C, p < G.length) ∧ tp ∈ C ∧ C.length ≤ 24 ∧ (∀ p ∈ C, OkB G C p tp) ∧
  ∀ v I' H' s rank, Gr I H I' H' → rSt.rel s v I' → Ret G C tp rank s → Q v H'
/-- what is told so far -/
def RetQ (G : Gm) (C : List Nat) (tp : Nat) (r s : List (Option Nat)) (p : Nat) : Prop := ∃ b t, s[p]? = some (some b) ∧ (tsOf G p)[b]? = some t ∧ Nr C tp r p t
def iRe (H : Hp) (G : Gm) (C : List Nat) (tp : Nat) (r : List (Option Nat)) (x y : V) (pr pf : Addr) (i : Nat) (σ : L2.St) (I1 H1 : Hp) : Prop :=
  ∃ (z5 z6 z7 z8 : Option V) (s : List (Option Nat)), σ = [some x, some y, some (vN tp), some (.ref pr), some (.ref pf), z5, z6, z7, z8, none] ∧ Mu H I1 H1 pf (.lst (s.map vO)) ∧ s.length = G.length ∧
    (∀ p, p < G.length → s[p]? = some none ∨ (kdOf G p ≠ .draw ∧ RetQ G C tp r s p)) ∧ ∀ p ∈ C.take i, kdOf G p ≠ .draw → RetQ G C tp r s p
def jRe (H : Hp) (G : Gm) (C : List Nat) (tp : Nat) (r s : List (Option Nat)) (x y : V) (pr pf : Addr) (p : Nat) (i : Nat) (σ : L2.St) (I1 H1 : Hp) : Prop :=
  ∃ (z6 z7 z8 : Option V) (s' : List (Option Nat)), σ = [some x, some y, some (vN tp), some (.ref pr), some (.ref pf), some (vN p), z6, z7, z8, none] ∧ Mu H I1 H1 pf (.lst (s'.map vO)) ∧ s'.length = G.length ∧
    (∀ q, q ≠ p → s'[q]? = s[q]?) ∧ (RetQ G C tp r s' p ∨ (s'[p]? = some none ∧ ∀ t ∈ (tsOf G p).take i, ¬ Nr C tp r p t))
abbrev s_return_to : Stmt := topS 38
theorem sc_return_to : FnScope ["game", "places", "place", "far", "found", "here", "branch", "target", "nearer", "one"] ["game", "places", "place"] (defScope s_return_to) := ⟨rfl, rfl, rfl, by decide +kernel, rfl, by decide +kernel, by decide +kernel⟩
theorem c_return_to (D : Dn K mg "return_to" s_return_to ["game", "places", "place"]) (m_enumerate : mg "enumerate" = none) (c_distances : Cal P w K mg base "distances" k (spDist K)) (c_targets : Cal P w K mg base "targets" k (spTargets K)) : Cal P w K mg base "return_to" (k + 1) (spReturn K) := by
  refine D.ok sc_return_to (fun vs H Q E h => ?_) (fun f cdv A' outer s0 H vs Q E hr h => ?_)
  · obtain ⟨I, G, C, tp, x, y, _, rfl, _⟩ := h
    rfl
  · obtain ⟨I, G, C, tp, x, y, hs, rfl, hG, ⟨b, rfl, hb⟩, hw, hlt, htp, hl, hto, q⟩ := h
    refine ⟨_, (pss_cons (ps_set (i := 3) sc_return_to.nd rfl (Or.inl rfl) (pe_c c_distances hr (by rfl) (pa_cons (pv 0) (pa_cons (pv 1) (pa_cons (pv 2) pa_nil)))))
      (pss_cons (ps_setLc (i := 4) (own := [("one", 9)]) (g := gName 9) (by rfl) sc_return_to.nd rfl rfl (sw_true rfl rfl rfl (by decide +kernel)) (pi_list (pv 0)) (blkOk_by (own := [("one", 9)]) (N := ["game", "places", "place", "far", "found", "here", "branch", "target", "nearer", "one"]) (sc := defScope s_return_to) (by decide +kernel)) (fun _ _ _ _ _ => (pg_name (i := 9) sc_return_to.nd rfl (Or.inl rfl))) (fun _ _ _ _ _ => pts_nil) (fun _ _ _ _ _ => pe_non))
      (pss_cons (ps_for PassesOwn.never rfl (pi_list (pv 1)) (pg_name (i := 5) sc_return_to.nd rfl (Or.inl rfl))
      (pss_one (ps_if (pt_cmpR op_ne (pe_ix (ix_tupK K) (pe_ix (ix_N K) (pv 0) (pv 5) (fun _ _ => rfl)) pe_int (fun _ _ => rfl)) pe_str (nomark _))
      (pss_one (ps_for PassesOwn.never rfl (pi_enum (by rfl) m_enumerate (pa_cons (pe_c c_targets hr (by rfl) (pa_cons (pv 0) (pa_cons (pv 5) pa_nil))) pa_nil)) (pg_tup rfl (pgs_cons (pg_name (i := 6) sc_return_to.nd rfl (Or.inl rfl)) (pgs_cons (pg_name (i := 7) sc_return_to.nd rfl (Or.inl rfl)) pgs_nil)))
      (pss_cons (ps_set (i := 8) sc_return_to.nd rfl (Or.inl rfl) (pe_and (pe_cmpR (op_inN K) (pv 7) (pv 1) (by rfl)) (pe_one (pe_or (pe_cmpR op_eq (pv 5) (pv 2) (nomark _)) (pe_one (pe_cmpR op_lt (pe_ix (ix_N K) (pv 3) (pv 7) (fun _ _ => rfl)) (pe_ix (ix_N K) (pv 3) (pv 5) (fun _ _ => rfl)) (nomark _)))))))
      (pss_one (ps_if (PW.pt (pw_and (pt_val (pv 8)) (pw_and1 (pt_cmpR op_isN (pe_ix (ix_N K) (pv 4) (pv 5) (fun _ _ => rfl)) pe_non (nomark _)))))
      (pss_one (ps_asg (pv 6) (pg_sub (pv 4) (pv 5) set_N))) pss_nil))))) pss_nil)))
      (pss_one (ps_ret (pv 4)))))), ?_⟩
    have clen := hw.len
    refine ⟨_, rfl, _, rfl, _, rfl, I, G, C, tp, x, _, hs, rfl, hG, ⟨b, rfl, hb⟩, hw, hlt, htp, hl, hto, fun v I1 H1 r g1 ⟨pr, e, hpr⟩ hd => ?_⟩
    subst e
    obtain ⟨a, xs, rfl, h1, h2⟩ := hG
    refine ⟨_, rfl, a, rfl, ⟨xs, sqH (g1.s _ _ (g1.i _ _ h1))⟩, lc_flat (v := vO) (f := fun _ => true) (m := fun _ => none) (src_list (g1.i _ _ h1) (paired_up h2 g1.i)) g1.s (by omega) (fun e x I1 H1 he re g1 Qg kk => kk _ rfl (evYes g1.s) (fun I2 H2 g2 _ Q2 q2 => q2 _ I2 H2 (Gr.refl g2.s) rfl)) (fun pf I2 H2 g2 mf => ?_)⟩
    rw [filter_yes] at mf
    have mf : Mu H I2 H2 pf (.lst ((G.map fun _ => (none : Option Nat)).map vO)) := ⟨g1.h.free mf.b, mf.i, mf.h⟩
    have gg := g1.trans g2
    have hr0 : ∀ p, p < G.length → (G.map fun _ => (none : Option Nat))[p]? = some none := fun p hp => by rw [List.getElem?_map, List.getElem?_eq_getElem hp]; rfl
    refine ⟨_, rfl, b, rfl, ⟨_, sqH (gg.s _ _ (gg.i _ _ hb))⟩, for_src (iRe H G C tp r (.ref a) (.ref b) pr pf) (src_listF (gg.i _ _ hb)) gg ⟨none, none, none, none, _, rfl, mf, List.length_map _, fun p hp => .inl (hr0 p hp), fun p hp => absurd hp (by simp)⟩ ?_ ?_⟩
    · rintro i p xv σ1 I3 H3 I4 H4 hp g3 e3 ⟨z5, z6, z7, z8, s, rfl, mf, sl, hex, hdo⟩ g4 re
      have re : xv = vN p := re
      subst re
      have hpC : p ∈ C := List.mem_of_getElem? hp
      have hpn := hlt p hpC
      have mf := mf.up g4
      have gg4 := g3.trans g4
      have e4 := e3.trans g4.i
      have tk : ∀ {q}, q ∈ C.take (i + 1) → q ∈ C.take i ∨ q = p := fun {q} hq => by
        rw [List.take_add_one, hp] at hq
        exact (List.mem_append.mp hq).imp id fun z => List.mem_singleton.mp z
      obtain ⟨a', xs', d, cc, e, p1, p2, p3, _⟩ := place_at ((rG K).up ⟨a, xs, rfl, h1, h2⟩ gg4.i) gg4.s hpn
      cases e
      refine ⟨_, rfl, _, rfl, a, xs', p, _, rfl, rfl, p1, p2, d, _, 1, _, rfl, rfl, p3, rfl, rfl, _, rfl, ite2 (fun c => ?_) (fun c => ?_)⟩
      · have hk : kdOf G p ≠ .draw := fun z => by rw [z] at c; exact absurd c (by decide)
        refine ⟨_, rfl, _, rfl, I4, G, p, _, gg4.s, rfl, (rG K).up ⟨a, xs, rfl, h1, h2⟩ gg4.i, hw, hpn, fun D5 I5 H5 g5 mu5 => ?_⟩
        have gs := g5.stop mu5
        have mf5 := mf.up gs
        have gg5 := gg4.trans gs
        refine ⟨D5, _, rfl, sqH mu5.h, for_src (jRe H G C tp r s (.ref a) (.ref b) pr pf p) (src_enum (r := rF vN) (l := tsOf G p) upd_same paired_of) gg5 ⟨z6, z7, z8, s, rfl, mf5, sl, fun _ _ => rfl, ?_⟩ ?_ ?_⟩
        · rcases hex p hpn with z | z
          · exact .inr ⟨z, fun t ht => absurd ht (by simp)⟩
          · exact .inl z.2
        · rintro j e xv σ2 I6 H6 I7 H7 he g6 e6 ⟨z6', z7', z8', s', rfl, mf', sl', hot, hst⟩ g7 re
          obtain ⟨he1, he2⟩ := of_enumL he
          have mf' := mf'.up g7
          have gg7 := g6.trans g7
          have e7 := (e4.trans gs.i).trans (e6.trans g7.i)
          have tkj : ∀ {q}, q ∈ (tsOf G p).take (j + 1) → q ∈ (tsOf G p).take j ∨ q = e.2 := fun {q} hq => by
            rw [List.take_add_one, he2] at hq
            exact (List.mem_append.mp hq).imp id fun z => List.mem_singleton.mp z
          refine gPair re g7.s fun y1 y2 r1 r2 => ?_
          have r1 : y1 = vN j := by rw [← he1]; exact r1
          have r2 : y2 = vN e.2 := r2
          subst r1 r2
          generalize e.2 = t at he2 tkj
          have hbH := gg7.s _ _ (gg7.i _ _ hb)
          have hrH := gg7.s _ _ ((g2.i.trans e7) _ _ hpr)
          have skip : ∀ z8, (RetQ G C tp r s' p ∨ (s'[p]? = some none ∧ ¬ Nr C tp r p t)) → Nx I H (upd I5 D5 (.lst ((tsOf G p).map vN))) (jRe H G C tp r s (.ref a) (.ref b) pr pf p (j + 1)) [some (.ref a), some (.ref b), some (vN tp), some (.ref pr), some (.ref pf), some (vN p), some (vN j), some (vN t), z8, none] H7 := fun z8 hn =>
            ⟨I7, gg7, e6.trans g7.i, _, _, _, s', rfl, mf', sl', hot, by
              rcases hst with z | ⟨z1, z2⟩
              · exact .inl z
              · rcases hn with z | ⟨z3, z4⟩
                · exact .inl z
                · exact .inr ⟨z1, fun q hq => (tkj hq).elim (fun z => z2 q z) fun z => z ▸ z4⟩⟩
          have no : ∀ z8, ¬ Nr C tp r p t → Nx I H (upd I5 D5 (.lst ((tsOf G p).map vN))) (jRe H G C tp r s (.ref a) (.ref b) pr pf p (j + 1)) [some (.ref a), some (.ref b), some (vN tp), some (.ref pr), some (.ref pf), some (vN p), some (vN j), some (vN t), z8, none] H7 := fun z8 hn =>
            skip z8 (hst.elim .inl fun z => .inr ⟨z.1, hn⟩)
          have put : ∀ z8, Nr C tp r p t → Nx I H (upd I5 D5 (.lst ((tsOf G p).map vN))) (jRe H G C tp r s (.ref a) (.ref b) pr pf p (j + 1)) [some (.ref a), some (.ref b), some (vN tp), some (.ref pr), some (.ref pf), some (vN p), some (vN j), some (vN t), z8, none] (upd H7 pf (.lst ((s'.map vO).set p (vN j)))) := fun z8 hn => by
            have e1 : (s'.map vO).set p (vN j) = (s'.set p (some j)).map vO := set_vO (o := some j)
            rw [e1]
            exact ⟨I7, gg7.put mf', e6.trans g7.i, _, _, _, _, rfl, mf'.set, by rw [List.length_set]; exact sl', fun q hq => by rw [List.getElem?_set, if_neg (fun z => hq z.symm)]; exact hot q hq, .inl ⟨j, t, by rw [List.getElem?_set, if_pos rfl, if_pos (by omega)], he2, hn⟩⟩
          obtain ⟨o, ho⟩ : ∃ o, s'[p]? = some o := ⟨s'[p]'(by omega), List.getElem?_eq_getElem (by omega)⟩
          refine ⟨_, rfl, _, rfl, b, C, t, rfl, rfl, sqH hbH, _, rfl, ite2 (fun c1 => ?_) (fun c1 => ?_)⟩
          · have c1 : t ∈ C := of_decide_eq_true c1
            refine ⟨_, rfl, _, rfl, rfl, _, rfl, ite2 (fun c2 => ?_) (fun c2 => ?_)⟩
            · have c2 : p = tp := vN_inj (of_decide_eq_true c2)
              have hn : Nr C tp r p t := ⟨c1, .inl c2⟩
              refine ⟨_, rfl, _, rfl, iteT ⟨_, rfl, _, rfl, pf, _, p, _, rfl, rfl, sqH mf'.h, get_map ho, ?_⟩⟩
              cases o with
              | none => exact ⟨rfl, _, rfl, iteT ⟨_, rfl, _, rfl, _, rfl, pf, _, p, rfl, rfl, mf'.h, by rw [List.length_map]; omega, put _ hn⟩⟩
              | some d => exact ⟨rfl, _, rfl, iteF (skip _ (.inl (hst.elim id fun z => by rw [z.1] at ho; cases ho)))⟩
            · have c2 : p ≠ tp := fun z => c2 (decide_eq_true (by rw [z]))
              obtain ⟨dt, hdt⟩ := hd.all t c1
              obtain ⟨dp, hdp⟩ := hd.all p hpC
              refine ⟨_, rfl, _, rfl, pr, _, t, _, rfl, rfl, sqH hrH, get_map hdt, _, rfl, _, rfl, pr, _, p, _, rfl, rfl, sqH hrH, get_map hdp, _, _, rfl, rfl, _, rfl, _, rfl, ite2 (fun c3 => ?_) (fun c3 => ?_)⟩
              · have c3 : dt < dp := Int.ofNat_lt.mp (of_decide_eq_true c3)
                have hn : Nr C tp r p t := ⟨c1, .inr ⟨dt, dp, hdt, hdp, c3⟩⟩
                refine ⟨_, rfl, _, rfl, pf, _, p, _, rfl, rfl, sqH mf'.h, get_map ho, ?_⟩
                cases o with
                | none => exact ⟨rfl, _, rfl, iteT ⟨_, rfl, _, rfl, _, rfl, pf, _, p, rfl, rfl, mf'.h, by rw [List.length_map]; omega, put _ hn⟩⟩
                | some d => exact ⟨rfl, _, rfl, iteF (skip _ (.inl (hst.elim id fun z => by rw [z.1] at ho; cases ho)))⟩
              · have c3 : ¬ dt < dp := fun z => c3 (decide_eq_true (Int.ofNat_lt.mpr z))
                refine iteF (no _ fun hn => ?_)
                rcases hn.2 with z | ⟨d1, d2, h1, h2, h3⟩
                · exact c2 z
                · rw [hdt] at h1
                  rw [hdp] at h2
                  cases h1
                  cases h2
                  exact c3 h3
          · have c1 : t ∉ C := fun z => c1 (decide_eq_true z)
            exact ⟨_, rfl, _, rfl, iteF (iteF (no _ fun hn => c1 hn.1))⟩
        · rintro σ2 I6 H6 g6 e6 ⟨z6', z7', z8', s', rfl, mf', sl', hot, hst⟩
          rw [enumL_len, List.take_length] at hst
          have good : RetQ G C tp r s' p := hst.elim id fun z => by
            obtain ⟨t, e, hN⟩ := hd.some hto hpC
            exact absurd hN (z.2 t e)
          refine ⟨I6, g6, (e4.trans gs.i).trans e6, _, _, _, _, s', rfl, mf', sl', fun o ho => ?_, fun o ho hk' => ?_⟩
          · by_cases c : o = p
            · rw [c]; exact .inr ⟨hk, good⟩
            · unfold RetQ
              rw [hot o c]
              exact hex o ho
          · by_cases c : o = p
            · rw [c]; exact good
            · have := hdo o ((tk ho).elim id fun z => absurd z c) hk'
              unfold RetQ at this ⊢
              rw [hot o c]
              exact this
      · have hk : kdOf G p = .draw := Classical.byContradiction fun z => c (by
          revert z
          cases kdOf G p with
          | draw => exact fun z => absurd rfl z
          | ours => exact fun _ => by decide
          | theirs => exact fun _ => by decide)
        exact ⟨I4, gg4, e4, _, _, _, _, s, rfl, mf, sl, hex, fun o ho hk' => (tk ho).elim (fun z => hdo o z hk') fun z => absurd hk (z ▸ hk')⟩
    · rintro σ1 I3 H3 g3 e3 ⟨z5, z6, z7, z8, s, rfl, mf, sl, hex, hdo⟩
      rw [List.take_length] at hdo
      refine ⟨_, rfl, q (.ref pf) _ H3 s (rkOf r) (g3.stop mf) ⟨pf, rfl, upd_same⟩ ⟨sl, fun p hp hk => ?_, fun p hp hk => ⟨(hex p (hlt p hp)).elim id fun z => absurd hk z.1, fun t e => ?_⟩⟩⟩
      · obtain ⟨b', t, h1, h2, h3⟩ := hdo p hp hk
        exact ⟨b', t, h1, h2, h3.rk⟩
      · obtain ⟨t', e', hN⟩ := hd.some hto hp
        have h1 := hw.one p (hlt p hp) hk
        have : t = t' := by
          unfold Ed at e e'
          match hts : tsOf G p, h1 with
          | [z], _ => rw [hts] at e e'; rw [List.mem_singleton.mp e, List.mem_singleton.mp e']
        rw [this]
        exact hN.rk
end
end OC
namespace OC
open PySem PySem.Spec PyProof.Rows L2
/-- the next place, by a strategy -/
def fN (G : Gm) (s : List (Option Nat)) (p : Nat) : Nat := if kdOf G p = .draw then ((tsOf G p)[0]?).getD 0 else tgOf G s p
section
variable {G : Gm} {L : List Nat} {s s' way : List (Option Nat)} {m : Nat} {c : List Nat} {p q t : Nat}
theorem fN_same (h : s'[p]? = s[p]?) : fN G s' p = fN G s p := by
  unfold fN tgOf brOf
  rw [h]
theorem fN_draw (w : Wf G) (hp : p < G.length) (hk : kdOf G p = .draw) : Ed G p (fN G s p) := by
  unfold fN Ed
  rw [if_pos hk]
  have h1 := w.one p hp hk
  match hts : tsOf G p, h1 with
  | [z], _ => simp
theorem fN_br {b : Nat} (hk : kdOf G p ≠ .draw) (h : s[p]? = some (some b)) (ht : (tsOf G p)[b]? = some t) : fN G s p = t := by
  unfold fN tgOf brOf
  rw [if_neg hk, h]
  show ((tsOf G p)[b]?).getD 0 = t
  rw [ht]
  rfl
/-- within a class -/
theorem okB_cls (hc : ∀ o, o ∈ c ↔ Mut2 G L p o) {u v : Nat} (a : OkB G L u v) : OkB G L p u → OkB G L v p → OkB G c u v := by
  induction a with
  | one h s => exact fun h1 h2 => .one h ((hc _).mpr ⟨h1.snoc h s, h2⟩)
  | cons h s r ih => exact fun h1 h2 => .cons h ((hc _).mpr ⟨h1.snoc h s, r.trans h2⟩) (ih (h1.snoc h s) h2)
theorem cls_to (hc : ∀ o, o ∈ c ↔ Mut2 G L p o) (ht : t ∈ c) : ∀ u ∈ c, OkB G c u t := fun u hu => okB_cls hc (((hc u).mp hu).symm.trans ((hc t).mp ht)).1 ((hc u).mp hu).1 ((hc t).mp ht).2
/-- what is kept so far; D0: before this mark -/
structure Kp (G : Gm) (M : Nat) (s : List (Option Nat)) (D0 Dn : List Nat) : Prop where
  len : s.length = G.length
  br : ∀ p ∈ Dn, kdOf G p ≠ .draw → ∃ b t, s[p]? = some (some b) ∧ (tsOf G p)[b]? = some t
  lt : ∀ p ∈ Dn, p < G.length
  sub : ∀ p ∈ D0, p ∈ Dn
  low : ∀ p ∈ D0, mkOf G p < M
  cert : ∃ st tp ds, Cert (fN G s) (mkOf G) 1 (fun p => p ∈ Dn) st tp ds ∧ (∀ p ∈ D0, st p < M) ∧ ∀ p ∈ Dn, st p ≤ M
theorem Kp.next {D0 Dn : List Nat} (h : Kp G M s D0 Dn) (hl : ∀ p ∈ Dn, mkOf G p ≤ M) : Kp G (M + 2) s Dn Dn := by
  obtain ⟨st, tp, ds, h1, h2, h3⟩ := h.cert
  exact ⟨h.len, h.br, h.lt, fun _ hp => hp, fun p hp => by have := hl p hp; omega, st, tp, ds, h1, fun p hp => by have := h3 p hp; omega, fun p hp => by have := h3 p hp; omega⟩
/-- a company more: Ls: those before it -/
theorem Kp.add {D0 Dn Dn' : List Nat} {Ls : List (List Nat)} (w : Wf G) (h : Kp G m s D0 Dn) (hm : m % 2 = 1) (hL : ∀ p ∈ L, p < G.length ∧ mkOf G p ≤ m)
    (hmem : ∀ q, q ∈ Dn ↔ q ∈ D0 ∨ ∃ c ∈ Ls, (∃ t ∈ c, mkOf G t = m) ∧ q ∈ c) (hLs : ∀ c ∈ Ls, ∃ p, ∀ o, o ∈ c ↔ Mut2 G L p o) (hc : ∀ o, o ∈ c ↔ Mut2 G L p o) (ht : t ∈ c) (mt : mkOf G t = m)
    {rank : Nat → Nat} (hret : Ret G c t rank way) (hlen : s'.length = G.length) (hold : ∀ q, (q ∈ Dn ∨ q ∉ c) → s'[q]? = s[q]?) (hnew : ∀ q, q ∈ c → q ∉ Dn → s'[q]? = way[q]?) (hDn : ∀ q, q ∈ Dn' ↔ q ∈ Dn ∨ q ∈ c) : Kp G m s' D0 Dn' := by
  obtain ⟨st, tp, ds, h1, h2, h3⟩ := h.cert
  have same : ∀ c' ∈ Ls, ∀ q ∈ c', q ∈ c → ∀ o, o ∈ c → o ∈ c' := fun c' hc' q hq hq' o ho => by
    obtain ⟨p', hp'⟩ := hLs c' hc'
    exact (hp' o).mpr (((hp' q).mp hq).trans (((hc q).mp hq').symm.trans ((hc o).mp ho)))
  have cL : ∀ q ∈ c, q < G.length ∧ mkOf G q ≤ m := fun q hq => hL q ((hc q).mp hq).mem
  have hf : ∀ q, q ∈ Dn → fN G s' q = fN G s q := fun q hq => fN_same (hold q (.inl hq))
  refine ⟨hlen, fun q hq hk => ?_, fun q hq => ((hDn q).mp hq).elim (h.lt q) fun z => (cL q z).1, fun q hq => (hDn q).mpr (.inl (h.sub q hq)), h.low, ?_⟩
  · by_cases c1 : q ∈ Dn
    · obtain ⟨b, t', e1, e2⟩ := h.br q c1 hk
      exact ⟨b, t', by rw [hold q (.inl c1)]; exact e1, e2⟩
    · have c2 : q ∈ c := ((hDn q).mp hq).resolve_left c1
      obtain ⟨b, t', e1, e2, _⟩ := hret.mine q c2 hk
      exact ⟨b, t', by rw [hnew q c2 c1]; exact e1, e2⟩
  · by_cases nt : t ∈ Dn
    · have all : ∀ q, q ∈ Dn ↔ q ∈ Dn' := fun q => by
        rw [hDn q]
        refine ⟨.inl, fun z => z.elim id fun hq => ?_⟩
        rcases (hmem t).mp nt with z | ⟨c', hc', htop, z⟩
        · have := h.low t z; omega
        · exact (hmem q).mpr (.inr ⟨c', hc', htop, same c' hc' t z ht q hq⟩)
      exact ⟨st, tp, ds, (h1.congr hf).same all, h2, fun q hq => h3 q ((all q).mpr hq)⟩
    · have old : ∀ q, q ∈ c → q ∈ Dn → st q < m := fun q hq hq' => by
        rcases (hmem q).mp hq' with z | ⟨c', hc', htop, z⟩
        · exact h2 q z
        · exact absurd ((hmem t).mpr (.inr ⟨c', hc', htop, same c' hc' q z hq t ht⟩)) nt
      have hC : ∀ q, q ∈ c → ¬ q ∈ Dn → fN G s' q ∈ c ∧ (q = t ∨ rank (fN G s' q) < rank q) := fun q hq hn => by
        by_cases hk : kdOf G q = .draw
        · exact (hret.free q hq hk).2 _ (fN_draw w (cL q hq).1 hk)
        · obtain ⟨b, t', e1, e2, e3⟩ := hret.mine q hq hk
          rw [fN_br hk (by rw [hnew q hq hn]; exact e1) e2]
          exact e3
      have := h1.add (C := fun q => q ∈ c) (t := t) (m := m) (far := rank) hf hC (fun q hq => (cL q hq).2) ht mt nt old hm
      refine ⟨_, _, _, this.same fun q => (hDn q).symm, fun q hq => ?_, fun q hq => ?_⟩
      · simp only [h.sub q hq, if_true]; exact h2 q hq
      · by_cases c1 : q ∈ Dn
        · simp only [c1, if_true]; exact h3 q c1
        · simp only [c1, if_false]; exact Nat.le_refl _
theorem fx_tops {Ls : List (List Nat)} (cp : Comp G (low G L m) Ls) (q : Nat) : (∃ c ∈ Ls, (∃ t ∈ c, mkOf G t = m) ∧ q ∈ c) ↔ Fx1 G L m q := by
  constructor
  · rintro ⟨c, hc, ⟨t, ht, e⟩, hq⟩
    obtain ⟨p, h1, h2⟩ := cp.cls c hc
    exact ⟨t, e, ((h2 t).mp ht).symm.trans ((h2 q).mp hq)⟩
  · rintro ⟨t, e, h⟩
    obtain ⟨c, hc, ht⟩ := cp.all t h.self
    obtain ⟨p, h1, h2⟩ := cp.cls c hc
    exact ⟨c, hc, ⟨t, ht, e⟩, (h2 q).mpr (((h2 t).mp ht).trans h)⟩
end
theorem rgV_nat {n : Nat} : rgV 0 (n : Int) = (List.range n).map vN := by
  unfold rgV
  have : ((n : Int) - 0).toNat = n := by omega
  rw [this]
  refine List.map_congr_left (fun i _ => ?_)
  show V.int (0 + (i : Int)) = V.int i
  rw [Int.zero_add]
section
variable {P : Program} {w : World} {K : PySem.W.Frag} {mg : Str → Option Value} {base : Heap} {k : Nat}
def spKeep (K : PySem.W.Frag) : Sp := fun vs H Q _ => ∃ I G x, Same I H ∧ vs = [x, .str "theirs"] ∧ (rG K).rel G x I ∧ Wf G ∧
  ∀ D I' H' (s : List (Option Nat)) Dn, Gr I H I' H' → Mu H I' H' D (.lst (s.map vO)) → Kp G 11 s Dn Dn → (∀ q, q ∈ Dn ↔ Fxd G q) → Q (.ref D) H'
def iKp (H : Hp) (G : Gm) (x : V) (pe ps pd : Addr) (i : Nat) (σ : L2.St) (I1 H1 : Hp) : Prop :=
  ∃ (z3 z6 z7 z8 z9 z10 : Option V) (s : List (Option Nat)) (Dn : List Nat), σ = [some x, some (.str "theirs"), some (.ref pe), z3, some (.ref ps), some (.ref pd), z6, z7, z8, z9, z10] ∧ Mu H I1 H1 ps (.lst (s.map vO)) ∧ Mu H I1 H1 pd (.lst (Dn.map vN)) ∧
    Kp G (1 + 2 * i) s Dn Dn ∧ (∀ q, q ∈ Dn ↔ ∃ j, j < i ∧ Fx1 G (List.range G.length) (1 + 2 * j) q) ∧ Dn.length ≤ 576 * i
def jKp (H : Hp) (G : Gm) (x : V) (pe ps pd pl : Addr) (m : Nat) (Ls : List (List Nat)) (D0 : List Nat) (j : Nat) (σ : L2.St) (I1 H1 : Hp) : Prop :=
  ∃ (z3 z8 z9 z10 : Option V) (s : List (Option Nat)) (Dn : List Nat), σ = [some x, some (.str "theirs"), some (.ref pe), z3, some (.ref ps), some (.ref pd), some (vN m), some (.ref pl), z8, z9, z10] ∧ Mu H I1 H1 ps (.lst (s.map vO)) ∧ Mu H I1 H1 pd (.lst (Dn.map vN)) ∧
    Kp G m s D0 Dn ∧ (∀ q, q ∈ Dn ↔ q ∈ D0 ∨ ∃ c ∈ Ls.take j, (∃ t ∈ c, mkOf G t = m) ∧ q ∈ c) ∧ Dn.length ≤ D0.length + 24 * j
def lKp (H : Hp) (G : Gm) (x : V) (pe ps pd pl pc pt pw : Addr) (m : Nat) (c D1 : List Nat) (s0 way : List (Option Nat)) (l : Nat) (σ : L2.St) (I1 H1 : Hp) : Prop :=
  ∃ (z3 : Option V) (s : List (Option Nat)) (Dn : List Nat), σ = [some x, some (.str "theirs"), some (.ref pe), z3, some (.ref ps), some (.ref pd), some (vN m), some (.ref pl), some (.ref pc), some (.ref pt), some (.ref pw)] ∧ Mu H I1 H1 ps (.lst (s.map vO)) ∧ Mu H I1 H1 pd (.lst (Dn.map vN)) ∧
    s.length = G.length ∧ (∀ q, (q ∈ D1 ∨ q ∉ c.take l) → s[q]? = s0[q]?) ∧ (∀ q, q ∈ c.take l → q ∉ D1 → s[q]? = way[q]?) ∧ (∀ q, q ∈ Dn ↔ q ∈ D1 ∨ q ∈ c.take l) ∧ Dn.length ≤ D1.length + l
abbrev s_keeping : Stmt := topS 41
theorem sc_keeping : FnScope ["left", "side", "every", "place", "strategy", "done", "mark", "within", "company", "tops", "way"] ["left", "side"] (defScope s_keeping) := ⟨rfl, rfl, rfl, by decide +kernel, rfl, by decide +kernel, by decide +kernel⟩
theorem c_keeping (D : Dn K mg "keeping" s_keeping ["left", "side"]) (m_range : mg "range" = none) (m_list : mg "list" = none) (m_len : mg "len" = none) (c_greatest_companies : Cal P w K mg base "greatest_companies" k (spGreatC K)) (c_return_to : Cal P w K mg base "return_to" k (spReturn K)) : Cal P w K mg base "keeping" (k + 1) (spKeep K) := by
  refine D.ok sc_keeping (fun vs H Q E h => ?_) (fun f cdv A' outer s0 H vs Q E hr h => ?_)
  · obtain ⟨I, G, x, _, rfl, _⟩ := h
    rfl
  · obtain ⟨I, G, x, hs, rfl, ⟨a, xs, rfl, h1, h2⟩, hw, q⟩ := h
    refine ⟨_, (pss_cons (ps_set (i := 2) sc_keeping.nd rfl (Or.inl rfl) (pe_listRg rfl (by rfl) m_list (prg_1 (by rfl) m_range (pe_callB call_len_seq (by rfl) m_len PySem.boot_len (pa_cons (pv 0) pa_nil)))))
      (pss_cons (ps_setLc (i := 4) (own := [("place", 3)]) (g := gName 3) (by rfl) sc_keeping.nd rfl rfl (sw_true rfl rfl rfl (by decide +kernel)) (pi_list (pv 0)) (blkOk_by (own := [("place", 3)]) (N := ["left", "side", "every", "place", "strategy", "done", "mark", "within", "company", "tops", "way"]) (sc := defScope s_keeping) (by decide +kernel)) (fun _ _ _ _ _ => (pg_name (i := 3) sc_keeping.nd rfl (Or.inl rfl))) (fun _ _ _ _ _ => pts_nil) (fun _ _ _ _ _ => pe_non))
      (pss_cons (ps_set (i := 5) sc_keeping.nd rfl (Or.inl rfl) (pe_lst pa_nil))
      (pss_cons (ps_for PassesOwn.never rfl (pi_range3 (by rfl) m_range (pa_cons (pe_ifExp (pt_cmpR op_eq (pv 1) pe_str (nomark _)) pe_int pe_int) (pa_cons pe_int (pa_cons pe_int pa_nil)))) (pg_name (i := 6) sc_keeping.nd rfl (Or.inr rfl))
      (pss_cons (ps_setLc (i := 7) (own := [("place", 3)]) (g := gName 3) (by rfl) sc_keeping.nd rfl rfl (sw_true rfl rfl rfl (by decide +kernel)) (pi_list (pv 2)) (blkOk_by (own := [("place", 3)]) (N := ["left", "side", "every", "place", "strategy", "done", "mark", "within", "company", "tops", "way"]) (sc := defScope s_keeping) (by decide +kernel)) (fun _ _ _ _ _ => (pg_name (i := 3) sc_keeping.nd rfl (Or.inl rfl))) (fun _ _ _ _ _ => pts_one (pt_cmpR op_le (pe_ix (ix_tupK K) (pe_ix (ix_N K) (pv 0) (pv 3) (fun _ _ => rfl)) pe_int (fun _ _ => rfl)) (pv 6) (nomark _))) (fun _ _ _ _ _ => (pv 3)))
      (pss_one (ps_for PassesOwn.never rfl (pi_list (pe_c c_greatest_companies hr (by rfl) (pa_cons (pv 0) (pa_cons (pv 7) pa_nil)))) (pg_name (i := 8) sc_keeping.nd rfl (Or.inl rfl))
      (pss_cons (ps_setLc (i := 9) (own := [("place", 3)]) (g := gName 3) (by rfl) sc_keeping.nd rfl rfl (sw_true rfl rfl rfl (by decide +kernel)) (pi_list (pv 8)) (blkOk_by (own := [("place", 3)]) (N := ["left", "side", "every", "place", "strategy", "done", "mark", "within", "company", "tops", "way"]) (sc := defScope s_keeping) (by decide +kernel)) (fun _ _ _ _ _ => (pg_name (i := 3) sc_keeping.nd rfl (Or.inl rfl))) (fun _ _ _ _ _ => pts_one (pt_cmpR op_eq (pe_ix (ix_tupK K) (pe_ix (ix_N K) (pv 0) (pv 3) (fun _ _ => rfl)) pe_int (fun _ _ => rfl)) (pv 6) (nomark _))) (fun _ _ _ _ _ => (pv 3)))
      (pss_one (ps_if (pt_truth (pv 9) (by intro _; rfl))
      (pss_cons (ps_set (i := 10) sc_keeping.nd rfl (Or.inl rfl) (pe_c c_return_to hr (by rfl) (pa_cons (pv 0) (pa_cons (pv 8) (pa_cons (pe_ix (ix_N K) (pv 9) pe_int (fun _ _ => rfl)) pa_nil)))))
      (pss_one (ps_for PassesOwn.never rfl (pi_list (pv 8)) (pg_name (i := 3) sc_keeping.nd rfl (Or.inl rfl))
      (pss_one (ps_if (pt_cmpR (op_notInN K) (pv 3) (pv 5) (by rfl))
      (pss_cons (ps_asg (pe_ix (ix_N K) (pv 10) (pv 3) (fun _ _ => rfl)) (pg_sub (pv 4) (pv 3) set_N))
      (pss_one (ps_expr (pe_bm PySem.F.plainAttrs_list PySem.F.slot_list_append PySem.F.type_list_append mt_appN (pv 5) (pa_cons (pv 3) pa_nil))))) pss_nil))))) pss_nil)))))))
      (pss_one (ps_ret (pv 4))))))), ?_⟩
    have clen := hw.len
    have xlen : xs.length = G.length := paired_len h2
    refine ⟨_, rfl, a, xs, rfl, .inl (sqH (hs _ _ h1)), _, rfl, RgOk.of_le (by decide) (by omega) (by decide) (by omega), fun pe npe => ?_⟩
    rw [xlen, rgV_nat]
    have g1 := Gr.imm (o := .lst ((List.range G.length).map vN)) hs npe
    refine ⟨_, rfl, a, rfl, ⟨xs, sqH (g1.s _ _ (g1.i _ _ h1))⟩, lc_flat (v := vO) (f := fun _ => true) (m := fun _ => none) (src_list (g1.i _ _ h1) (paired_up h2 g1.i)) g1.s (by omega) (fun e x I1 H1 he re g1 Qg kk => kk _ rfl (evYes g1.s) (fun I2 H2 g2 _ Q2 q2 => q2 _ I2 H2 (Gr.refl g2.s) rfl)) (fun ps I2 H2 g2 mf => ?_)⟩
    rw [filter_yes] at mf
    have mf : Mu H I2 H2 ps (.lst ((G.map fun _ => (none : Option Nat)).map vO)) := ⟨g1.h.free mf.b, mf.i, mf.h⟩
    have gg := g1.trans g2
    refine ⟨Nat.zero_le _, fun pd npd => ?_⟩
    have g3 := Gr.mut (o := .lst []) gg.s npd
    have md := Mu.new (o := .lst []) gg npd
    have nsw := mf.ne npd
    have mf := mf.up g3
    have gg := gg.trans g3
    have hIe : I2 pe = some (.lst ((List.range G.length).map vN)) := g2.i _ _ upd_same
    have hG : ∀ {I'}, Same I2 I' → (rG K).rel G (.ref a) I' := fun e => (rG K).up ⟨a, xs, rfl, h1, h2⟩ ((g1.i.trans g2.i).trans e)
    have kp0 : Kp G (1 + 2 * 0) (G.map fun _ => none) [] [] := by
      refine ⟨List.length_map _, fun p hp => absurd hp (by simp), fun p hp => absurd hp (by simp), fun p hp => hp, fun p hp => absurd hp (by simp), fun _ => 0, fun _ => 0, fun _ => 0, Cert.nil.same fun p => ⟨fun z => z.elim, fun z => absurd z (by simp)⟩, fun p hp => absurd hp (by simp), fun p hp => absurd hp (by simp)⟩
    refine ⟨_, rfl, rfl, _, rfl, ite2 (fun _ => ⟨1, 10, 2, 5, rfl, rgc_10, for_rngC (iKp H G (.ref a) pe ps pd) gg ⟨none, none, none, none, none, none, _, [], rfl, mf, md, kp0, fun q => ⟨fun z => absurd z (by simp), fun ⟨j, z, _⟩ => absurd z (Nat.not_lt_zero j)⟩, Nat.le_refl _⟩ ?_ ?_⟩) (fun c => absurd rfl c)⟩
    · rintro i σ1 I4 H4 hi g4 e4 ⟨z3, z6, z7, z8, z9, z10, s, Dn, rfl, mf, md, kp, hmem, dl⟩
      have em : V.int (1 + (i : Int) * 2) = vN (1 + 2 * i) := by
        show V.int _ = V.int _
        congr 1
        omega
      rw [em]
      have modd : (1 + 2 * i) % 2 = 1 := by omega
      have dlow : ∀ p ∈ Dn, mkOf G p ≤ 1 + 2 * i := fun p hp => Nat.le_of_lt (kp.low p hp)
      have dmid : 1 + 2 * (i + 1) = 1 + 2 * i + 2 := by omega
      generalize hm : 1 + 2 * i = m at kp modd dlow dmid
      have hE4 := g4.s _ _ (e4 _ _ hIe)
      refine ⟨_, rfl, pe, rfl, ⟨_, sqH hE4⟩, lc_flat (v := vN) (f := fun p => decide (mkOf G p ≤ m)) (m := fun p => p) (src_listF (e4 _ _ hIe)) g4.s (by rw [List.length_range]; omega) (fun e xe I5 H5 he re g5 Qg kk => ?_) (fun pl I5 H5 g5 ml => ?_)⟩
      · have re : xe = vN e := re
        subst re
        refine kk _ rfl (fun Q2 q2 => ?_) (fun I6 H6 g6 _ Q2 q2 => ⟨_, rfl, q2 _ I6 H6 (Gr.refl g6.s) rfl⟩)
        obtain ⟨a', xs', d, cc, ea, p1, p2, p3, _⟩ := place_at (hG (e4.trans g5.i)) g5.s (List.mem_range.mp he)
        cases ea
        refine ⟨_, rfl, _, rfl, a, xs', e, _, rfl, rfl, p1, p2, d, _, 0, _, rfl, rfl, p3, rfl, _, rfl, _, _, rfl, rfl, _, rfl, ?_⟩
        rw [le_nat]
        exact q2 I5 H5 (Gr.refl g5.s)
      rw [map_same] at ml
      have ml : Mu H4 I5 H5 pl (.lst ((low G (List.range G.length) m).map vN)) := ml
      have gs := g5.stop ml
      have mf := mf.up gs
      have md := md.up gs
      have gg := g4.trans gs
      have hll : (low G (List.range G.length) m).length ≤ 24 := Nat.le_trans (List.length_filter_le _ _) (by rw [List.length_range]; exact clen)
      have hlt : ∀ p ∈ low G (List.range G.length) m, p < G.length ∧ mkOf G p ≤ m := fun p hp => ⟨List.mem_range.mp (mem_low.mp hp).1, (mem_low.mp hp).2⟩
      refine ⟨_, rfl, _, rfl, _, G, low G (List.range G.length) m, _, _, gs.s, rfl, hG (e4.trans gs.i), ⟨pl, rfl, upd_same⟩, hw, hll, fun p hp => (hlt p hp).1, fun v I6 H6 Ls g6 ⟨al, xl, e, hal, hpl⟩ cp => ?_⟩
      subst e
      have mf := mf.up g6
      have md := md.up g6
      have gg := gg.trans g6
      have e6 := (e4.trans gs.i).trans g6.i
      refine ⟨al, rfl, ⟨_, sqH (g6.s _ _ hal)⟩, for_src (jKp H G (.ref a) pe ps pd pl m Ls Dn) (src_list hal hpl) gg ⟨z3, z8, z9, z10, s, Dn, rfl, mf, md, ⟨kp.len, kp.br, kp.lt, kp.sub, kp.low, ?_⟩, fun q => ⟨fun z => .inl z, fun z => z.elim id fun ⟨c, hc, _⟩ => absurd hc (by simp)⟩, by omega⟩ ?_ ?_⟩
      · obtain ⟨st, tp, ds, c1, c2, c3⟩ := kp.cert
        exact ⟨st, tp, ds, c1, c2, c3⟩
      · rintro j c xv σ2 I7 H7 I8 H8 hc g7 e7 ⟨z3', z8', z9', z10', s', Dn', rfl, mf', md', kp', hmem', dl'⟩ g8 ⟨bc, rfl, hbc⟩
        have mf' := mf'.up g8
        have md' := md'.up g8
        have gg8 := g7.trans g8
        have e8 := (e6.trans e7).trans g8.i
        have hcm : c ∈ Ls := List.mem_of_getElem? hc
        have hcl := cp.clen c hcm
        have hj : j < 24 := by have := (List.getElem?_eq_some_iff.mp hc).1; have := cp.len; omega
        obtain ⟨p0, hp0, hcls⟩ := cp.cls c hcm
        have hcl2 : ∀ p ∈ c, p < G.length := fun p hp => (hlt p (cp.sub hcm hp)).1
        have tkj : Ls.take (j + 1) = Ls.take j ++ [c] := by rw [List.take_add_one, hc]; rfl
        refine ⟨_, rfl, bc, rfl, ⟨_, sqH (g8.s _ _ hbc)⟩, lc_flat (v := vN) (f := fun p => decide (mkOf G p = m)) (m := fun p => p) (src_listF hbc) g8.s (by omega) (fun e xe I9 H9 he re g9 Qg kk => ?_) (fun pt I9 H9 g9 mt => ?_)⟩
        · have re : xe = vN e := re
          subst re
          refine kk _ rfl (fun Q2 q2 => ?_) (fun I6 H6 g6 _ Q2 q2 => ⟨_, rfl, q2 _ I6 H6 (Gr.refl g6.s) rfl⟩)
          obtain ⟨a', xs', d, cc, ea, p1, p2, p3, _⟩ := place_at (hG (e8.trans g9.i)) g9.s (hcl2 e he)
          cases ea
          refine ⟨_, rfl, _, rfl, a, xs', e, _, rfl, rfl, p1, p2, d, _, 0, _, rfl, rfl, p3, rfl, _, rfl, rfl, _, rfl, ?_⟩
          have fin := q2 I9 H9 (Gr.refl g9.s)
          by_cases ce : mkOf G e = m
          · rw [decide_eq_true ce] at fin
            rw [decide_eq_true (by rw [ce])]
            exact fin
          · rw [decide_eq_false ce] at fin
            rw [decide_eq_false (fun z => ce (vN_inj z))]
            exact fin
        rw [map_same] at mt
        have gs9 := g9.stop mt
        have mf' := mf'.up gs9
        have md' := md'.up gs9
        have gg9 := gg8.trans gs9
        have e9 := e8.trans gs9.i
        have cIH : ∀ {I'}, Same I8 I' → I' bc = some (.lst (c.map vN)) := fun e => e _ _ hbc
        refine ⟨_, rfl, _, .inl ⟨_, sqH mt.h, rfl⟩, ?_⟩
        cases ht : c.filter (fun p => decide (mkOf G p = m)) with
        | nil =>
          have none : ¬ ∃ t ∈ c, mkOf G t = m := fun ⟨t, h1, h2⟩ => by
            have : t ∈ c.filter (fun p => decide (mkOf G p = m)) := List.mem_filter.mpr ⟨h1, decide_eq_true h2⟩
            rw [ht] at this
            cases this
          refine iteF ⟨_, gg9, (e7.trans g8.i).trans gs9.i, _, _, _, _, s', Dn', rfl, mf', md', kp', fun q => (hmem' q).trans ⟨fun z => z.imp id fun ⟨c', h1, h2⟩ => ⟨c', by rw [tkj]; exact List.mem_append_left _ h1, h2⟩, fun z => z.imp id fun ⟨c', h1, h2, h3⟩ => ?_⟩, by omega⟩
          rw [tkj] at h1
          rcases List.mem_append.mp h1 with z | z
          · exact ⟨c', z, h2, h3⟩
          · rw [List.mem_singleton.mp z] at h2; exact absurd h2 none
        | cons t ts =>
          have htc : t ∈ c.filter (fun p => decide (mkOf G p = m)) := by rw [ht]; simp
          obtain ⟨htc, htm⟩ := List.mem_filter.mp htc
          have htm : mkOf G t = m := of_decide_eq_true htm
          have hgt : ((c.filter (fun p => decide (mkOf G p = m))).map vN)[0]? = some (vN t) := by rw [ht]; rfl
          refine iteT ⟨_, rfl, _, rfl, _, rfl, pt, _, 0, _, rfl, rfl, sqH mt.h, hgt, _, G, c, t, _, _, gs9.s, rfl, hG e9, ⟨bc, rfl, cIH gs9.i⟩, hw, hcl2, htc, hcl, cls_to hcls htc, fun v Ia Ha way rank ga ⟨pw, e, hpw⟩ hret => ?_⟩
          subst e
          have mf' := mf'.up ga
          have md' := md'.up ga
          have gga := gg9.trans ga
          refine ⟨_, rfl, bc, rfl, ⟨_, sqH (ga.s _ _ (cIH (gs9.i.trans ga.i)))⟩, for_src (lKp H G (.ref a) pe ps pd pl bc pt pw m c Dn' s' way) (src_listF (cIH (gs9.i.trans ga.i))) gga ⟨z3', s', Dn', rfl, mf', md', kp'.len, fun q _ => rfl, fun q z => absurd z (by simp), fun q => by simp, Nat.le_refl _⟩ ?_ ?_⟩
          · rintro l p xv σ3 Ib Hb Ic Hc hp gb eb ⟨z3'', s'', Dn'', rfl, mf'', md'', sl, hold, hnew, hD, dl''⟩ gc re
            have re : xv = vN p := re
            subst re
            have mf'' := mf''.up gc
            have md'' := md''.up gc
            have ggc := gb.trans gc
            have hpc : p ∈ c := List.mem_of_getElem? hp
            have hpn := hcl2 p hpc
            have hl24 : l < 24 := by have := (List.getElem?_eq_some_iff.mp hp).1; omega
            have tk : ∀ {q}, q ∈ c.take (l + 1) ↔ q ∈ c.take l ∨ q = p := fun {q} => by
              rw [List.take_add_one, hp, List.mem_append]
              exact or_congr Iff.rfl List.mem_singleton
            have hwp : Hc pw = some (.lst (way.map vO)) := ggc.s _ _ ((eb.trans gc.i) _ _ hpw)
            have wlen : way.length = G.length := hret.len
            obtain ⟨o, ho⟩ : ∃ o, way[p]? = some o := ⟨way[p]'(by omega), List.getElem?_eq_getElem (by omega)⟩
            refine ⟨_, rfl, _, rfl, pd, Dn'', p, rfl, rfl, sqH md''.h, _, rfl, ite2 (fun c1 => ?_) (fun c1 => ?_)⟩
            · have c1 : p ∉ Dn'' := by simpa using c1
              have c2 : p ∉ Dn' := fun z => c1 ((hD p).mpr (.inl z))
              have es : (s''.map vO).set p (vO o) = (s''.set p o).map vO := set_vO
              refine ⟨_, rfl, _, rfl, pw, _, p, _, rfl, rfl, sqH hwp, get_map ho, _, rfl, _, rfl, ps, _, p, rfl, rfl, mf''.h, by rw [List.length_map]; omega, ?_⟩
              rw [es]
              have gd := ggc.put (u := .lst ((s''.set p o).map vO)) mf''
              have md3 := md''.other (u := .lst ((s''.set p o).map vO)) nsw.symm
              have mf3 := mf''.set (u := .lst ((s''.set p o).map vO))
              refine ⟨_, rfl, .inl ⟨rfl, _, sqH md3.h⟩, _, rfl, pd, Dn'', p, rfl, rfl, md3.h, by omega, Ic, gd.put md3, eb.trans gc.i, _, s''.set p o, Dn'' ++ [p], rfl, mf3.other nsw, md3.set, by rw [List.length_set]; exact sl, fun q hq => ?_, fun q hq hn => ?_, fun q => ?_, by rw [List.length_append]; show Dn''.length + 1 ≤ _; omega⟩
              · have : p ≠ q := fun z => hq.elim (fun y => c2 (z ▸ y)) fun y => y (tk.mpr (.inr z.symm))
                rw [List.getElem?_set, if_neg this]
                exact hold q (hq.imp id fun y z => y (tk.mpr (.inl z)))
              · by_cases z : p = q
                · subst z
                  rw [List.getElem?_set, if_pos rfl, if_pos (by omega), ho]
                · rw [List.getElem?_set, if_neg z]
                  exact hnew q ((tk.mp hq).resolve_right fun y => z y.symm) hn
              · rw [List.mem_append, hD q, tk, List.mem_singleton, or_assoc]
            · have c1 : p ∈ Dn'' := by simpa using c1
              refine ⟨Ic, ggc, eb.trans gc.i, _, s'', Dn'', rfl, mf'', md'', sl, fun q hq => ?_, fun q hq hn => ?_, fun q => ?_, by omega⟩
              · refine hold q (hq.imp id fun y z => y (tk.mpr (.inl z)))
              · rcases tk.mp hq with z | z
                · exact hnew q z hn
                · rw [z] at hn ⊢
                  exact hnew p (((hD p).mp c1).resolve_left hn) hn
              · rw [hD q, tk]
                exact ⟨fun z => z.imp id .inl, fun z => z.elim .inl fun z => z.elim .inr fun z => (hD q).mp (z ▸ c1)⟩
          · rintro σ3 Ib Hb gb eb ⟨z3'', s'', Dn'', rfl, mf'', md'', sl, hold, hnew, hD, dl''⟩
            rw [List.take_length] at hold hnew hD
            refine ⟨Ib, gb, ((e7.trans g8.i).trans gs9.i).trans (ga.i.trans eb), _, _, _, _, s'', Dn'', rfl, mf'', md'', kp'.add hw modd hlt hmem' (fun c' hc' => let ⟨p, _, h⟩ := cp.cls c' (List.mem_of_mem_take hc'); ⟨p, h⟩) (fun o => ⟨fun z => ((hcls t).mp htc).symm.trans ((hcls o).mp z), fun z => (hcls o).mpr (((hcls t).mp htc).trans z)⟩) htc htm hret sl hold hnew hD, fun q => ?_, by omega⟩
            rw [hD q, hmem' q, tkj]
            constructor
            · rintro ((z | ⟨c', h1, h2⟩) | z)
              · exact .inl z
              · exact .inr ⟨c', List.mem_append_left _ h1, h2⟩
              · exact .inr ⟨c, by simp, ⟨t, htc, htm⟩, z⟩
            · rintro (z | ⟨c', h1, h2, h3⟩)
              · exact .inl (.inl z)
              · rcases List.mem_append.mp h1 with y | y
                · exact .inl (.inr ⟨c', y, h2, h3⟩)
                · rw [List.mem_singleton.mp y] at h3; exact .inr h3
      · rintro σ2 I7 H7 g7 e7 ⟨z3', z8', z9', z10', s', Dn', rfl, mf', md', kp', hmem', dl'⟩
        rw [List.take_length] at hmem'
        have hmem2 : ∀ q, q ∈ Dn' ↔ q ∈ Dn ∨ Fx1 G (List.range G.length) m q := fun q => (hmem' q).trans (or_congr Iff.rfl (fx_tops cp q))
        have dl2 : ∀ p ∈ Dn', mkOf G p ≤ m := fun p hp => by
          rcases (hmem2 p).mp hp with z | ⟨t, _, z⟩
          · exact dlow p z
          · exact (mem_low.mp z.mem).2
        refine ⟨I7, g7, e6.trans e7, _, _, _, _, _, _, s', Dn', rfl, mf', md', by rw [dmid]; exact kp'.next dl2, fun q => ?_, by have := cp.len; omega⟩
        · rw [hmem2 q, hmem q]
          constructor
          · rintro (⟨j, hj, z⟩ | z)
            · exact ⟨j, by omega, z⟩
            · exact ⟨i, by omega, by rw [hm]; exact z⟩
          · rintro ⟨j, hj, z⟩
            by_cases e : j = i
            · subst e; rw [hm] at z; exact .inr z
            · exact .inl ⟨j, by omega, z⟩
    · rintro σ1 I4 H4 g4 e4 ⟨z3, z6, z7, z8, z9, z10, s, Dn, rfl, mf, md, kp, hmem, dl⟩
      exact ⟨_, rfl, q ps I4 H4 s Dn g4 mf kp hmem⟩
end
end OC
namespace OC
open PySem PySem.Spec PyProof.Rows L2
/-- better for the side -/
def Bt (sd : Kd) (a b : Int) : Prop := if sd = .ours then b < a else a < b
def btB (sd : Kd) (a b : Int) : Bool := if sd = .ours then decide (b < a) else decide (a < b)
theorem bt_iff {sd : Kd} {a b : Int} : btB sd a b = true ↔ Bt sd a b := by
  unfold btB Bt
  split <;> exact decide_eq_true_iff
theorem Bt.trans {sd : Kd} {a b c : Int} (h : Bt sd a b) (h' : Bt sd b c) : Bt sd a c := by
  unfold Bt at *
  split at h <;> simp_all <;> omega
theorem Bt.irr {sd : Kd} {a : Int} (h : Bt sd a a) : False := by
  unfold Bt at h
  split at h <;> omega
/-- what a switch makes of a strategy -/
structure Sw (G : Gm) (sd : Kd) (N : Nat → Int) (s : List (Option Nat)) (F : List Nat) (s' : List (Option Nat)) : Prop where
  st : IsSt G sd s'
  keep : ∀ p, (kdOf G p ≠ sd ∨ p ∈ F) → s'[p]? = s[p]?
  mv : ∀ p, p < G.length → kdOf G p = sd → p ∉ F → (s'[p]? = s[p]? ∧ ∀ t, Ed G p t → ¬ Bt sd (N t) (N (tgOf G s p))) ∨ Bt sd (N (tgOf G s' p)) (N (tgOf G s p))
section
variable {P : Program} {w : World} {K : PySem.W.Frag} {mg : Str → Option Value} {base : Heap} {k : Nat}
def spBetter (K : PySem.W.Frag) : Sp := fun vs H Q _ => ∃ I a b sd x y, Same I H ∧ vs = [x, y, .str (kS sd)] ∧ sd ≠ .draw ∧ (rQ K).rel a x I ∧ (rQ K).rel b y I ∧ Q (.bl (btB sd a b)) H
abbrev s_is_better : Stmt := topS 42
theorem sc_is_better : FnScope ["number", "other", "side"] ["number", "other", "side"] (defScope s_is_better) := ⟨rfl, rfl, rfl, by decide +kernel, rfl, by decide +kernel, by decide +kernel⟩
theorem c_is_better (D : Dn K mg "is_better" s_is_better ["number", "other", "side"]) (c_compare : Cal P w K mg base "compare" k (spCompare K)) : Cal P w K mg base "is_better" (k + 1) (spBetter K) := by
  refine D.ok sc_is_better (fun vs H Q E h => ?_) (fun f cdv A' outer s0 H vs Q E hr h => ?_)
  · obtain ⟨I, a, b, sd, x, y, _, rfl, _⟩ := h
    rfl
  · obtain ⟨I, a, b, sd, x, y, hs, rfl, hsd, ha, hb, q⟩ := h
    refine ⟨_, (pss_one (ps_ret (pe_cmpR op_eq (pe_c c_compare hr (by rfl) (pa_cons (pv 0) (pa_cons (pv 1) pa_nil))) (pe_ifExp (pt_cmpR op_eq (pv 2) pe_str (nomark _)) pe_int (pe_un un_neg pe_int)) (nomark _)))), ?_⟩
    refine ⟨_, rfl, _, rfl, I, a, b, x, y, hs, rfl, ha, hb, _, rfl, rfl, _, rfl, ?_⟩
    have e1 : (V.int (cmpI a b) = V.int 1) ↔ b < a := by
      unfold cmpI
      constructor
      · intro z
        injection z with z
        split at z
        · cases z
        · split at z
          · assumption
          · cases z
      · intro h
        rw [if_neg (by omega), if_pos h]
    have e2 : (V.int (cmpI a b) = V.int (-1)) ↔ a < b := by
      unfold cmpI
      constructor
      · intro z
        injection z with z
        split at z
        · assumption
        · split at z <;> cases z
      · intro h
        rw [if_pos h]
    cases sd with
    | draw => exact absurd rfl hsd
    | ours =>
      refine (if_pos rfl).mpr ⟨rfl, ?_⟩
      rw [decide_eq_decide.mpr e1]
      exact q
    | theirs =>
      refine (if_neg (by decide)).mpr ⟨1, rfl, rfl, ?_⟩
      have : decide (V.int (cmpI a b) = V.int (-1)) = decide (a < b) := decide_eq_decide.mpr e2
      show Q (V.bl (decide (V.int (cmpI a b) = V.int (-1)))) H
      rw [this]
      exact q
def spSwitched (K : PySem.W.Frag) : Sp := fun vs H Q _ => ∃ I G sd s N F x y z u, Same I H ∧ vs = [x, .str (kS sd), y, z, u] ∧ (rG K).rel G x I ∧ Wf G ∧ sd ≠ .draw ∧ rSt.rel s y I ∧ IsSt G sd s ∧ (rQs K).rel ((List.range G.length).map N) z I ∧ rNs.rel F u I ∧
  ∀ v I' H' s', Gr I H I' H' → rSt.rel s' v I' → Sw G sd N s F s' → Q v H'
def SwG (G : Gm) (sd : Kd) (N : Nat → Int) (s s' : List (Option Nat)) (p : Nat) : Prop := ∃ b t, s'[p]? = some (some b) ∧ (tsOf G p)[b]? = some t ∧ ((b = brOf s p ∧ ∀ t, Ed G p t → ¬ Bt sd (N t) (N (tgOf G s p))) ∨ Bt sd (N t) (N (tgOf G s p)))
def iSw (H : Hp) (G : Gm) (sd : Kd) (N : Nat → Int) (s : List (Option Nat)) (F PL : List Nat) (x y z u : V) (pf : Addr) (i : Nat) (σ : L2.St) (I1 H1 : Hp) : Prop :=
  ∃ (z6 z7 z8 z9 : Option V) (s' : List (Option Nat)), σ = [some x, some (.str (kS sd)), some y, some z, some u, some (.ref pf), z6, z7, z8, z9] ∧ Mu H I1 H1 pf (.lst (s'.map vO)) ∧ s'.length = G.length ∧
    (∀ q, (q ∉ PL.take i ∨ q ∈ F) → s'[q]? = s[q]?) ∧ ∀ q ∈ PL.take i, q ∉ F → SwG G sd N s s' q
def jSw (H : Hp) (G : Gm) (sd : Kd) (N : Nat → Int) (s s' : List (Option Nat)) (x y z u : V) (pf : Addr) (p : Nat) (j : Nat) (σ : L2.St) (I1 H1 : Hp) : Prop :=
  ∃ (z8 z9 : Option V) (b t : Nat), σ = [some x, some (.str (kS sd)), some y, some z, some u, some (.ref pf), some (vN p), some (vN b), z8, z9] ∧ Mu H I1 H1 pf (.lst (s'.map vO)) ∧ (tsOf G p)[b]? = some t ∧
    ((b = brOf s p ∧ ∀ t ∈ (tsOf G p).take j, ¬ Bt sd (N t) (N (tgOf G s p))) ∨ Bt sd (N t) (N (tgOf G s p)))
theorem sw_of {G : Gm} {sd : Kd} {N : Nat → Int} {s s' : List (Option Nat)} {F : List Nat} (hst : IsSt G sd s) (hl : s'.length = G.length) (hk : ∀ q, (kdOf G q ≠ sd ∨ q ∈ F) → s'[q]? = s[q]?) (hg : ∀ q, q < G.length → kdOf G q = sd → q ∉ F → SwG G sd N s s' q) : Sw G sd N s F s' where
  st := ⟨hl, fun p hp hkd => by
    by_cases c : p ∈ F
    · rw [hk p (.inr c)]; exact hst.br p hp hkd
    · obtain ⟨b, t, h1, h2, _⟩ := hg p hp hkd c
      exact ⟨b, h1, (List.getElem?_eq_some_iff.mp h2).1⟩⟩
  keep := hk
  mv := fun p hp hkd hF => by
    obtain ⟨b, t, h1, h2, h3⟩ := hg p hp hkd hF
    obtain ⟨e1, e2, _⟩ := hst.at hp hkd
    have e : tgOf G s' p = t := by
      unfold tgOf brOf
      rw [h1]
      show ((tsOf G p)[b]?).getD 0 = t
      rw [h2]
      rfl
    rcases h3 with ⟨h3, h4⟩ | h3
    · exact .inl ⟨by rw [h1, e1, h3], h4⟩
    · rw [e]; exact .inr h3
/-- a number of the list -/
theorem num_at {n : Nat} {N : Nat → Int} {v : V} {I H : Hp} {p : Nat} (h : (rQs K).rel ((List.range n).map N) v I) (s : Same I H) (hp : p < n) : ∃ a xs x, v = .ref a ∧ SqL K H a xs ∧ xs[p]? = some x ∧ (rQ K).rel (N p) x I := by
  obtain ⟨a, xs, rfl, h1, h2⟩ := h
  obtain ⟨x, hx, rx⟩ := paired_get (i := p) (a := N p) h2 (by rw [List.getElem?_map, List.getElem?_range hp]; rfl)
  exact ⟨a, xs, x, rfl, sqH (s _ _ h1), hx, rx⟩
abbrev s_switched : Stmt := topS 43
theorem sc_switched : FnScope ["left", "side", "strategy", "numbers", "fixed", "found", "place", "best", "branch", "target"] ["left", "side", "strategy", "numbers", "fixed"] (defScope s_switched) := ⟨rfl, rfl, rfl, by decide +kernel, rfl, by decide +kernel, by decide +kernel⟩
theorem c_switched (D : Dn K mg "switched" s_switched ["left", "side", "strategy", "numbers", "fixed"]) (m_list : mg "list" = none) (m_enumerate : mg "enumerate" = none) (c_places_of : Cal P w K mg base "places_of" k (spPlacesOf K)) (c_is_better : Cal P w K mg base "is_better" k (spBetter K)) :
    Cal P w K mg base "switched" (k + 1) (spSwitched K) := by
  refine D.ok sc_switched (fun vs H Q E h => ?_) (fun f cdv A' outer s0 H vs Q E hr h => ?_)
  · obtain ⟨I, G, sd, s, N, F, x, y, z, u, _, rfl, _⟩ := h
    rfl
  · obtain ⟨I, G, sd, s, N, F, x, y, z, u, hs, rfl, hG, hw, hsd, ⟨bs, rfl, hbs⟩, hst, hN, ⟨bf, rfl, hbf⟩, q⟩ := h
    refine ⟨_, (pss_cons (ps_set (i := 5) sc_switched.nd rfl (Or.inl rfl) (pe_callTy call_list_of (by rfl) m_list (by decide +kernel) (pa_cons (pv 2) pa_nil)))
      (pss_cons (ps_for PassesOwn.never rfl (pi_list (pe_c c_places_of hr (by rfl) (pa_cons (pv 0) (pa_cons (pv 1) pa_nil)))) (pg_name (i := 6) sc_switched.nd rfl (Or.inl rfl))
      (pss_cons (ps_if (pt_cmpR (op_inN K) (pv 6) (pv 4) (by rfl))
      (pss_one ps_continue) pss_nil)
      (pss_cons (ps_set (i := 7) sc_switched.nd rfl (Or.inl rfl) (pe_ix (ix_N K) (pv 2) (pv 6) (fun _ _ => rfl)))
      (pss_cons (ps_for PassesOwn.never rfl (pi_enum (by rfl) m_enumerate (pa_cons (pe_ix (ix_tupK K) (pe_ix (ix_N K) (pv 0) (pv 6) (fun _ _ => rfl)) pe_int (fun _ _ => rfl)) pa_nil)) (pg_tup rfl (pgs_cons (pg_name (i := 8) sc_switched.nd rfl (Or.inl rfl)) (pgs_cons (pg_name (i := 9) sc_switched.nd rfl (Or.inl rfl)) pgs_nil)))
      (pss_one (ps_if (pt_val (pe_c c_is_better hr (by rfl) (pa_cons (pe_ix (ix_N K) (pv 3) (pv 9) (fun _ _ => rfl)) (pa_cons (pe_ix (ix_N K) (pv 3) (pe_ix (ix_N K) (pe_ix (ix_tupK K) (pe_ix (ix_N K) (pv 0) (pv 6) (fun _ _ => rfl)) pe_int (fun _ _ => rfl)) (pv 7) (fun _ _ => rfl)) (fun _ _ => rfl)) (pa_cons (pv 1) pa_nil)))))
      (pss_one (ps_set (i := 7) sc_switched.nd rfl (Or.inl rfl) (pv 8))) pss_nil)))
      (pss_one (ps_asg (pv 7) (pg_sub (pv 5) (pv 6) set_N)))))))
      (pss_one (ps_ret (pv 5))))), ?_⟩
    have clen := hw.len
    have slen := hst.len
    refine ⟨_, rfl, bs, _, rfl, .inl (sqH (hs _ _ hbs)), fun pf npf => ?_⟩
    have g0 := Gr.mut (o := .lst (s.map vO)) hs npf
    have m0 : Mu H I (upd H pf (.lst (s.map vO))) pf (.lst (s.map vO)) := ⟨npf, hs.free npf, upd_same⟩
    refine ⟨_, rfl, _, rfl, I, G, sd, x, g0.s, rfl, hG, clen, fun D1 I1 H1 g1 mu1 => ?_⟩
    generalize hPL : (List.range G.length).filter (fun p => decide (kdOf G p = sd)) = PL at mu1
    have memPL : ∀ p, p ∈ PL ↔ p < G.length ∧ kdOf G p = sd := fun p => by rw [← hPL, List.mem_filter, List.mem_range, decide_eq_true_iff]
    have gs := g1.stop mu1
    have m0 := m0.up gs
    have gg := g0.trans gs
    refine ⟨D1, rfl, ⟨_, sqH mu1.h⟩, for_src (iSw H G sd N s F PL x (.ref bs) z (.ref bf) pf) (src_listF (I := upd I1 D1 (.lst (PL.map vN))) upd_same) gg ⟨none, none, none, none, s, rfl, m0, slen, fun q _ => rfl, fun q hq => absurd hq (by simp)⟩ ?_ ?_⟩
    · rintro i p xv σ1 I3 H3 I4 H4 hp g3 e3 ⟨z6, z7, z8, z9, s', rfl, mf, sl, hkeep, hgood⟩ g4 re
      have re : xv = vN p := re
      subst re
      have mf := mf.up g4
      have gg4 := g3.trans g4
      have hpP : p ∈ PL := List.mem_of_getElem? hp
      obtain ⟨hpn, hpk⟩ := (memPL p).mp hpP
      have tk : ∀ {q}, q ∈ PL.take (i + 1) ↔ q ∈ PL.take i ∨ q = p := fun {q} => by
        rw [List.take_add_one, hp, List.mem_append]
        exact or_congr Iff.rfl List.mem_singleton
      refine ⟨_, rfl, _, rfl, bf, F, p, rfl, rfl, sqH (gg4.s _ _ (gg4.i _ _ hbf)), _, rfl, ite2 (fun c => ?_) (fun c => ?_)⟩
      · have c : p ∈ F := of_decide_eq_true c
        exact ⟨I4, gg4, e3.trans g4.i, _, _, _, _, s', rfl, mf, sl, fun q hq => hkeep q (hq.imp (fun y z => y (tk.mpr (.inl z))) id), fun q hq hF => hgood q ((tk.mp hq).resolve_right fun z => hF (z ▸ c)) hF⟩
      · have c : p ∉ F := fun z => c (decide_eq_true z)
        obtain ⟨t1, t2, t3⟩ := hst.at hpn hpk
        refine ⟨_, rfl, _, rfl, bs, _, p, _, rfl, rfl, sqH (gg4.s _ _ (gg4.i _ _ hbs)), get_map t1, ?_⟩
        obtain ⟨a, xs, d, cc, rfl, p1, p2, p3, p4⟩ := place_at ((rG K).up hG gg4.i) gg4.s hpn
        have p4' := p4
        rw [hpk, rTs_side hsd] at p4'
        obtain ⟨cl, rfl, hcl⟩ := p4'
        refine ⟨_, rfl, _, rfl, a, xs, p, _, rfl, rfl, p1, p2, d, _, 2, _, rfl, rfl, p3, rfl, cl, _, rfl, sqH (gg4.s _ _ hcl), for_src (jSw H G sd N s s' (.ref a) (.ref bs) z (.ref bf) pf p) (src_enum (r := rF vN) (l := tsOf G p) hcl paired_of) gg4 ⟨z8, z9, brOf s p, tgOf G s p, rfl, mf, t2, .inl ⟨rfl, fun t ht => absurd ht (by simp)⟩⟩ ?_ ?_⟩
        · rintro j e xv σ2 I6 H6 I7 H7 he g6 e6 ⟨z8', z9', b, tb, rfl, mf', hb, hst'⟩ g7 re
          obtain ⟨he1, he2⟩ := of_enumL he
          have mf' := mf'.up g7
          have gg7 := g6.trans g7
          have e7 := e6.trans g7.i
          have tkj : ∀ {q}, q ∈ (tsOf G p).take (j + 1) → q ∈ (tsOf G p).take j ∨ q = e.2 := fun {q} hq => by
            rw [List.take_add_one, he2] at hq
            exact (List.mem_append.mp hq).imp id fun z => List.mem_singleton.mp z
          refine gPair re g7.s fun y1 y2 r1 r2 => ?_
          have r1 : y1 = vN j := by rw [← he1]; exact r1
          have r2 : y2 = vN e.2 := r2
          subst r1 r2
          generalize e.2 = t at he2 tkj
          have tn : t < G.length := hw.to p hpn t (List.mem_of_getElem? he2)
          have tbn : tb < G.length := hw.to p hpn tb (List.mem_of_getElem? hb)
          obtain ⟨na, nxs, n1, rfl, q1, q2, q3⟩ := num_at ((rQs K).up hN gg7.i) gg7.s tn
          obtain ⟨na', nxs', n2, en, q1', q2', q3'⟩ := num_at ((rQs K).up hN gg7.i) gg7.s tbn
          cases en
          obtain ⟨a', xs', d', cc', ea, p1', p2', p3', p4'⟩ := place_at ((rG K).up hG gg7.i) gg7.s hpn
          cases ea
          rw [hpk, rTs_side hsd] at p4'
          obtain ⟨cl', rfl, hcl'⟩ := p4'
          refine ⟨_, rfl, _, rfl, na, nxs, t, _, rfl, rfl, q1, q2, _, rfl, _, rfl, _, rfl, a, xs', p, _, rfl, rfl, p1', p2', d', _, 2, _, rfl, rfl, p3', rfl, _, rfl, cl', _, b, _, rfl, rfl, sqH (gg7.s _ _ hcl'), get_nat hb, na, nxs', tb, _, rfl, rfl, q1', q2', _, rfl, I7, N t, N tb, sd, _, _, gg7.s, rfl, hsd, q3, q3', _, rfl, ite2 (fun c => ?_) (fun c => ?_)⟩
          · have c := bt_iff.mp c
            refine ⟨_, rfl, I7, gg7, e7, _, _, j, t, rfl, mf', he2, .inr ?_⟩
            rcases hst' with ⟨z, _⟩ | z
            · subst z
              rw [t2] at hb
              cases hb
              exact c
            · exact c.trans z
          · refine ⟨I7, gg7, e7, _, _, b, tb, rfl, mf', hb, hst'.imp (fun z => ⟨z.1, fun o ho => ?_⟩) id⟩
            rcases tkj ho with y | y
            · exact z.2 o y
            · have ebt : tb = tgOf G s p := by
                rw [z.1, t2] at hb
                exact (Option.some.inj hb).symm
              rw [y]
              intro w
              rw [← ebt] at w
              exact c (bt_iff.mpr w)
        · rintro σ2 I6 H6 g6 e6 ⟨z8', z9', b, tb, rfl, mf', hb, hst'⟩
          rw [enumL_len, List.take_length] at hst'
          have es : (s'.map vO).set p (vN b) = (s'.set p (some b)).map vO := set_vO (o := some b)
          refine ⟨_, rfl, _, rfl, _, rfl, pf, _, p, rfl, rfl, mf'.h, by rw [List.length_map]; omega, ?_⟩
          rw [es]
          refine ⟨I6, g6.put mf', (e3.trans g4.i).trans e6, _, _, _, _, s'.set p (some b), rfl, mf'.set, by rw [List.length_set]; exact sl, fun o ho => ?_, fun o ho hF => ?_⟩
          · have : p ≠ o := fun z => ho.elim (fun y => y (tk.mpr (.inr z.symm))) fun y => c (z ▸ y)
            rw [List.getElem?_set, if_neg this]
            exact hkeep o (ho.imp (fun y z => y (tk.mpr (.inl z))) id)
          · by_cases z : p = o
            · subst z
              exact ⟨b, tb, by rw [List.getElem?_set, if_pos rfl, if_pos (by omega)], hb, hst'.imp (fun z => ⟨z.1, fun t ht => z.2 t ht⟩) id⟩
            · have := hgood o ((tk.mp ho).resolve_right fun y => z y.symm) hF
              unfold SwG at this ⊢
              rw [List.getElem?_set, if_neg z]
              exact this
    · rintro σ1 I3 H3 g3 e3 ⟨z6, z7, z8, z9, s', rfl, mf, sl, hkeep, hgood⟩
      rw [List.take_length] at hkeep hgood
      exact ⟨_, rfl, q (.ref pf) _ H3 s' (g3.stop mf) ⟨pf, rfl, upd_same⟩ (sw_of hst sl (fun o ho => hkeep o (ho.imp (fun z y => z ((memPL o).mp y).2) id)) fun o h1 h2 h3 => hgood o ((memPL o).mpr ⟨h1, h2⟩) h3)⟩
end
end OC
namespace OC
open PySem PySem.Spec PyProof.Rows L2
/-! ### the best reply to a game without a choice of ours -/
def NoOurs (G : Gm) : Prop := ∀ p, p < G.length → kdOf G p ≠ .ours
abbrev CoF (G : Gm) (s : List (Option Nat)) (p : Nat) : Prop := Comes (Fn (fN G s)) (mkOf G) 1 p
open Classical in
noncomputable def oF (G : Gm) (s : List (Option Nat)) (p : Nat) : Int := if CoF G s p then 0 else 1
section
variable {G : Gm} {s s' : List (Option Nat)} {F : List Nat} {p : Nat}
theorem oF_0 : oF G s p = 0 ↔ CoF G s p := by unfold oF; split <;> simp_all
theorem oF_1 : oF G s p = 1 ↔ ¬ CoF G s p := by unfold oF; split <;> simp_all
theorem ws_chain (w : Wf G) (h : IsSt G .theirs s) (no : NoOurs G) : Chain (wS G .theirs s) where
  wf := wS_wf w h
  draw := fun p hp => by
    rw [wS_len] at hp
    by_cases k : kdOf G p = .theirs
    · exact (wS_side hp k).2
    · rw [(wS_other k).2]
      cases e : kdOf G p with
      | draw => rfl
      | ours => exact absurd e (no p hp)
      | theirs => exact absurd e k
theorem ws_step (w : Wf G) (h : IsSt G .theirs s) (no : NoOurs G) {u v : Nat} (hu : u < G.length) : Ed (wS G .theirs s) u v ↔ v = fN G s u := by
  unfold Ed fN
  by_cases k : kdOf G u = .theirs
  · rw [(wS_side hu k).1, if_neg (by rw [k]; intro z; cases z)]
    exact List.mem_singleton
  · have kd : kdOf G u = .draw := by
      cases e : kdOf G u with
      | draw => rfl
      | ours => exact absurd e (no u hu)
      | theirs => exact absurd e k
    rw [(wS_other k).1, if_pos kd]
    have h1 := w.one u hu kd
    match hts : tsOf G u, h1 with
    | [z], _ => exact List.mem_singleton
theorem ws_lt (w : Wf G) (h : IsSt G .theirs s) (no : NoOurs G) {u : Nat} (hu : u < G.length) : fN G s u < G.length := by
  have := (wS_wf w h).ed ((ws_step w h no hu).mpr rfl)
  rw [wS_len] at this
  exact this
theorem ws_comes (w : Wf G) (h : IsSt G .theirs s) (no : NoOurs G) (hp : p < G.length) : Comes (Ed (wS G .theirs s)) (mkOf (wS G .theirs s)) 1 p ↔ CoF G s p := by
  have e : mkOf (wS G .theirs s) = mkOf G := funext fun p => wS_mk
  rw [e]
  constructor
  · intro c
    exact c.agree (L := fun p => p < G.length) hp fun x y hx r => by
      have := (ws_step w h no hx).mp r
      subst this
      exact ⟨ws_lt w h no hx, rfl⟩
  · intro c
    exact c.agree (L := fun p => p < G.length) hp fun x y hx r => by
      have r : y = fN G s x := r
      subst r
      exact ⟨ws_lt w h no hx, (ws_step w h no hx).mpr rfl⟩
theorem ws_odd (w : Wf G) (h : IsSt G .theirs s) (no : NoOurs G) : (List.range (wS G .theirs s).length).map (oddV (wS G .theirs s)) = (List.range G.length).map (oF G s) := by
  rw [wS_len]
  refine List.map_congr_left (fun p hp => ?_)
  have := ws_comes w h no (List.mem_range.mp hp)
  by_cases c : CoF G s p
  · rw [oF_0.mpr c, oddV_0.mpr (this.mpr c)]
  · rw [oF_1.mpr c, oddV_1.mpr (fun z => c (this.mp z))]
/-- an odd wheel lies in what is kept -/
theorem wheel_fx (w : Wf G) {u : Nat} (hu : u < G.length) (hm : mkOf G u % 2 = 1) (wh : Wheel (Ed G) (mkOf G) u) : Fxd G u := by
  have h9 := w.mark u hu
  refine ⟨mkOf G u / 2, by omega, u, by omega, ?_⟩
  have e : 1 + 2 * (mkOf G u / 2) = mkOf G u := by omega
  rw [e]
  have a : Pt (Ed G) (fun y => mkOf G y ≤ mkOf G u ∧ y < G.length) u u := Pt.within (T := fun y => y < G.length) wh hu fun x y hx r _ => ⟨w.ed r, r⟩
  have : OkB G (low G (List.range G.length) (mkOf G u)) u u := a.mono (fun _ _ h => h) fun v hv => mem_low.mpr ⟨List.mem_range.mpr hv.2, hv.1⟩
  exact ⟨this, this⟩
theorem sw_cases (h : IsSt G .theirs s) (sw : Sw G .theirs (oF G s) s F s') (p : Nat) : s'[p]? = s[p]? ∨ (p < G.length ∧ kdOf G p = .theirs ∧ ¬ CoF G s p ∧ CoF G s (fN G s' p)) := by
  by_cases e : s'[p]? = s[p]?
  · exact .inl e
  · right
    have hp : p < G.length := Classical.byContradiction fun z => e (by
      rw [List.getElem?_eq_none_iff.mpr (by have := sw.st.len; omega), List.getElem?_eq_none_iff.mpr (by have := h.len; omega)])
    have hk : kdOf G p = .theirs := Classical.byContradiction fun z => e (sw.keep p (.inl z))
    have hF : p ∉ F := fun z => e (sw.keep p (.inr z))
    have nd : kdOf G p ≠ .draw := by rw [hk]; intro z; cases z
    rcases sw.mv p hp hk hF with z | z
    · exact absurd z.1 e
    · have z : oF G s (tgOf G s' p) < oF G s (tgOf G s p) := z
      have e1 : fN G s' p = tgOf G s' p := by unfold fN; rw [if_neg nd]
      have e2 : fN G s p = tgOf G s p := by unfold fN; rw [if_neg nd]
      refine ⟨hp, hk, fun c => ?_, ?_⟩
      · have := comes_fn.mp c
        rw [e2] at this
        rw [oF_0.mpr this] at z
        by_cases c2 : CoF G s (tgOf G s' p)
        · rw [oF_0.mpr c2] at z; omega
        · rw [oF_1.mpr c2] at z; omega
      · rw [e1]
        refine Classical.byContradiction fun c2 => ?_
        rw [oF_1.mpr c2] at z
        by_cases c3 : CoF G s (tgOf G s p)
        · rw [oF_0.mpr c3] at z; omega
        · rw [oF_1.mpr c3] at z; omega
theorem sw_less (h : IsSt G .theirs s) (sw : Sw G .theirs (oF G s) s F s') (ne : s' ≠ s) : cnt G.length (fun p => ¬ CoF G s' p) < cnt G.length (fun p => ¬ CoF G s p) := by
  have hs : ∀ p, fN G s' p = fN G s p ∨ (¬ CoF G s p ∧ CoF G s (fN G s' p)) := fun p => (sw_cases h sw p).imp fN_same fun z => z.2.2
  have ex : ∃ p, s'[p]? ≠ s[p]? := Classical.byContradiction fun z => ne (List.ext_getElem? fun p => Classical.byContradiction fun y => z ⟨p, y⟩)
  obtain ⟨p, hp⟩ := ex
  obtain ⟨h1, h2, h3, h4⟩ := (sw_cases h sw p).resolve_left hp
  exact cnt_lt (fun x _ hx c => hx (switch_keep hs c)) h1 h3 fun z => z (switch_new hs h4)
theorem sw_end (w : Wf G) (no : NoOurs G) (h : IsSt G .theirs s) (sw : Sw G .theirs (oF G s) s F s) (hF : ∀ q, q ∈ F ↔ Fxd G q) (hx : ∀ q, Fxd G q → CoF G s q) (hp : p < G.length) : oF G s p = oddV G p := by
  have key : Comes (Ed G) (mkOf G) 1 p ↔ CoF G s p := by
    refine best_end (Ok := fun p => p < G.length) (Fx := Fxd G) (fun p q _ e => w.ed e) (fun p hp => ?_) (fun u hu hm wh => wheel_fx w hu hm wh) hx (fun p q hp hnf e hn => ?_) hp
    · by_cases k : kdOf G p = .draw
      · exact fN_draw w hp k
      · have k : kdOf G p = .theirs := by
          cases e : kdOf G p with
          | draw => exact absurd e k
          | ours => exact absurd e (no p hp)
          | theirs => rfl
        have : fN G s p = tgOf G s p := by unfold fN; rw [if_neg (by rw [k]; intro z; cases z)]
        rw [this]
        exact (h.at hp k).2.2
    · have hn' : ¬ CoF G s (fN G s p) := fun c => hn (comes_fn.mpr c)
      by_cases k : kdOf G p = .draw
      · have e1 := fN_draw (s := s) w hp k
        have h1 := w.one p hp k
        unfold Ed at e e1
        match hts : tsOf G p, h1 with
        | [z], _ =>
          rw [hts] at e e1
          rw [List.mem_singleton.mp e, ← List.mem_singleton.mp e1]
          exact hn'
      · have k2 : kdOf G p = .theirs := by
          cases e : kdOf G p with
          | draw => exact absurd e k
          | ours => exact absurd e (no p hp)
          | theirs => rfl
        have e1 : fN G s p = tgOf G s p := by unfold fN; rw [if_neg k]
        rw [e1] at hn'
        intro c
        rcases sw.mv p hp k2 (fun z => hnf ((hF p).mp z)) with z | z
        · refine z.2 q e ?_
          show oF G s q < oF G s (tgOf G s p)
          rw [oF_0.mpr c, oF_1.mpr hn']
          decide
        · exact z.irr
  by_cases c : CoF G s p
  · rw [oF_0.mpr c, oddV_0.mpr (key.mpr c)]
  · rw [oF_1.mpr c, oddV_1.mpr (fun z => c (key.mp z))]
end
section
variable {P : Program} {w : World} {K : PySem.W.Frag} {mg : Str → Option Value} {base : Heap} {k : Nat}
def spBest (K : PySem.W.Frag) : Sp := fun vs H Q _ => ∃ I G x, Same I H ∧ vs = [x, .str "theirs"] ∧ (rG K).rel G x I ∧ Wf G ∧ NoOurs G ∧ ∀ a y z I' H', Gr I H I' H' → SqT K I' a [y, z] → (rQs K).rel ((List.range G.length).map (oddV G)) y I' → Q (.ref a) H'
def CertF (G : Gm) (s : List (Option Nat)) : Prop := ∃ st tp ds, Cert (fN G s) (mkOf G) 1 (Fxd G) st tp ds
theorem CertF.to {G : Gm} {s : List (Option Nat)} (h : CertF G s) {q : Nat} (hq : Fxd G q) : CoF G s q := by
  obtain ⟨st, tp, ds, c⟩ := h
  exact c.comes (R := Fn (fN G s)) (fun p _ => rfl) _ q (Nat.le_refl _) hq
theorem CertF.agree {G : Gm} {s s' : List (Option Nat)} (h : CertF G s) (e : ∀ q, Fxd G q → s'[q]? = s[q]?) : CertF G s' := by
  obtain ⟨st, tp, ds, c⟩ := h
  exact ⟨st, tp, ds, c.congr fun p hp => fN_same (e p hp)⟩
def wBe (H I : Hp) (G : Gm) (F : List Nat) (x : V) (bf : Addr) (m : Nat) (σ : L2.St) (H1 : Hp) : Prop :=
  ∃ (I1 : Hp) (z4 z5 z6 : Option V) (s : List (Option Nat)) (bs : Addr), Gr I H I1 H1 ∧ σ = [some x, some (.str "theirs"), some (.ref bf), some (.ref bs), z4, z5, z6] ∧ I1 bs = some (.lst (s.map vO)) ∧ I1 bf = some (.lst (F.map vN)) ∧ IsSt G .theirs s ∧ CertF G s ∧ m = cnt G.length (fun p => ¬ CoF G s p)
def iBe (H : Hp) (G : Gm) (F PL : List Nat) (s0 : List (Option Nat)) (x : V) (bf ps : Addr) (i : Nat) (σ : L2.St) (I1 H1 : Hp) : Prop :=
  ∃ (z4 : Option V) (s : List (Option Nat)), σ = [some x, some (.str "theirs"), some (.ref bf), some (.ref ps), z4, none, none] ∧ Mu H I1 H1 ps (.lst (s.map vO)) ∧ s.length = G.length ∧ (∀ q ∈ F, s[q]? = s0[q]?) ∧ ∀ q ∈ PL.take i, q ∉ F → s[q]? = some (some 0)
abbrev s_best_against : Stmt := topS 44
theorem sc_best_against : FnScope ["left", "side", "fixed", "strategy", "place", "numbers", "later"] ["left", "side"] (defScope s_best_against) := ⟨rfl, rfl, rfl, by decide +kernel, rfl, by decide +kernel, by decide +kernel⟩
theorem c_best_against (D : Dn K mg "best_against" s_best_against ["left", "side"]) (m_range : mg "range" = none) (m_list : mg "list" = none) (m_len : mg "len" = none) (c_won_in : CalK P w K mg base "won_in" k 2 ["side"] (spWonIn K)) (c_keeping : Cal P w K mg base "keeping" k (spKeep K))
    (c_places_of : Cal P w K mg base "places_of" k (spPlacesOf K)) (c_with_strategy : Cal P w K mg base "with_strategy" k (spWith K)) (c_winning_chances : Cal P w K mg base "winning_chances" k (spWinning K)) (c_switched : Cal P w K mg base "switched" k (spSwitched K)) :
    Cal P w K mg base "best_against" (k + 1) (spBest K) := by
  refine D.ok sc_best_against (fun vs H Q E h => ?_) (fun f cdv A' outer s0 H vs Q E hr h => ?_)
  · obtain ⟨I, G, x, _, rfl, _⟩ := h
    rfl
  · obtain ⟨I, G, x, hs, rfl, ⟨a, xs, rfl, h1, h2⟩, hw, no, q⟩ := h
    refine ⟨_, (pss_cons (ps_set (i := 2) sc_best_against.nd rfl (Or.inl rfl) (pe_ck c_won_in hr (by rfl) (pa_cons (pv 0) (pa_cons (pe_listRg rfl (by rfl) m_list (prg_1 (by rfl) m_range (pe_callB call_len_seq (by rfl) m_len PySem.boot_len (pa_cons (pv 0) pa_nil)))) pa_nil)) (pk_cons (pv 1) pk_nil)))
      (pss_cons (ps_set (i := 3) sc_best_against.nd rfl (Or.inl rfl) (pe_c c_keeping hr (by rfl) (pa_cons (pv 0) (pa_cons (pv 1) pa_nil))))
      (pss_cons (ps_for PassesOwn.never rfl (pi_list (pe_c c_places_of hr (by rfl) (pa_cons (pv 0) (pa_cons (pv 1) pa_nil)))) (pg_name (i := 4) sc_best_against.nd rfl (Or.inl rfl))
      (pss_one (ps_if (pt_cmpR (op_notInN K) (pv 4) (pv 2) (by rfl))
      (pss_one (ps_asg pe_int (pg_sub (pv 3) (pv 4) set_N))) pss_nil)))
      (pss_one (ps_while PassesOwn.never (pt_val pe_bl)
      (pss_cons (ps_set (i := 5) sc_best_against.nd rfl (Or.inl rfl) (pe_c c_winning_chances hr (by rfl) (pa_cons (pe_c c_with_strategy hr (by rfl) (pa_cons (pv 0) (pa_cons (pv 1) (pa_cons (pv 3) pa_nil)))) pa_nil)))
      (pss_cons (ps_set (i := 6) sc_best_against.nd rfl (Or.inl rfl) (pe_c c_switched hr (by rfl) (pa_cons (pv 0) (pa_cons (pv 1) (pa_cons (pv 3) (pa_cons (pv 5) (pa_cons (pv 2) pa_nil)))))))
      (pss_cons (ps_if (pt_cmpR (op_eqO K hr.units) (pv 6) (pv 3) (nomark _))
      (pss_one (ps_ret (pe_tup (pa_cons (pv 5) (pa_cons (pv 3) pa_nil))))) pss_nil)
      (pss_one (ps_set (i := 3) sc_best_against.nd rfl (Or.inl rfl) (pv 6))))))))))), ?_⟩
    have clen := hw.len
    have xlen : xs.length = G.length := paired_len h2
    have hG : ∀ {I'}, Same I I' → (rG K).rel G (.ref a) I' := fun e => (rG K).up ⟨a, xs, rfl, h1, h2⟩ e
    refine ⟨_, rfl, _, rfl, a, xs, rfl, .inl (sqH (hs _ _ h1)), _, rfl, RgOk.of_le (by decide) (by omega) (by decide) (by omega), fun pe npe => ?_⟩
    rw [xlen, rgV_nat]
    have g1 := Gr.imm (o := .lst ((List.range G.length).map vN)) hs npe
    refine ⟨_, rfl, rfl, rfl, _, G, _, _, g1.s, rfl, hG g1.i, ⟨pe, rfl, upd_same⟩, hw, fun bf I2 H2 F g2 ⟨bf', e, hbf⟩ hF => ?_⟩
    cases e
    have gg := g1.trans g2
    refine ⟨_, rfl, _, rfl, I2, G, _, gg.s, rfl, hG gg.i, hw, fun ps I3 H3 sk Dn g3 mk kp hDn => ?_⟩
    have mk : Mu H I3 H3 ps (.lst (sk.map vO)) := ⟨gg.h.free mk.b, mk.i, mk.h⟩
    have gg := gg.trans g3
    refine ⟨_, rfl, _, rfl, I3, G, .theirs, _, gg.s, rfl, hG gg.i, clen, fun D4 I4 H4 g4 mu4 => ?_⟩
    generalize hPL : (List.range G.length).filter (fun p => decide (kdOf G p = .theirs)) = PL at mu4
    have memPL : ∀ p, p ∈ PL ↔ p < G.length ∧ kdOf G p = .theirs := fun p => by rw [← hPL, List.mem_filter, List.mem_range, decide_eq_true_iff]
    have gs := g4.stop mu4
    have mk := mk.up gs
    have gg := gg.trans gs
    have eF : ∀ {I'}, Same (upd I4 D4 (.lst (PL.map vN))) I' → I' bf = some (.lst (F.map vN)) := fun e => e _ _ (gs.i _ _ (g3.i _ _ hbf))
    refine ⟨D4, rfl, ⟨_, sqH mu4.h⟩, for_src (iBe H G F PL sk (.ref a) bf ps) (src_listF (I := upd I4 D4 (.lst (PL.map vN))) upd_same) gg ⟨none, sk, rfl, mk, kp.len, fun q _ => rfl, fun q hq => absurd hq (by simp)⟩ ?_ ?_⟩
    · rintro i p xv σ1 I5 H5 I6 H6 hp g5 e5 ⟨z4, s, rfl, mf, sl, hold, hnew⟩ g6 re
      have re : xv = vN p := re
      subst re
      have mf := mf.up g6
      have gg6 := g5.trans g6
      obtain ⟨hpn, hpk⟩ := (memPL p).mp (List.mem_of_getElem? hp)
      have tk : ∀ {q}, q ∈ PL.take (i + 1) → q ∈ PL.take i ∨ q = p := fun {q} hq => by
        rw [List.take_add_one, hp] at hq
        exact (List.mem_append.mp hq).imp id fun z => List.mem_singleton.mp z
      refine ⟨_, rfl, _, rfl, bf, F, p, rfl, rfl, sqH (gg6.s _ _ (eF (e5.trans g6.i))), _, rfl, ite2 (fun c => ?_) (fun c => ?_)⟩
      · have c : p ∉ F := by simpa using c
        have es : (s.map vO).set p (.int 0) = (s.set p (some 0)).map vO := set_vO (o := some 0)
        refine ⟨_, rfl, _, rfl, ps, _, p, rfl, rfl, mf.h, by rw [List.length_map]; omega, ?_⟩
        rw [es]
        refine ⟨I6, gg6.put mf, e5.trans g6.i, _, s.set p (some 0), rfl, mf.set, by rw [List.length_set]; exact sl, fun o ho => ?_, fun o ho hF' => ?_⟩
        · rw [List.getElem?_set, if_neg (fun z : p = o => c (z ▸ ho))]; exact hold o ho
        · by_cases z : p = o
          · subst z
            rw [List.getElem?_set, if_pos rfl, if_pos (by omega)]
          · rw [List.getElem?_set, if_neg z]
            exact hnew o ((tk ho).resolve_right fun y => z y.symm) hF'
      · have c : p ∈ F := by simpa using c
        exact ⟨I6, gg6, e5.trans g6.i, _, s, rfl, mf, sl, hold, fun o ho hF' => hnew o ((tk ho).resolve_right fun y => hF' (y ▸ c)) hF'⟩
    · rintro σ1 I5 H5 g5 e5 ⟨z4, s, rfl, mf, sl, hold, hnew⟩
      rw [List.take_length] at hnew
      have hst : IsSt G .theirs s := ⟨sl, fun p hp hk => by
        by_cases c : p ∈ F
        · have hd : p ∈ Dn := (hDn p).mpr ((hF p).mp c)
          obtain ⟨b, t, h1, h2⟩ := kp.br p hd (by rw [hk]; intro z; cases z)
          exact ⟨b, by rw [hold p c]; exact h1, (List.getElem?_eq_some_iff.mp h2).1⟩
        · exact ⟨0, hnew p ((memPL p).mpr ⟨hp, hk⟩) c, by have := (hw.some p hp).1; omega⟩⟩
      have hcert : CertF G s := by
        obtain ⟨st, tp, ds, c1, _, _⟩ := kp.cert
        exact CertF.agree (s := sk) ⟨st, tp, ds, c1.same hDn⟩ fun q hq => hold q ((hF q).mpr hq)
      refine ⟨wBe H I G F (.ref a) bf, ⟨_, _, _, none, none, s, ps, g5.stop mf, rfl, upd_same, (Same.new mf.i) _ _ (eF e5), hst, hcert, rfl⟩, ?_⟩
      clear hst hcert hnew hold sl mf
      rintro m σ2 H6 ⟨I6, z4', z5', z6', s, bs, g6, rfl, hbs, hbF, hst, hcert, rfl⟩
      have nd : Kd.theirs ≠ Kd.draw := fun z => by cases z
      refine ⟨_, rfl, iteT ⟨fun σ' H' => ∃ m', m' < cnt G.length (fun p => ¬ CoF G s p) ∧ wBe H I G F (.ref a) bf m' σ' H', fun _ _ h => h, ?_⟩⟩
      refine ⟨_, rfl, _, rfl, _, rfl, I6, G, .theirs, s, _, _, g6.s, rfl, hG g6.i, hw, nd, ⟨bs, rfl, hbs⟩, hst, fun v I7 H7 g7 rv => ?_⟩
      refine ⟨I7, wS G .theirs s, v, g7.s, rfl, rv, ws_chain hw hst no, fun nv I8 H8 g8 rn => ?_⟩
      rw [ws_odd hw hst no] at rn
      have g78 := g7.trans g8
      have gg8 := g6.trans g78
      refine ⟨_, rfl, _, rfl, _, rfl, _, rfl, _, rfl, I8, G, .theirs, s, oF G s, F, _, _, _, _, gg8.s, rfl, hG gg8.i, hw, nd, ⟨bs, rfl, g78.i _ _ hbs⟩, hst, rn, ⟨bf, rfl, g78.i _ _ hbF⟩, fun lv I9 H9 s' g9 ⟨bl, e, hbl⟩ sw => ?_⟩
      subst e
      have g79 := g78.trans g9
      have gg9 := g6.trans g79
      refine ⟨_, rfl, _, rfl, bl, bs, s', s, rfl, rfl, sqH (gg9.s _ _ hbl), sqH (gg9.s _ _ (g79.i _ _ hbs)), _, rfl, ite2 (fun c => ?_) (fun c => ?_)⟩
      · have c : s' = s := of_decide_eq_true c
        subst c
        refine ⟨_, rfl, _, rfl, by show 2 ≤ sizeLine; decide, fun T nT => ?_⟩
        have gt := Gr.imm (o := .tup [nv, .ref bs]) gg9.s nT
        refine q T nv (.ref bs) _ _ (gg9.trans gt) (.inl (.inl upd_same)) ?_
        have : (List.range G.length).map (oF G s') = (List.range G.length).map (oddV G) := List.map_congr_left fun p hp => sw_end hw no hst sw hF (fun q hq => hcert.to hq) (List.mem_range.mp hp)
        rw [← this]
        exact (rQs K).up rn (g9.i.trans gt.i)
      · have c : s' ≠ s := fun z => c (decide_eq_true z)
        exact ⟨_, rfl, _, sw_less hst sw c, I9, _, _, _, s', bl, gg9, rfl, hbl, g79.i _ _ hbF, sw.st, hcert.agree (fun q hq => sw.keep q (.inr ((hF q).mpr hq))), rfl⟩
def spLeast (K : PySem.W.Frag) : Sp := fun vs H Q _ => ∃ I G s x y, Same I H ∧ vs = [x, y] ∧ (rG K).rel G x I ∧ Wf G ∧ rSt.rel s y I ∧ IsSt G .ours s ∧ ∀ a y z I' H', Gr I H I' H' → SqT K I' a [y, z] → (rQs K).rel ((List.range G.length).map (oddV (wS G .ours s))) y I' → Q (.ref a) H'
abbrev s_least_against : Stmt := topS 45
theorem sc_least_against : FnScope ["game", "ours"] ["game", "ours"] (defScope s_least_against) := ⟨rfl, rfl, rfl, by decide +kernel, rfl, by decide +kernel, by decide +kernel⟩
theorem ws_noours {G : Gm} {s : List (Option Nat)} : NoOurs (wS G .ours s) := fun p hp => by
  rw [wS_len] at hp
  by_cases k : kdOf G p = .ours
  · rw [(wS_side hp k).2]; intro z; cases z
  · rw [(wS_other k).2]; exact k
theorem c_least_against (D : Dn K mg "least_against" s_least_against ["game", "ours"]) (c_with_strategy : Cal P w K mg base "with_strategy" k (spWith K)) (c_best_against : Cal P w K mg base "best_against" k (spBest K)) : Cal P w K mg base "least_against" (k + 1) (spLeast K) := by
  refine D.ok sc_least_against (fun vs H Q E h => ?_) (fun f cdv A' outer s0 H vs Q E hr h => ?_)
  · obtain ⟨I, G, s, x, y, _, rfl, _⟩ := h
    rfl
  · obtain ⟨I, G, s, x, y, hs, rfl, hG, hw, hst1, hst, q⟩ := h
    refine ⟨_, (pss_one (ps_ret (pe_c c_best_against hr (by rfl) (pa_cons (pe_c c_with_strategy hr (by rfl) (pa_cons (pv 0) (pa_cons pe_str (pa_cons (pv 1) pa_nil)))) (pa_cons pe_str pa_nil))))), ?_⟩
    refine ⟨_, rfl, _, rfl, I, G, .ours, s, _, _, hs, rfl, hG, hw, (fun z => by cases z), hst1, hst, fun v I1 H1 g1 rv => ?_⟩
    refine ⟨I1, wS G .ours s, v, g1.s, rfl, rv, wS_wf hw hst, ws_noours, fun a y z I2 H2 g2 ht hn => ?_⟩
    rw [wS_len] at hn
    exact q a y z I2 H2 (g1.trans g2) ht hn
end
end OC
namespace OC
open PySem PySem.Spec PyProof.Rows L2
/-! ### the sides -/
def oth (sd : Kd) : Kd := if sd = .ours then .theirs else .ours
def own (G : Gm) (sd : Kd) (p : Nat) : Prop := if sd = .ours then kdOf G p = .ours else ¬ kdOf G p = .ours
def par (sd : Kd) : Nat := if sd = .ours then 0 else 1
def NoDraw (G : Gm) : Prop := ∀ p, p < G.length → kdOf G p ≠ .draw
section
variable {G : Gm} {sd : Kd} {p : Nat}
theorem oth_nd : oth sd ≠ .draw := by unfold oth; split <;> (intro z; cases z)
theorem own_iff (nd : NoDraw G) (hp : p < G.length) (hsd : sd ≠ .draw) : own G sd p ↔ kdOf G p = sd := by
  have := nd p hp
  unfold own
  cases sd with
  | draw => exact absurd rfl hsd
  | ours => simp
  | theirs =>
    rw [if_neg (by decide)]
    cases e : kdOf G p with
    | draw => exact absurd e this
    | ours => simp
    | theirs => simp
theorem own_oth (hsd : sd ≠ .draw) (p : Nat) : own G (oth sd) p ↔ ¬ own G sd p := by
  unfold own oth
  cases sd with
  | draw => exact absurd rfl hsd
  | ours => simp
  | theirs => simp
end
/-! ### a plan: a dict of branches by places -/
def vToN : V → Nat
  | .int z => z.toNat
  | _ => 0
def bD (kvs : List (Key × V)) (p : Nat) : Option Nat := (valV kvs (Sum.inl (p : Int))).map vToN
/-- keys are places, once each; values are branches -/
structure Pd (n : Nat) (kvs : List (Key × V)) : Prop where
  is : ∀ e ∈ kvs, ∃ p b : Nat, p < n ∧ e = ((Sum.inl (p : Int) : Key), vN b)
  nd : (kvs.map (·.1)).Nodup
section
variable {n : Nat} {kvs more : List (Key × V)} {p q b : Nat}
theorem Pd.nil : Pd n [] := ⟨fun e h => (nomatch h), List.nodup_nil⟩
theorem valV_mem {k : Key} {v : V} (h : valV kvs k = some v) : (k, v) ∈ kvs := by
  unfold valV at h
  cases e : kvs.find? (fun kv => decide (kv.1 = k)) with
  | none => rw [e] at h
            cases h
  | some kv =>
    rw [e] at h
    have h1 := List.mem_of_find?_eq_some e
    have h2 : kv.1 = k := of_decide_eq_true (List.find?_some (p := fun kv : Key × V => decide (kv.1 = k)) e)
    cases h
    rw [← h2]
    exact h1
theorem Pd.val (h : Pd n kvs) (p : Nat) : valV kvs (Sum.inl (p : Int)) = (bD kvs p).map vN := by
  unfold bD
  cases e : valV kvs (Sum.inl (p : Int)) with
  | none => rfl
  | some v =>
    obtain ⟨p', b, _, e'⟩ := h.is _ (valV_mem e)
    have : v = vN b := congrArg Prod.snd e'
    subst this
    rfl
theorem Pd.lt (h : Pd n kvs) {b : Nat} (e : bD kvs p = some b) : p < n := by
  have := h.val p
  rw [e] at this
  obtain ⟨p', b', h1, e'⟩ := h.is _ (valV_mem this)
  have : (Sum.inl (p : Int) : Key) = Sum.inl (p' : Int) := congrArg Prod.fst e'
  have := Int.ofNat.inj (Sum.inl.inj this)
  omega
theorem bD_put : bD (putK kvs (Sum.inl (p : Int)) (vN b)) q = if q = p then some b else bD kvs q := by
  unfold bD
  rw [valV_put]
  by_cases c : q = p
  · subst c
    rw [if_pos rfl, if_pos rfl]
    rfl
  · rw [if_neg (fun z : (Sum.inl (q : Int) : Key) = Sum.inl (p : Int) => c (Int.ofNat.inj (Sum.inl.inj z))), if_neg c]
open Classical in
theorem putK_keys (kvs : List (Key × V)) (k : Key) (v : V) : (putK kvs k v).map (·.1) = if k ∈ kvs.map (·.1) then kvs.map (·.1) else kvs.map (·.1) ++ [k] := by
  unfold putK
  by_cases c : k ∈ kvs.map (·.1)
  · rw [if_pos c, if_pos]
    · rw [List.map_map]
      refine List.map_congr_left fun e _ => ?_
      show (if e.1 = k then (e.1, v) else e).1 = e.1
      split <;> rfl
    · obtain ⟨e, h1, h2⟩ := List.mem_map.mp c
      exact List.any_eq_true.mpr ⟨e, h1, decide_eq_true h2⟩
  · rw [if_neg c, if_neg]
    · rw [List.map_append]; rfl
    · intro z
      obtain ⟨e, h1, h2⟩ := List.any_eq_true.mp z
      exact c (List.mem_map.mpr ⟨e, h1, of_decide_eq_true h2⟩)
theorem putK_mem {k : Key} {v : V} {e : Key × V} (h : e ∈ putK kvs k v) : e ∈ kvs ∨ e = (k, v) := by
  unfold putK at h
  split at h
  · obtain ⟨e', h1, h2⟩ := List.mem_map.mp h
    split at h2
    · rename_i c
      rw [← h2, c]; exact .inr rfl
    · rw [← h2]; exact .inl h1
  · rcases List.mem_append.mp h with z | z
    · exact .inl z
    · exact .inr (List.mem_singleton.mp z)
theorem Pd.put (h : Pd n kvs) (hp : p < n) : Pd n (putK kvs (Sum.inl (p : Int)) (vN b)) := by
  refine ⟨fun e he => ?_, ?_⟩
  · rcases putK_mem he with z | z
    · exact h.is e z
    · exact ⟨p, b, hp, z⟩
  · rw [putK_keys]
    split
    · exact h.nd
    · rename_i c
      rw [List.nodup_append]
      refine ⟨h.nd, by simp, fun a ha b hb => ?_⟩
      rw [List.mem_singleton.mp hb]
      exact fun z => c (z ▸ ha)
theorem Pd.merge : ∀ {more kvs : List (Key × V)}, Pd n kvs → Pd n more → Pd n (mergeK kvs more)
  | [], _, h, _ => h
  | e :: r, kvs, h, hm => by
    obtain ⟨p, b, hp, he⟩ := hm.is e List.mem_cons_self
    have hr : Pd n r := ⟨fun e he => hm.is e (List.mem_cons_of_mem _ he), (List.nodup_cons.mp hm.nd).2⟩
    have : Pd n (putK kvs e.1 e.2) := by rw [he]; exact h.put hp
    exact Pd.merge (more := r) this hr
theorem bD_merge : ∀ {more kvs : List (Key × V)}, Pd n more → ∀ q, bD (mergeK kvs more) q = (bD more q).or (bD kvs q)
  | [], _, _, q => rfl
  | e :: r, kvs, hm, q => by
    obtain ⟨p, b, hp, he⟩ := hm.is e List.mem_cons_self
    have hr : Pd n r := ⟨fun e he => hm.is e (List.mem_cons_of_mem _ he), (List.nodup_cons.mp hm.nd).2⟩
    have ih := bD_merge (kvs := putK kvs e.1 e.2) hr q
    have h1 : bD (mergeK kvs (e :: r)) q = bD (mergeK (putK kvs e.1 e.2) r) q := rfl
    rw [h1, ih, he, bD_put]
    have h2 : bD ((Sum.inl (p : Int), vN b) :: r) q = if q = p then some b else bD r q := by
      unfold bD
      by_cases c : q = p
      · subst c
        rw [if_pos rfl, valV_pos rfl]
        rfl
      · rw [if_neg c, valV_neg (fun z : (Sum.inl (p : Int) : Key) = Sum.inl (q : Int) => c (Int.ofNat.inj (Sum.inl.inj z)).symm)]
    rw [h2]
    by_cases c : q = p
    · subst c
      rw [if_pos rfl, if_pos rfl]
      have hno : bD r q = none := by
        cases z : bD r q with
        | none => rfl
        | some b' =>
          have := hr.val q
          rw [z] at this
          have := valV_mem this
          have nd := (List.nodup_cons.mp hm.nd).1
          rw [he] at nd
          exact absurd (List.mem_map.mpr ⟨_, this, rfl⟩) nd
      rw [hno]
      rfl
    · rw [if_neg c, if_neg c]
theorem nodup_len : ∀ {n : Nat} {l : List Nat}, l.Nodup → (∀ x ∈ l, x < n) → l.length ≤ n
  | 0, l, _, hl => by
    cases l with
    | nil => exact Nat.le_refl _
    | cons a l => exact absurd (hl a List.mem_cons_self) (Nat.not_lt_zero a)
  | n + 1, l, hn, hl => by
    have h1 := nodup_len (n := n) (hn.erase n) fun x hx => by
      have h2 := hl x (List.mem_of_mem_erase hx)
      have h3 : x ≠ n := fun z => by
        rw [z] at hx
        exact (List.Nodup.not_mem_erase hn) hx
      omega
    rw [List.length_erase] at h1
    split at h1 <;> omega
def kN : Key → Nat
  | .inl z => z.toNat
  | .inr _ => 0
theorem Pd.len (h : Pd n kvs) : kvs.length ≤ n := by
  have h0 : kvs.Pairwise (fun a b => a.1 ≠ b.1) := List.pairwise_map.mp h.nd
  have h1 : (kvs.map fun e => kN e.1).Nodup := List.pairwise_map.mpr (h0.imp_of_mem fun {x y} hx hy ne e => by
    obtain ⟨p, b, _, e1⟩ := h.is x hx
    obtain ⟨q, b', _, e2⟩ := h.is y hy
    subst e1 e2
    have e : p = q := e
    exact ne (by rw [e]))
  have := nodup_len h1 (n := n) fun z hz => by
    obtain ⟨x, hx, rfl⟩ := List.mem_map.mp hz
    obtain ⟨p, b, hp, e1⟩ := h.is x hx
    subst e1
    exact hp
  rw [List.length_map] at this
  exact this
end
/-- the place that a plan tells -/
def sgOf (G : Gm) (kvs : List (Key × V)) (p : Nat) : Nat := ((tsOf G p)[(bD kvs p).getD 0]?).getD 0
theorem sgOf_same {G : Gm} {kvs kvs' : List (Key × V)} {p : Nat} (h : bD kvs' p = bD kvs p) : sgOf G kvs' p = sgOf G kvs p := by unfold sgOf; rw [h]
end OC
namespace OC
open PySem PySem.Spec PyProof.Rows L2
/-! ### what pulled and won promise -/
structure PullR (G : Gm) (A : List Nat) (sd : Kd) (T F : List Nat) (kvs : List (Key × V)) : Prop where
  pd : Pd G.length kvs
  dom : ∀ p b, bD kvs p = some b → p ∈ F ∧ p ∉ T ∧ kdOf G p = sd
  br : ∀ p ∈ F, p ∉ T → kdOf G p = sd → ∃ b, bD kvs p = some b ∧ b < (tsOf G p).length
  attr : ∃ rho, Attr (own G sd) (Ed G) (fun p => p ∈ A) (fun p => p ∈ T) (fun p => p ∈ F) (sgOf G kvs) rho
abbrev WinS (G : Gm) (sd : Kd) (D A : Nat → Prop) (tau : Nat → Nat) : Prop := Wins (own G sd) (Ed G) (mkOf G) (par sd) D A tau
structure WonR (G : Gm) (sd : Kd) (A T : List Nat) (tauH : Nat → Nat) (K : List Nat) (kvs : List (Key × V)) : Prop where
  sub : ∀ p ∈ K, p ∈ A
  nd : K.Nodup
  pd : Pd G.length kvs
  dom : ∀ p b, bD kvs p = some b → p ∈ K ∧ p ∉ T
  br : ∀ p ∈ K, p ∉ T → kdOf G p = sd → ∃ b, bD kvs p = some b ∧ b < (tsOf G p).length
  home : ∀ p ∈ T, p ∈ K
  win : ∃ tau, (∀ p ∈ T, tau p = tauH p) ∧ (∀ p ∈ K, p ∉ T → own G sd p → tau p = sgOf G kvs p) ∧ WinS G sd (fun p => p ∈ K) (fun p => p ∈ A) tau
  lose : ∃ tau, WinS G (oth sd) (fun p => p ∈ A ∧ p ∉ K) (fun p => p ∈ A) tau
section
variable {G : Gm} {sd : Kd} {A A1 T T1 F R K K1 : List Nat} {kvs more : List (Key × V)} {tauH tau : Nat → Nat} {top : Nat}
theorem par_oth (hsd : sd ≠ .draw) {m : Nat} : m % 2 = par (oth sd) ↔ ¬ m % 2 = par sd := by
  unfold par oth
  cases sd with
  | draw => exact absurd rfl hsd
  | ours => simp
  | theirs => simp
theorem wins_eq {D D' B B' : Nat → Prop} (h : WinS G sd D B tau) (e : ∀ p, D p ↔ D' p) (e' : ∀ p, B p ↔ B' p) : WinS G sd D' B' tau := (h.same e).arena e'
theorem wins_none {B : Nat → Prop} : WinS G sd (fun p => p ∈ ([] : List Nat)) B tau := Wins.none.same fun p => ⟨fun z => z.elim, fun z => absurd z (by simp)⟩
theorem wins_none' {B : Nat → Prop} {D : Nat → Prop} (h : ∀ p, ¬ D p) : WinS G sd D B tau := Wins.none.same fun p => ⟨fun z => z.elim, fun z => (h p z).elim⟩
/-- some step within -/
theorem some_nu (s : Sub (Ed G) (fun p => p ∈ A)) : ∃ nu : Nat → Nat, ∀ p, p ∈ A → Ed G p (nu p) ∧ nu p ∈ A := by
  have : ∀ p, ∃ t, p ∈ A → Ed G p t ∧ t ∈ A := fun p => by
    by_cases c : p ∈ A
    · obtain ⟨t, h⟩ := s p c
      exact ⟨t, fun _ => h⟩
    · exact ⟨0, fun z => absurd z c⟩
  exact ⟨fun p => Classical.choose (this p), fun p hp => Classical.choose_spec (this p) hp⟩
/-- nothing lies beside home -/
theorem won_home (nd : A.Nodup) (hT : ∀ p ∈ T, p ∈ A) (hA : ∀ p ∈ A, p ∈ T) (hw : WinS G sd (fun p => p ∈ T) (fun p => p ∈ A) tauH) : WonR G sd A T tauH A [] where
  sub := fun _ h => h
  nd := nd
  pd := Pd.nil
  dom := fun p b h => by cases h
  br := fun p hp hn => absurd (hA p hp) hn
  home := hT
  win := ⟨tauH, fun _ _ => rfl, fun p hp hn => absurd (hA p hp) hn, wins_eq hw (fun p => ⟨hT p, hA p⟩) fun _ => Iff.rfl⟩
  lose := ⟨fun _ => 0, wins_none' fun p h => h.2 h.1⟩
/-- all of it: home, what is pulled to it, and a rest that is won -/
theorem won_all_home (a : PullR G A sd T F kvs) (hF : ∀ p ∈ F, p ∈ A) (nd : A.Nodup) (hR : ∀ p, p ∈ R ↔ p ∈ A ∧ p ∉ F) (r : WonR G sd R [] tau K more) (hK : ∀ p ∈ R, p ∈ K) (hw : WinS G sd (fun p => p ∈ T) (fun p => p ∈ A) tauH) :
    WonR G sd A T tauH A (mergeK kvs more) := by
  obtain ⟨rho, at_⟩ := a.attr
  obtain ⟨t2, _, w2, w3⟩ := r.win
  have hT : ∀ p ∈ T, p ∈ F := at_.has
  have hbm : ∀ p ∈ F, bD more p = none := fun p hp => by
    cases z : bD more p with
    | none => rfl
    | some b => exact absurd hp ((hR p).mp (r.sub p (r.dom p b z).1)).2
  have e1 : ∀ p ∈ F, bD (mergeK kvs more) p = bD kvs p := fun p hp => by rw [bD_merge r.pd, hbm p hp]; rfl
  have e2 : ∀ p ∈ R, kdOf G p = sd → bD (mergeK kvs more) p = bD more p := fun p hp hk => by
    obtain ⟨b, h1, _⟩ := r.br p (hK p hp) (by simp) hk
    rw [bD_merge r.pd, h1]; rfl
  have w3' : WinS G sd (fun p => p ∈ R) (fun p => p ∈ A ∧ ¬ p ∈ F) t2 := wins_eq w3 (fun p => ⟨r.sub p, hK p⟩) hR
  have u := (at_.wins hw).union w3'
  refine ⟨fun _ h => h, nd, a.pd.merge r.pd, fun p b h => ?_, fun p hp hn hk => ?_, fun p hp => hF p (hT p hp), ⟨_, fun p hp => ?_, fun p hp hn ho => ?_, wins_eq u (fun p => ⟨fun z => z.elim (hF p) fun z => ((hR p).mp z).1, fun z => (Classical.em (p ∈ F)).imp id fun y => (hR p).mpr ⟨z, y⟩⟩) fun _ => Iff.rfl⟩, ⟨fun _ => 0, wins_none' fun p h => h.2 h.1⟩⟩
  · rw [bD_merge r.pd] at h
    cases z : bD more p with
    | some b' => exact ⟨((hR p).mp (r.sub p (r.dom p b' z).1)).1, fun y => ((hR p).mp (r.sub p (r.dom p b' z).1)).2 (hT p y)⟩
    | none =>
      rw [z] at h
      exact ⟨hF p (a.dom p b h).1, (a.dom p b h).2.1⟩
  · by_cases c : p ∈ F
    · rw [e1 p c]; exact a.br p c hn hk
    · have c' := (hR p).mpr ⟨hp, c⟩
      rw [e2 p c' hk]; exact r.br p (hK p c') (by simp) hk
  · simp only [hT p hp, hp, if_true]
  · by_cases c : p ∈ F
    · simp only [c, hn, if_true, if_false]
      exact (sgOf_same (e1 p c)).symm
    · simp only [c, if_false]
      have c' := (hR p).mpr ⟨hp, c⟩
      have hk : ∀ b, bD more p = some b → bD (mergeK kvs more) p = bD more p := fun b h => by rw [bD_merge r.pd, h]; rfl
      rw [w2 p (hK p c') (by simp) ho]
      cases z : bD more p with
      | some b => exact (sgOf_same (hk b z)).symm
      | none =>
        have : bD kvs p = none := by
          cases y : bD kvs p with
          | none => rfl
          | some b => exact absurd (a.dom p b y).1 c
        exact (sgOf_same (by rw [bD_merge r.pd, z, this]; rfl)).symm
/-- all of it: the greatest mark is the side's -/
theorem won_all_top (a : PullR G A sd T F kvs) (hF : ∀ p ∈ F, p ∈ A) (nd : A.Nodup) (hR : ∀ p, p ∈ R ↔ p ∈ A ∧ p ∉ F) (r : WonR G sd R [] tau K more) (hK : ∀ p ∈ R, p ∈ K) (hT : ∀ p, p ∈ T ↔ p ∈ A ∧ mkOf G p = top)
    (hm : ∀ p ∈ A, mkOf G p ≤ top) (hp : top % 2 = par sd) {kvs' : List (Key × V)} (pd' : Pd G.length kvs') (hk1 : ∀ p, (p ∉ T ∨ ¬ kdOf G p = sd) → bD kvs' p = bD kvs p) (hk2 : ∀ p ∈ T, kdOf G p = sd → ∃ b t, bD kvs' p = some b ∧ (tsOf G p)[b]? = some t ∧ t ∈ A)
    (ho : ∀ p ∈ A, own G sd p → kdOf G p = sd) : WonR G sd A [] tauH A (mergeK kvs' more) := by
  obtain ⟨rho, at_⟩ := a.attr
  obtain ⟨t2, _, w2, w3⟩ := r.win
  have hTF : ∀ p ∈ T, p ∈ F := at_.has
  have eT : (fun p => p ∈ T) = (fun p => p ∈ A ∧ mkOf G p = top) := funext fun p => propext (hT p)
  rw [eT] at at_
  have w3' : WinS G sd (fun p => p ∈ A ∧ ¬ p ∈ F) (fun p => p ∈ A ∧ ¬ p ∈ F) t2 := wins_eq w3 (fun p => ⟨fun z => (hR p).mp (r.sub p z), fun z => hK p ((hR p).mpr z)⟩) hR
  have nu : ∀ p, p ∈ A → mkOf G p = top → own G sd p → Ed G p (sgOf G kvs' p) ∧ sgOf G kvs' p ∈ A := fun p hA he o => by
    obtain ⟨b, t, h1, h2, h3⟩ := hk2 p ((hT p).mpr ⟨hA, he⟩) (ho p hA o)
    have : sgOf G kvs' p = t := by unfold sgOf; rw [h1]; show ((tsOf G p)[b]?).getD 0 = t; rw [h2]; rfl
    rw [this]
    exact ⟨List.mem_of_getElem? h2, h3⟩
  have u := at_.top (nu := sgOf G kvs') hm hp nu w3'
  have hbm : ∀ p ∈ F, bD more p = none := fun p hp => by
    cases z : bD more p with
    | none => rfl
    | some b => exact absurd hp ((hR p).mp (r.sub p (r.dom p b z).1)).2
  have e1 : ∀ p ∈ F, bD (mergeK kvs' more) p = bD kvs' p := fun p hp => by rw [bD_merge r.pd, hbm p hp]; rfl
  refine ⟨fun _ h => h, nd, pd'.merge r.pd, fun p b h => ?_, fun p hp hn hk => ?_, fun p hp => absurd hp (by simp), ⟨_, fun p hp => absurd hp (by simp), fun p hp hn o => ?_, u⟩, ⟨fun _ => 0, wins_none' fun p h => h.2 h.1⟩⟩
  · refine ⟨?_, by simp⟩
    rw [bD_merge r.pd] at h
    cases z : bD more p with
    | some b' => exact ((hR p).mp (r.sub p (r.dom p b' z).1)).1
    | none =>
      rw [z] at h
      by_cases c : p ∈ T
      · exact ((hT p).mp c).1
      · rw [show (none : Option Nat).or (bD kvs' p) = bD kvs' p from rfl, hk1 p (.inl c)] at h
        exact hF p (a.dom p b h).1
  · by_cases c : p ∈ F
    · rw [e1 p c]
      by_cases c2 : p ∈ T
      · obtain ⟨b, t, h1, h2, _⟩ := hk2 p c2 hk
        exact ⟨b, h1, (List.getElem?_eq_some_iff.mp h2).1⟩
      · rw [hk1 p (.inl c2)]; exact a.br p c c2 hk
    · have c' := (hR p).mpr ⟨hp, c⟩
      obtain ⟨b, h1, h2⟩ := r.br p (hK p c') (by simp) hk
      exact ⟨b, by rw [bD_merge r.pd, h1]; rfl, h2⟩
  · have hk := ho p hp o
    by_cases c : p ∈ F
    · simp only [c, if_true]
      rw [sgOf_same (e1 p c)]
      by_cases c2 : mkOf G p = top
      · simp only [c2, if_true]
      · simp only [c2, if_false]
        exact (sgOf_same (hk1 p (.inl fun z => c2 ((hT p).mp z).2))).symm
    · simp only [c, if_false]
      have c' := (hR p).mpr ⟨hp, c⟩
      obtain ⟨b, h1, h2⟩ := r.br p (hK p c') (by simp) hk
      rw [w2 p (hK p c') (by simp) o]
      exact (sgOf_same (by rw [bD_merge r.pd, h1]; rfl)).symm
/-- nothing of it: the greatest mark is the other side's, and so is the rest -/
theorem won_nothing (s : Sub (Ed G) (fun p => p ∈ A)) (a : PullR G A (oth sd) T F kvs) (hF : ∀ p ∈ F, p ∈ A) (hR : ∀ p, p ∈ R ↔ p ∈ A ∧ p ∉ F) (r : WonR G sd R [] tau [] more) (hT : ∀ p, p ∈ T ↔ p ∈ A ∧ mkOf G p = top)
    (hm : ∀ p ∈ A, mkOf G p ≤ top) (hp : top % 2 = par (oth sd)) : WonR G sd A [] tauH [] [] := by
  obtain ⟨rho, at_⟩ := a.attr
  have eT : (fun p => p ∈ T) = (fun p => p ∈ A ∧ mkOf G p = top) := funext fun p => propext (hT p)
  rw [eT] at at_
  obtain ⟨t2, w2⟩ := r.lose
  obtain ⟨nu, hnu⟩ := some_nu s
  have w2' : WinS G (oth sd) (fun p => p ∈ A ∧ ¬ p ∈ F) (fun p => p ∈ A ∧ ¬ p ∈ F) t2 := wins_eq w2 (fun p => ⟨fun z => (hR p).mp z.1, fun z => ⟨(hR p).mpr z, by simp⟩⟩) hR
  have u := at_.top (nu := nu) hm hp (fun p hA _ _ => hnu p hA) w2'
  exact ⟨fun p h => absurd h (by simp), List.nodup_nil, Pd.nil, fun p b h => (by cases h), fun p hp => absurd hp (by simp), fun p hp => absurd hp (by simp), ⟨fun _ => 0, fun p hp => absurd hp (by simp), fun p hp => absurd hp (by simp), wins_none⟩, ⟨_, wins_eq u (fun p => ⟨fun z => ⟨z, by simp⟩, fun z => z.1⟩) fun _ => Iff.rfl⟩⟩
theorem won_empty (hA : ∀ p, p ∉ A) (hT : ∀ p ∈ T, p ∈ A) : WonR G sd A T tauH [] [] :=
  ⟨fun p h => absurd h (by simp), List.nodup_nil, Pd.nil, fun p b h => (by cases h), fun p hp => absurd hp (by simp), fun p hp => absurd (hT p hp) (hA p), ⟨tauH, fun _ _ => rfl, fun p hp => absurd hp (by simp), wins_none⟩, ⟨fun _ => 0, wins_none' fun p h => hA p h.1⟩⟩
/-- a rest that the side keeps, seen in the whole -/
theorem kept_lift (hsd : sd ≠ .draw) (a : PullR G A (oth sd) T F kvs) (hR : ∀ p, p ∈ R ↔ p ∈ A ∧ p ∉ F) (h : WinS G sd (fun p => p ∈ K) (fun p => p ∈ R) tau) : WinS G sd (fun p => p ∈ K) (fun p => p ∈ A) tau := by
  obtain ⟨rho, at_⟩ := a.attr
  exact h.lift (fun p hp => ((hR p).mp hp).1) fun p hp ho t e ht => (hR t).mpr ⟨ht, at_.outM p ((hR p).mp hp).1 ((hR p).mp hp).2 ((own_oth hsd p).mpr ho) t e ht⟩
/-- two plans, one behind the other -/
theorem won_twice (r : WonR G sd R [] tau K kvs) (hRA : ∀ p ∈ R, p ∈ A) {t1 : Nat → Nat} (ht : ∀ p ∈ K, own G sd p → t1 p = sgOf G kvs p) (m : WonR G sd A K t1 K1 more) (ho : ∀ p ∈ A, own G sd p → kdOf G p = sd) : WonR G sd A [] tauH K1 (mergeK more kvs) := by
  obtain ⟨t2, w1, w2, w3⟩ := m.win
  have e1 : ∀ p ∈ K, kdOf G p = sd → bD (mergeK more kvs) p = bD kvs p := fun p hp hk => by
    obtain ⟨b, h1, _⟩ := r.br p hp (by simp) hk
    rw [bD_merge r.pd, h1]; rfl
  have e2 : ∀ p, p ∉ K → bD (mergeK more kvs) p = bD more p := fun p hp => by
    have : bD kvs p = none := by
      cases z : bD kvs p with
      | none => rfl
      | some b => exact absurd (r.dom p b z).1 hp
    rw [bD_merge r.pd, this]; rfl
  refine ⟨m.sub, m.nd, m.pd.merge r.pd, fun p b h => ?_, fun p hp hn hk => ?_, fun p hp => absurd hp (by simp), ⟨t2, fun p hp => absurd hp (by simp), fun p hp hn o => ?_, w3⟩, m.lose⟩
  · refine ⟨?_, by simp⟩
    by_cases c : p ∈ K
    · exact m.home p c
    · rw [e2 p c] at h; exact (m.dom p b h).1
  · by_cases c : p ∈ K
    · rw [e1 p c hk]; exact r.br p c (by simp) hk
    · rw [e2 p c]; exact m.br p hp c hk
  · by_cases c : p ∈ K
    · rw [w1 p c, ht p c o]
      exact (sgOf_same (e1 p c (ho p (m.sub p hp) o))).symm
    · rw [w2 p hp c o]
      exact (sgOf_same (e2 p c)).symm
/-- what is left of the arena when the other side's part is gone -/
structure Left (G : Gm) (sd : Kd) (A T : List Nat) (tauH : Nat → Nat) (A1 T1 : List Nat) : Prop where
  sub : ∀ p ∈ A1, p ∈ A
  nd : A1.Nodup
  step : Sub (Ed G) (fun p => p ∈ A1)
  home : ∀ p, p ∈ T1 ↔ p ∈ T
  hin : ∀ p ∈ T1, p ∈ A1
  hw : WinS G sd (fun p => p ∈ T1) (fun p => p ∈ A1) tauH
  gone : ∃ tau, WinS G (oth sd) (fun p => p ∈ A ∧ p ∉ A1) (fun p => p ∈ A) tau
  out : ∀ p ∈ A1, ¬ own G sd p → ∀ t, Ed G p t → t ∈ A → t ∈ A1
theorem Left.first (nd : A.Nodup) (s : Sub (Ed G) (fun p => p ∈ A)) (hT : ∀ p ∈ T, p ∈ A) (hw : WinS G sd (fun p => p ∈ T) (fun p => p ∈ A) tauH) (eA : ∀ p, p ∈ A1 ↔ p ∈ A) (eT : ∀ p, p ∈ T1 ↔ p ∈ T) (nd1 : A1.Nodup) : Left G sd A T tauH A1 T1 where
  sub := fun p h => (eA p).mp h
  nd := nd1
  step := fun p hp => let ⟨t, h1, h2⟩ := s p ((eA p).mp hp); ⟨t, h1, (eA t).mpr h2⟩
  home := eT
  hin := fun p hp => (eA p).mpr (hT p ((eT p).mp hp))
  hw := wins_eq hw (fun p => (eT p).symm) fun p => (eA p).symm
  gone := ⟨fun _ => 0, wins_none' fun p h => h.2 ((eA p).mpr h.1)⟩
  out := fun p _ _ t _ ht => (eA t).mpr ht
/-- the answer for what is left is the answer for all -/
theorem Left.fin (l : Left G sd A T tauH A1 T1) (hsd : sd ≠ .draw) (r : WonR G sd A1 T1 tauH K kvs) : WonR G sd A T tauH K kvs := by
  obtain ⟨t, w1, w2, w3⟩ := r.win
  obtain ⟨g, hg⟩ := l.gone
  obtain ⟨t', h'⟩ := r.lose
  have h2 : WinS G (oth sd) (fun p => p ∈ A1 ∧ p ∉ K) (fun p => p ∈ A ∧ ¬ (p ∈ A ∧ p ∉ A1)) t' := h'.arena fun p => ⟨fun z => ⟨l.sub p z, fun y => y.2 z⟩, fun z => Classical.byContradiction fun y => z.2 ⟨z.1, y⟩⟩
  refine ⟨fun p hp => l.sub p (r.sub p hp), r.nd, r.pd, fun p b h => ⟨(r.dom p b h).1, fun z => (r.dom p b h).2 ((l.home p).mpr z)⟩, fun p hp hn hk => r.br p hp (fun z => hn ((l.home p).mp z)) hk, fun p hp => r.home p ((l.home p).mpr hp), ⟨t, fun p hp => w1 p ((l.home p).mpr hp), fun p hp hn o => w2 p hp (fun z => hn ((l.home p).mp z)) o, w3.lift l.sub l.out⟩, ⟨_, wins_eq (hg.union h2) (fun p => ⟨fun z => ?_, fun z => ?_⟩) fun _ => Iff.rfl⟩⟩
  · rcases z with z | z
    · exact ⟨z.1, fun y => z.2 (r.sub p y)⟩
    · exact ⟨l.sub p z.1, z.2⟩
  · by_cases c : p ∈ A1
    · exact .inr ⟨c, z.2⟩
    · exact .inl ⟨z.1, c⟩
/-- a round more -/
theorem Left.next {F2 A2 T2 Lo : List Nat} {kvs2 : List (Key × V)} (l : Left G sd A T tauH A1 T1) (hsd : sd ≠ .draw) {T0 : List Nat} (a : PullR G A1 sd T0 F kvs) (hT0 : ∀ p ∈ T1, p ∈ T0) (hF : ∀ p ∈ F, p ∈ A1) (hR : ∀ p, p ∈ R ↔ p ∈ A1 ∧ p ∉ F) (r : WonR G sd R [] tau K more)
    (hLo : ∀ p, p ∈ Lo ↔ p ∈ R ∧ p ∉ K) (b : PullR G A1 (oth sd) Lo F2 kvs2) (hA2 : ∀ p, p ∈ A2 ↔ p ∈ A1 ∧ p ∉ F2) (nd2 : A2.Nodup) (hT2 : ∀ p, p ∈ T2 ↔ p ∈ T1 ∧ p ∉ F2) : Left G sd A T tauH A2 T2 := by
  obtain ⟨rho, at_⟩ := a.attr
  obtain ⟨rho2, bt⟩ := b.attr
  have hhF : ∀ p ∈ T1, p ∈ F := fun p hp => at_.has p (hT0 p hp)
  have apart : ∀ p ∈ T1, p ∉ F2 := fun p hp => Attr.apart (own' := own G sd) (own := own G (oth sd)) l.hw (fun p => ⟨fun h z => (own_oth hsd p).mp z h, fun h => Classical.byContradiction fun y => h ((own_oth hsd p).mpr y)⟩) bt
    (fun q hq z => ((hR q).mp ((hLo q).mp z).1).2 (hhF q hq)) l.step _ p (Nat.le_refl _) hp
  have eT : ∀ p, p ∈ T2 ↔ p ∈ T1 := fun p => (hT2 p).trans ⟨fun z => z.1, fun z => ⟨z, apart p z⟩⟩
  have hin2 : ∀ p ∈ T2, p ∈ A2 := fun p hp => (hA2 p).mpr ⟨l.hin p ((eT p).mp hp), apart p ((eT p).mp hp)⟩
  obtain ⟨g, hg⟩ := l.gone
  obtain ⟨t', h'⟩ := r.lose
  have lift : WinS G (oth sd) (fun p => p ∈ Lo) (fun p => p ∈ A1) t' := by
    have : WinS G (oth sd) (fun p => p ∈ Lo) (fun p => p ∈ R) t' := h'.same fun p => (hLo p).symm
    refine this.lift (fun p hp => ((hR p).mp hp).1) fun p hp ho t e ht => (hR t).mpr ⟨ht, at_.outM p ((hR p).mp hp).1 ((hR p).mp hp).2 (Classical.byContradiction fun y => ho ((own_oth hsd p).mpr y)) t e ht⟩
  have w2 := bt.wins lift
  have w2' : Wins (own G (oth sd)) (Ed G) (mkOf G) (par (oth sd)) (fun p => p ∈ F2) (fun p => p ∈ A ∧ ¬ (p ∈ A ∧ p ∉ A1)) _ := w2.arena fun p => ⟨fun z => ⟨l.sub p z, fun y => y.2 z⟩, fun z => Classical.byContradiction fun y => z.2 ⟨z.1, y⟩⟩
  refine ⟨fun p hp => l.sub p ((hA2 p).mp hp).1, nd2, fun p hp => ?_, fun p => (eT p).trans (l.home p), hin2, ?_, ⟨_, wins_eq (hg.union w2') (fun p => ⟨fun z => ?_, fun z => ?_⟩) fun _ => Iff.rfl⟩, fun p hp ho t e ht => ?_⟩
  · obtain ⟨t, h1, h2⟩ := bt.subgame l.step p ((hA2 p).mp hp)
    exact ⟨t, h1, (hA2 t).mpr h2⟩
  · have := l.hw.less (B := fun p => p ∈ A2) (fun p hp => ((hA2 p).mp hp).1) fun p hp => hin2 p ((eT p).mpr hp)
    exact this.same fun p => (eT p).symm
  · rcases z with z | z
    · exact ⟨z.1, fun y => z.2 ((hA2 p).mp y).1⟩
    · exact ⟨l.sub p (bt.sub p z), fun y => ((hA2 p).mp y).2 z⟩
  · by_cases c : p ∈ A1
    · exact .inr (Classical.byContradiction fun y => z.2 ((hA2 p).mpr ⟨c, y⟩))
    · exact .inl ⟨z.1, c⟩
  · have h1 := l.out p ((hA2 p).mp hp).1 ho t e ht
    exact (hA2 t).mpr ⟨h1, bt.outM p ((hA2 p).mp hp).1 ((hA2 p).mp hp).2 ((own_oth hsd p).mpr ho) t e h1⟩
end
end OC
namespace OC
open PySem PySem.Spec PyProof.Rows L2
/-! ### the module's dict of the sides -/
def Oth (K : PySem.W.Frag) (w : World) (mg : Str → Option Value) : Prop := ∃ a, mg "OTHER" = some (.ref a) ∧ KDct K w a "ours" (.str "theirs") ∧ KDct K w a "theirs" (.str "ours")
theorem ix_kdK {X : Cx} (K : PySem.W.Frag) (w : World) (h : X.K = K := by rfl) (h2 : X.w = w := by rfl) : IxR X (rIxD K w) := by subst h h2; exact ix_kdict
theorem Oth.at {K : PySem.W.Frag} {w : World} {a : Addr} {sd : Kd} (h1 : KDct K w a "ours" (.str "theirs")) (h2 : KDct K w a "theirs" (.str "ours")) (hsd : sd ≠ .draw) : KDct K w a (kS sd) (.str (kS (oth sd))) := by
  cases sd with
  | draw => exact absurd rfl hsd
  | ours => exact h1
  | theirs => exact h2
/-- the first that is so -/
theorem first_at {l : List Nat} {p : Nat → Prop} (h : ∃ t ∈ l, p t) : ∃ (j t : Nat), l[j]? = some t ∧ p t ∧ ∀ m t', m < j → l[m]? = some t' → ¬ p t' := by
  induction l with
  | nil => obtain ⟨t, ht, _⟩ := h; cases ht
  | cons a l ih =>
    by_cases c : p a
    · exact ⟨0, a, rfl, c, fun m t' hm => absurd hm (Nat.not_lt_zero m)⟩
    · obtain ⟨t, ht, hp⟩ := h
      have : t ∈ l := (List.mem_cons.mp ht).resolve_left fun z => c (z ▸ hp)
      obtain ⟨j, t, h1, h2, h3⟩ := ih ⟨t, this, hp⟩
      refine ⟨j + 1, t, by simpa using h1, h2, fun m t' hm ht' => ?_⟩
      cases m with
      | zero => simp at ht'; rw [← ht']; exact c
      | succ m => exact h3 m t' (by omega) (by simpa using ht')
/-- what is pulled so far -/
structure Pi (G : Gm) (A : List Nat) (sd : Kd) (T F : List Nat) (kvs : List (Key × V)) : Prop where
  pd : Pd G.length kvs
  dom : ∀ p b, bD kvs p = some b → p ∈ F ∧ p ∉ T ∧ kdOf G p = sd
  br : ∀ p ∈ F, p ∉ T → kdOf G p = sd → ∃ b, bD kvs p = some b ∧ b < (tsOf G p).length
  has : ∀ p ∈ T, p ∈ F
  sub : ∀ p ∈ F, p ∈ A
  mine : ∀ p ∈ F, p ∉ T → own G sd p → Ed G p (sgOf G kvs p) ∧ sgOf G kvs p ∈ F ∧ F.idxOf (sgOf G kvs p) < F.idxOf p
  yours : ∀ p ∈ F, p ∉ T → ¬ own G sd p → ∀ t, Ed G p t → t ∈ A → t ∈ F ∧ F.idxOf t < F.idxOf p
  len : F.length + cnt G.length (fun x => x ∉ F) ≤ T.length + G.length
def Shut (G : Gm) (A : List Nat) (sd : Kd) (F : List Nat) (p : Nat) : Prop := (own G sd p → ∀ t, Ed G p t → t ∈ A → t ∉ F) ∧ (¬ own G sd p → ∃ t, Ed G p t ∧ t ∈ A ∧ t ∉ F)
section
variable {G : Gm} {A T F : List Nat} {sd : Kd} {kvs : List (Key × V)} {p b t : Nat}
theorem Pi.first (hT : ∀ p ∈ T, p ∈ A) : Pi G A sd T T [] where
  pd := Pd.nil
  dom := fun p b h => by cases h
  br := fun p hp hn => absurd hp hn
  has := fun _ h => h
  sub := hT
  mine := fun p hp hn => absurd hp hn
  yours := fun p hp hn => absurd hp hn
  len := Nat.add_le_add_left cnt_bound _
theorem Pi.fin (h : Pi G A sd T F kvs) (hs : ∀ p ∈ A, p ∉ F → Shut G A sd F p) : PullR G A sd T F kvs where
  pd := h.pd
  dom := h.dom
  br := h.br
  attr := ⟨fun p => F.idxOf p, h.has, h.sub, h.mine, h.yours, fun p hp hn o => (hs p hp hn).1 o, fun p hp hn o => (hs p hp hn).2 o⟩
theorem idx_old {q : Nat} (hq : q ∈ F) : (F ++ [p]).idxOf q = F.idxOf q := by rw [List.idxOf_append, if_pos hq]
theorem idx_lt {q : Nat} (hp : p ∉ F) (hq : q ∈ F) : (F ++ [p]).idxOf q < (F ++ [p]).idxOf p := by
  rw [idx_old hq, List.idxOf_append, if_neg hp]
  have := List.idxOf_lt_length_of_mem hq
  omega
theorem Pi.put {kvs' : List (Key × V)} (h : Pi G A sd T F kvs) (hp : p ∈ A) (hn : p ∉ F) (hpn : p < G.length) (pd' : Pd G.length kvs') (hk : ∀ q, q ≠ p → bD kvs' q = bD kvs q)
    (hd : ∀ b, bD kvs' p = some b → kdOf G p = sd) (hb : kdOf G p = sd → ∃ b, bD kvs' p = some b ∧ b < (tsOf G p).length) (hm : own G sd p → Ed G p (sgOf G kvs' p) ∧ sgOf G kvs' p ∈ F) (hy : ¬ own G sd p → ∀ t, Ed G p t → t ∈ A → t ∈ F) :
    Pi G A sd T (F ++ [p]) kvs' ∧ cnt G.length (fun x => x ∉ F ++ [p]) < cnt G.length (fun x => x ∉ F) := by
  have c := cnt_out hpn hn
  have pT : p ∉ T := fun z => hn (h.has p z)
  have mem : ∀ {q}, q ∈ F ++ [p] → q ∈ F ∨ q = p := fun z => (List.mem_append.mp z).imp id fun y => List.mem_singleton.mp y
  refine ⟨⟨pd', fun q b hq => ?_, fun q hq hT hk' => ?_, fun q hq => List.mem_append_left _ (h.has q hq), fun q hq => (mem hq).elim (h.sub q) fun z => z ▸ hp, fun q hq hT o => ?_, fun q hq hT o t e ht => ?_, ?_⟩, c⟩
  · by_cases z : q = p
    · subst z; exact ⟨by simp, pT, hd b hq⟩
    · rw [hk q z] at hq
      obtain ⟨h1, h2, h3⟩ := h.dom q b hq
      exact ⟨List.mem_append_left _ h1, h2, h3⟩
  · by_cases z : q = p
    · subst z; exact hb hk'
    · rw [hk q z]; exact h.br q ((mem hq).resolve_right z) hT hk'
  · by_cases z : q = p
    · subst z
      obtain ⟨h1, h2⟩ := hm o
      exact ⟨h1, List.mem_append_left _ h2, idx_lt hn h2⟩
    · have hqF := (mem hq).resolve_right z
      obtain ⟨h1, h2, h3⟩ := h.mine q hqF hT o
      rw [sgOf_same (hk q z)]
      exact ⟨h1, List.mem_append_left _ h2, by rw [idx_old h2, idx_old hqF]; exact h3⟩
  · by_cases z : q = p
    · subst z
      have h2 := hy o t e ht
      exact ⟨List.mem_append_left _ h2, idx_lt hn h2⟩
    · have hqF := (mem hq).resolve_right z
      obtain ⟨h2, h3⟩ := h.yours q hqF hT o t e ht
      exact ⟨List.mem_append_left _ h2, by rw [idx_old h2, idx_old hqF]; exact h3⟩
  · have := h.len
    rw [List.length_append]
    show F.length + 1 + _ ≤ _
    omega
end
section
variable {P : Program} {w : World} {K : PySem.W.Frag} {mg : Str → Option Value} {base : Heap} {k : Nat}
def spInside (K : PySem.W.Frag) : Sp := fun vs H Q _ => ∃ I G A p x y, Same I H ∧ vs = [x, y, vN p] ∧ (rG K).rel G x I ∧ rNs.rel A y I ∧ Wf G ∧ p < G.length ∧ (∃ t, Ed G p t ∧ t ∈ A) ∧ ∀ (b t : Nat) I' H', Gr I H I' H' → (tsOf G p)[b]? = some t → t ∈ A → Q (vN b) H'
abbrev s_inside : Stmt := topS 49
theorem sc_inside : FnScope ["game", "arena", "place", "target"] ["game", "arena", "place"] (defScope s_inside) := ⟨rfl, rfl, rfl, by decide +kernel, rfl, by decide +kernel, by decide +kernel⟩
theorem c_inside (D : Dn K mg "inside" s_inside ["game", "arena", "place"]) (c_targets : Cal P w K mg base "targets" k (spTargets K)) : Cal P w K mg base "inside" (k + 1) (spInside K) := by
  refine D.ok sc_inside (fun vs H Q E h => ?_) (fun f cdv A' outer s0 H vs Q E hr h => ?_)
  · obtain ⟨I, G, A, p, x, y, _, rfl, _⟩ := h
    rfl
  · obtain ⟨I, G, A, p, x, y, hs, rfl, hG, ⟨b, rfl, hb⟩, hw, hp, hex, q⟩ := h
    refine ⟨_, (pss_one (ps_ret (pe_bm PySem.F.plainAttrs_list PySem.F.slot_list_index PySem.F.type_list_index (mt_indexT K) (pe_lc (own := [("target", 3)]) (g := gName 3) rfl sc_inside.nd (pi_list (pe_c c_targets hr (by rfl) (pa_cons (pv 0) (pa_cons (pv 2) pa_nil)))) (blkOk_by (own := [("target", 3)]) (N := ["game", "arena", "place", "target"]) (sc := defScope s_inside) (by decide +kernel)) (fun _ _ _ _ _ => (pg_name (i := 3) sc_inside.nd rfl (Or.inl rfl))) (fun _ _ _ _ _ => pts_nil) (fun _ _ _ _ _ => (pe_cmpR (op_inN K) (pv 3) (pv 1) (by rfl)))) (pa_cons pe_bl pa_nil)))), ?_⟩
    have tl := hw.some p hp
    refine ⟨_, rfl, _, rfl, I, G, p, x, hs, rfl, hG, hw, hp, fun D1 I1 H1 g1 mu => ?_⟩
    have gs := g1.stop mu
    refine ⟨D1, rfl, ⟨_, sqH mu.h⟩, lc_flat (v := V.bl) (f := fun _ => true) (m := fun t => decide (t ∈ A)) (src_listF upd_same) gs.s (by omega) (fun e xe I2 H2 he re g2 Qg kk => ?_) (fun D2 I2 H2 g2 mu2 => ?_)⟩
    · have re : xe = vN e := re
      subst re
      refine kk _ rfl (evYes g2.s) (fun I3 H3 g3 _ Q2 q2 => ?_)
      have gi := (gs.trans g2).trans g3
      exact ⟨_, rfl, _, rfl, b, A, e, rfl, rfl, sqH (gi.s _ _ (gi.i _ _ hb)), q2 _ I3 H3 (Gr.refl g3.s) rfl⟩
    · rw [filter_yes] at mu2
      obtain ⟨j, t, h1, h2, h3⟩ := first_at (l := tsOf G p) (p := fun t => t ∈ A) hex
      refine ⟨.inl ⟨rfl, _, sqH mu2.h⟩, D2, _, j, rfl, rfl, sqH mu2.h, by rw [List.getElem?_map, h1]; show some (decide (t ∈ A)) = _; rw [decide_eq_true h2], fun m hm z => ?_, q j t I2 H2 (gs.trans g2) h1 h2⟩
      rw [List.getElem?_map] at z
      cases e : (tsOf G p)[m]? with
      | none => rw [e] at z; cases z
      | some t' =>
        rw [e] at z
        exact h3 m t' hm e (of_decide_eq_true (Option.some.inj z))
def spPulled (K : PySem.W.Frag) : Sp := fun vs H Q _ => ∃ I G A sd T x y z, Same I H ∧ vs = [x, y, .str (kS sd), z] ∧ (rG K).rel G x I ∧ rNs.rel A y I ∧ rNs.rel T z I ∧ Wf G ∧ NoDraw G ∧ sd ≠ .draw ∧ (∀ p ∈ A, p < G.length) ∧ (∀ p ∈ T, p ∈ A) ∧ Sub (Ed G) (fun p => p ∈ A) ∧ T.length ≤ 24 ∧ A.length ≤ 24 ∧
  ∀ t f d I' H' F kvs, Gr I H I' H' → SqT K I' t [.ref f, .ref d] → I' f = some (.lst (F.map vN)) → Mu H I' H' d (.dK kvs) → PullR G A sd T F kvs → (∀ p ∈ F, p ∈ A) → F.length ≤ 50 → Q (.ref t) H'
theorem Mu.beside {H0 I H : Hp} {p q : Addr} {o u : HO} (m : Mu H0 I H p o) (ne : p ≠ q) : Mu H0 (upd I q u) H p o := ⟨m.b, by rw [upd_ne ne]; exact m.i, m.h⟩
/-- a or b, once each -/
theorem orT {al b : Bool} {u : TT} {σ : L2.St} {H : Hp} {Q : Bool → Hp → Prop} (h : Q (al || b) H) (hu : ∀ Q' : Bool → Hp → Prop, Q' b H → u σ H Q') : if al = true then Q true H else u σ H Q := by
  cases al with
  | true => exact h
  | false => exact hu Q h
def Pull1 (G : Gm) (A : List Nat) (sd : Kd) (F : List Nat) (p : Nat) : Prop := (own G sd p ∧ ∃ t, Ed G p t ∧ t ∈ F) ∨ (¬ own G sd p ∧ ∀ t, Ed G p t → t ∈ A → t ∈ F)
theorem pull_cond {G : Gm} {A F : List Nat} {sd : Kd} {p : Nat} (hF : ∀ q ∈ F, q ∈ A) (hs : ∃ t, Ed G p t ∧ t ∈ A) {o : Bool} (ho : o = true ↔ own G sd p) :
    ((((tsOf G p).filter fun t => decide (t ∈ A)).map fun t => decide (t ∈ F)).all id || (o && (((tsOf G p).filter fun t => decide (t ∈ A)).map fun t => decide (t ∈ F)).any id)) = true ↔ Pull1 G A sd F p := by
  rw [Bool.or_eq_true, Bool.and_eq_true, ho, List.all_map, List.any_map, List.all_eq_true, List.any_eq_true]
  have mem : ∀ t, t ∈ (tsOf G p).filter (fun t => decide (t ∈ A)) ↔ Ed G p t ∧ t ∈ A := fun t => by rw [List.mem_filter, decide_eq_true_iff]; rfl
  constructor
  · rintro (h | ⟨h1, t, h2, h3⟩)
    · have all : ∀ t, Ed G p t → t ∈ A → t ∈ F := fun t e ht => of_decide_eq_true (h t ((mem t).mpr ⟨e, ht⟩))
      by_cases c : own G sd p
      · obtain ⟨t, e, ht⟩ := hs
        exact .inl ⟨c, t, e, all t e ht⟩
      · exact .inr ⟨c, all⟩
    · exact .inl ⟨h1, t, ((mem t).mp h2).1, of_decide_eq_true h3⟩
  · rintro (⟨h1, t, h2, h3⟩ | ⟨h1, h2⟩)
    · exact .inr ⟨h1, t, (mem t).mpr ⟨h2, hF t h3⟩, decide_eq_true h3⟩
    · exact .inl fun t ht => decide_eq_true (h2 t ((mem t).mp ht).1 ((mem t).mp ht).2)
theorem shut_of {G : Gm} {A F : List Nat} {sd : Kd} {p : Nat} (h : ¬ Pull1 G A sd F p) : Shut G A sd F p := by
  refine ⟨fun o t e _ hf => h (.inl ⟨o, t, e, hf⟩), fun o => Classical.byContradiction fun z => h (.inr ⟨o, fun t e ht => Classical.byContradiction fun y => z ⟨t, e, ht, y⟩⟩)⟩
theorem oth_ne {sd k : Kd} (h : sd ≠ .draw) (hk : k ≠ .draw) : (!decide (V.str (kS k) = V.str (kS (oth sd)))) = decide (k = sd) := by
  cases sd with
  | draw => exact absurd rfl h
  | ours => cases k <;> first | exact absurd rfl hk | decide +kernel
  | theirs => cases k <;> first | exact absurd rfl hk | decide +kernel
def wPu (H I : Hp) (G : Gm) (A : List Nat) (sd : Kd) (T : List Nat) (x y z : V) (pf pd : Addr) (m : Nat) (σ : L2.St) (H1 : Hp) : Prop :=
  ∃ (I1 : Hp) (z7 z8 z9 z10 : Option V) (F : List Nat) (kvs : List (Key × V)) (ch : Bool), Gr I H I1 H1 ∧ σ = [some x, some y, some (.str (kS sd)), some z, some (.ref pf), some (.ref pd), some (.bl ch), z7, z8, z9, z10, none] ∧ Mu H I1 H1 pf (.lst (F.map vN)) ∧ Mu H I1 H1 pd (.dK kvs) ∧ pf ≠ pd ∧
    Pi G A sd T F kvs ∧ (ch = false → ∀ p ∈ A, p ∉ F → Shut G A sd F p) ∧ m = 2 * cnt G.length (fun x => x ∉ F) + ch.toNat
def iPu (H : Hp) (G : Gm) (A : List Nat) (sd : Kd) (T F0 : List Nat) (x y z : V) (pf pd : Addr) (i : Nat) (σ : L2.St) (I1 H1 : Hp) : Prop :=
  ∃ (z7 z8 z9 z10 : Option V) (F : List Nat) (kvs : List (Key × V)) (ch : Bool), σ = [some x, some y, some (.str (kS sd)), some z, some (.ref pf), some (.ref pd), some (.bl ch), z7, z8, z9, z10, none] ∧ Mu H I1 H1 pf (.lst (F.map vN)) ∧ Mu H I1 H1 pd (.dK kvs) ∧
    Pi G A sd T F kvs ∧ (ch = false → F = F0 ∧ ∀ p ∈ A.take i, p ∉ F → Shut G A sd F p) ∧ (ch = true → cnt G.length (fun x => x ∉ F) < cnt G.length (fun x => x ∉ F0))
abbrev s_pulled : Stmt := topS 48
theorem sc_pulled : FnScope ["game", "arena", "side", "goals", "found", "plan", "changed", "place", "kind", "ways", "hits", "target"] ["game", "arena", "side", "goals"] (defScope s_pulled) := ⟨rfl, rfl, rfl, by decide +kernel, rfl, by decide +kernel, by decide +kernel⟩
theorem c_pulled (D : Dn K mg "pulled" s_pulled ["game", "arena", "side", "goals"]) (m_list : mg "list" = none) (m_all : mg "all" = none) (m_any : mg "any" = none) (ot : Oth K w mg) (c_targets : Cal P w K mg base "targets" k (spTargets K)) : Cal P w K mg base "pulled" (k + 1) (spPulled K) := by
  obtain ⟨aO, m_OTHER, ot1, ot2⟩ := ot
  refine D.ok sc_pulled (fun vs H Q E h => ?_) (fun f cdv A' outer s0 H vs Q E hr h => ?_)
  · obtain ⟨I, G, A, sd, T, x, y, z, _, rfl, _⟩ := h
    rfl
  · obtain ⟨I, G, A, sd, T, x, y, z, hs, rfl, hG, ⟨ba, rfl, hba⟩, ⟨bt, rfl, hbt⟩, hw, nd, hsd, hAn, hT, hsub, tlen, alen, q⟩ := h
    have hu := hu_of hr
    refine ⟨_, (pss_cons (ps_set (i := 4) sc_pulled.nd rfl (Or.inr rfl) (pe_callTy call_list_of (by rfl) m_list (by decide +kernel) (pa_cons (pv 3) pa_nil)))
      (pss_cons (ps_set (i := 5) sc_pulled.nd rfl (Or.inl rfl) pe_dnewK)
      (pss_cons (ps_set (i := 6) sc_pulled.nd rfl (Or.inl rfl) pe_bl)
      (pss_cons (ps_while PassesOwn.never (pt_val (pv 6))
      (pss_cons (ps_set (i := 6) sc_pulled.nd rfl (Or.inl rfl) pe_bl)
      (pss_one (ps_for PassesOwn.never rfl (pi_list (pv 1)) (pg_name (i := 7) sc_pulled.nd rfl (Or.inl rfl))
      (pss_cons (ps_if (pt_cmpR (op_inN K) (pv 7) (pv 4) (by rfl))
      (pss_one ps_continue) pss_nil)
      (pss_cons (ps_set (i := 8) sc_pulled.nd rfl (Or.inr rfl) (pe_ix (ix_tupK K) (pe_ix (ix_N K) (pv 0) (pv 7) (fun _ _ => rfl)) pe_int (fun _ _ => rfl)))
      (pss_cons (ps_setLc (i := 9) (own := [("target", 11)]) (g := gName 11) (by rfl) sc_pulled.nd rfl rfl (sw_true rfl rfl rfl (by decide +kernel)) (pi_list (pe_c c_targets hr (by rfl) (pa_cons (pv 0) (pa_cons (pv 7) pa_nil)))) (blkOk_by (own := [("target", 11)]) (N := ["game", "arena", "side", "goals", "found", "plan", "changed", "place", "kind", "ways", "hits", "target"]) (sc := defScope s_pulled) (by decide +kernel)) (fun _ _ _ _ _ => (pg_name (i := 11) sc_pulled.nd rfl (Or.inl rfl))) (fun _ _ _ _ _ => pts_one (PW.pt (pw_or (pt_cmpR (op_inN K) (pv 11) (pv 1) (by rfl)) (pw_or1 (pt_cmpR op_eq (pv 8) pe_str (nomark _)))))) (fun _ _ _ _ _ => (pv 11)))
      (pss_cons (ps_setLc (i := 10) (own := [("target", 11)]) (g := gName 11) (by rfl) sc_pulled.nd rfl rfl (sw_true rfl rfl rfl (by decide +kernel)) (pi_list (pv 9)) (blkOk_by (own := [("target", 11)]) (N := ["game", "arena", "side", "goals", "found", "plan", "changed", "place", "kind", "ways", "hits", "target"]) (sc := defScope s_pulled) (by decide +kernel)) (fun _ _ _ _ _ => (pg_name (i := 11) sc_pulled.nd rfl (Or.inl rfl))) (fun _ _ _ _ _ => pts_nil) (fun _ _ _ _ _ => (pe_cmpR (op_inN K) (pv 11) (pv 4) (by rfl))))
      (pss_one (ps_if (PW.pt (pw_or (pt_val (pe_callB (cr_all rfl) (by rfl) m_all (by decide +kernel) (pa_cons (pv 10) pa_nil))) (pw_or1 (PW.pt (pw_and (pt_cmpR op_ne (pv 8) (pe_ix (ix_kdK K w) (pe_gr (by rfl) m_OTHER) (pv 2) (fun _ _ => rfl)) (nomark _)) (pw_and1 (pt_val (pe_callB (cr_any rfl) (by rfl) m_any (by decide +kernel) (pa_cons (pv 10) pa_nil)))))))))
      (pss_cons (ps_if (pt_cmpR op_eq (pv 8) (pv 2) (nomark _))
      (pss_one (ps_dput hu (pv 5) (pv 7) (pe_bm PySem.F.plainAttrs_list PySem.F.slot_list_index PySem.F.type_list_index (mt_indexT K) (pe_lc (own := [("target", 11)]) (g := gName 11) rfl sc_pulled.nd (pi_list (pe_c c_targets hr (by rfl) (pa_cons (pv 0) (pa_cons (pv 7) pa_nil)))) (blkOk_by (own := [("target", 11)]) (N := ["game", "arena", "side", "goals", "found", "plan", "changed", "place", "kind", "ways", "hits", "target"]) (sc := defScope s_pulled) (by decide +kernel)) (fun _ _ _ _ _ => (pg_name (i := 11) sc_pulled.nd rfl (Or.inl rfl))) (fun _ _ _ _ _ => pts_nil) (fun _ _ _ _ _ => (pe_cmpR (op_inN K) (pv 11) (pv 4) (by rfl)))) (pa_cons pe_bl pa_nil)) rfl)) pss_nil)
      (pss_cons (ps_expr (pe_bm PySem.F.plainAttrs_list PySem.F.slot_list_append PySem.F.type_list_append mt_appN (pv 4) (pa_cons (pv 7) pa_nil)))
      (pss_one (ps_set (i := 6) sc_pulled.nd rfl (Or.inl rfl) pe_bl)))) pss_nil))))))))))
      (pss_one (ps_ret (pe_tup (pa_cons (pv 4) (pa_cons (pv 5) pa_nil))))))))), ?_⟩
    have clen := hw.len
    obtain ⟨a, xs, rfl, h1, h2⟩ := hG
    have hG : ∀ {I'}, Same I I' → (rG K).rel G (.ref a) I' := fun e => (rG K).up ⟨a, xs, rfl, h1, h2⟩ e
    refine ⟨_, rfl, bt, _, rfl, .inl (sqH (hs _ _ hbt)), fun pf npf => ?_⟩
    have g1 := Gr.mut (o := .lst (T.map vN)) hs npf
    have m1 : Mu H I (upd H pf (.lst (T.map vN))) pf (.lst (T.map vN)) := ⟨npf, hs.free npf, upd_same⟩
    intro pd npd
    have g2 := g1.trans (Gr.mut (o := .dK []) g1.s npd)
    have m2 := Mu.new (o := .dK []) g1 npd
    have nsw := m1.ne npd
    have m1 := m1.up (Gr.mut (o := .dK []) g1.s npd)
    refine ⟨wPu H I G A sd T (.ref a) (.ref ba) (.ref bt) pf pd, ⟨_, I, none, none, none, none, T, [], true, g2, rfl, m1, m2, nsw, Pi.first hT, (fun z => by cases z), rfl⟩, ?_⟩
    rintro m σ1 H3 ⟨I3, z7, z8, z9, z10, F0, kvs, ch, g3, rfl, mf, md, nsw, pi, hshut, rfl⟩
    refine ⟨_, rfl, _, rfl, ?_⟩
    cases ch with
    | false =>
      refine iteF ⟨_, rfl, _, rfl, by show 2 ≤ sizeLine; decide, fun t nt => ?_⟩
      have gs := g3.stop mf
      have mds := md.beside (q := pf) (u := .lst (F0.map vN)) nsw.symm
      have gt := Gr.imm (o := .tup [.ref pf, .ref pd]) gs.s nt
      exact q t pf pd _ _ F0 kvs (gs.trans gt) (.inl (.inl upd_same)) (gt.i _ _ upd_same) (mds.up gt) (pi.fin (hshut rfl)) pi.sub (by have := pi.len; omega)
    | true =>
      refine iteT ⟨fun σ' H' => ∃ m', m' < 2 * cnt G.length (fun x => x ∉ F0) + Bool.toNat true ∧ wPu H I G A sd T (.ref a) (.ref ba) (.ref bt) pf pd m' σ' H', fun _ _ h => h, ?_⟩
      refine ⟨_, rfl, ba, rfl, ⟨_, sqH (g3.s _ _ (g3.i _ _ hba))⟩, for_src (iPu H G A sd T F0 (.ref a) (.ref ba) (.ref bt) pf pd) (src_listF (g3.i _ _ hba)) g3 ⟨z7, z8, z9, z10, F0, kvs, false, rfl, mf, md, pi, fun _ => ⟨rfl, fun p hp => absurd hp (by simp)⟩, fun z => (by cases z)⟩ ?_ ?_⟩
      · rintro i p xv σ2 I4 H4 I5 H5 hp g4 e4 ⟨z7', z8', z9', z10', F, kvs', ch, rfl, mf', md', pi', hf, ht⟩ g5 re
        have re : xv = vN p := re
        subst re
        have mf' := mf'.up g5
        have md' := md'.up g5
        have gg := g4.trans g5
        have hpA : p ∈ A := List.mem_of_getElem? hp
        have hpn := hAn p hpA
        have hkd := nd p hpn
        have hown := own_iff nd hpn hsd
        have tk : ∀ {q}, q ∈ A.take (i + 1) → q ∈ A.take i ∨ q = p := fun {q} hq => by
          rw [List.take_add_one, hp] at hq
          exact (List.mem_append.mp hq).imp id fun z => List.mem_singleton.mp z
        refine ⟨_, rfl, _, rfl, pf, F, p, rfl, rfl, sqH mf'.h, _, rfl, ite2 (fun c => ?_) (fun c => ?_)⟩
        · have c : p ∈ F := of_decide_eq_true c
          exact ⟨I5, gg, e4.trans g5.i, _, _, _, _, F, kvs', ch, rfl, mf', md', pi', fun e => ⟨(hf e).1, fun q hq hn => (hf e).2 q ((tk hq).resolve_right fun z => hn (z ▸ c)) hn⟩, ht⟩
        · have c : p ∉ F := fun z => c (decide_eq_true z)
          obtain ⟨a', xs', d, cc, ea, p1, p2, p3, _⟩ := place_at (hG gg.i) gg.s hpn
          cases ea
          have tl := hw.some p hpn
          refine ⟨_, rfl, _, rfl, a, xs', p, _, rfl, rfl, p1, p2, d, _, 1, _, rfl, rfl, p3, rfl, ?_⟩
          refine ⟨_, rfl, _, rfl, I5, G, p, _, gg.s, rfl, hG gg.i, hw, hpn, fun D6 I6 H6 g6 mu6 => ?_⟩
          have gs6 := g6.stop mu6
          refine ⟨D6, rfl, ⟨_, sqH mu6.h⟩, lc_flat (v := vN) (f := fun t => decide (t ∈ A)) (m := fun t => t) (src_listF upd_same) gs6.s (by omega) (fun e xe I7 H7 he re g7 Qg kk => ?_) (fun D7 I7 H7 g7 mu7 => ?_)⟩
          · have re : xe = vN e := re
            subst re
            refine kk _ rfl (fun Q2 q2 => ?_) (fun I8 H8 g8 _ Q2 q2 => ⟨_, rfl, q2 _ I8 H8 (Gr.refl g8.s) rfl⟩)
            have gi := (gg.trans gs6).trans g7
            have fin := q2 I7 H7 (Gr.refl g7.s)
            refine ⟨_, rfl, _, rfl, ba, A, e, rfl, rfl, sqH (gi.s _ _ (gi.i _ _ hba)), _, rfl, ite2 (fun z => ?_) (fun z => ?_)⟩
            · rw [z] at fin; exact fin
            · rw [Bool.eq_false_iff.mpr z] at fin
              refine ⟨_, rfl, rfl, _, rfl, ?_⟩
              have : decide (V.str (kS (kdOf G p)) = V.str "draw") = false := by
                cases e : kdOf G p with
                | draw => exact absurd e hkd
                | ours => decide +kernel
                | theirs => decide +kernel
              rw [this]
              exact fin
          rw [map_same] at mu7
          have gs7 := g7.stop mu7
          have g57 := gs6.trans gs7
          have mf7 := mf'.up g57
          have md7 := md'.up g57
          refine ⟨_, rfl, D7, rfl, ⟨_, sqH mu7.h⟩, lc_flat (v := V.bl) (f := fun _ => true) (m := fun t => decide (t ∈ F)) (src_listF upd_same) gs7.s (by have := List.length_filter_le (fun t => decide (t ∈ A)) (tsOf G p); omega) (fun e xe I8 H8 he re g8 Qg kk => ?_) (fun D8 I8 H8 g8 mu8 => ?_)⟩
          · have re : xe = vN e := re
            subst re
            exact kk _ rfl (evYes g8.s) (fun I9 H9 g9 _ Q2 q2 => ⟨_, rfl, _, rfl, pf, F, e, rfl, rfl, sqH ((mf7.up g8).up g9).h, q2 _ I9 H9 (Gr.refl g9.s) rfl⟩)
          rw [filter_yes] at mu8
          have g58 := g57.trans g8
          have mf8 := mf7.up g8
          have md8 := md7.up g8
          have gg8 := gg.trans g58
          have e8 := (e4.trans g5.i).trans g58.i
          refine ⟨_, rfl, D8, _, rfl, sqH mu8.h, _, rfl, orT (b := decide (kdOf G p = sd) && ((((tsOf G p).filter fun t => decide (t ∈ A)).map fun t => decide (t ∈ F)).any id)) ?_ fun Q' q' => ?_⟩
          · have cond := pull_cond (sd := sd) (o := decide (kdOf G p = sd)) pi'.sub (hsub p hpA) (by rw [decide_eq_true_iff]; exact hown.symm)
            by_cases hP : Pull1 G A sd F p
            · rw [cond.mpr hP]
              refine iteT ⟨_, rfl, _, rfl, rfl, _, rfl, ite2 (fun ck => ?_) (fun ck => ?_)⟩
              · have ck : kdOf G p = sd := of_decide_eq_true ((kS_inj (b := sd)).symm.trans ck)
                have ho : own G sd p := hown.mpr ck
                obtain ⟨t0, et0, ht0⟩ := hP.elim (fun z => z.2) fun z => absurd ho z.1
                refine ⟨_, rfl, _, rfl, I8, G, p, _, gg8.s, rfl, hG gg8.i, hw, hpn, fun D9 I9 H9 g9 mu9 => ?_⟩
                have gs9 := g9.stop mu9
                refine ⟨D9, rfl, ⟨_, sqH mu9.h⟩, lc_flat (v := V.bl) (f := fun _ => true) (m := fun t => decide (t ∈ F)) (src_listF upd_same) gs9.s (by omega) (fun e xe Ia Ha he re ga Qg kk => ?_) (fun Da Ia Ha ga mua => ?_)⟩
                · have re : xe = vN e := re
                  subst re
                  exact kk _ rfl (evYes ga.s) (fun Ib Hb gb _ Q2 q2 => ⟨_, rfl, _, rfl, pf, F, e, rfl, rfl, sqH (((mf8.up gs9).up ga).up gb).h, q2 _ Ib Hb (Gr.refl gb.s) rfl⟩)
                rw [filter_yes] at mua
                have g8a := gs9.trans ga
                have mfa := mf8.up g8a
                have mda := md8.up g8a
                have gga := gg8.trans g8a
                obtain ⟨j, t, j1, j2, j3⟩ := first_at (l := tsOf G p) (p := fun t => t ∈ F) ⟨t0, et0, ht0⟩
                have jl : j < (tsOf G p).length := (List.getElem?_eq_some_iff.mp j1).1
                have pd' : Pd G.length (putK kvs' (Sum.inl (p : Int)) (vN j)) := pi'.pd.put hpn
                have bp : bD (putK kvs' (Sum.inl (p : Int)) (vN j)) p = some j := by rw [bD_put, if_pos rfl]
                have sgp : sgOf G (putK kvs' (Sum.inl (p : Int)) (vN j)) p = t := by unfold sgOf; rw [bp]; show ((tsOf G p)[j]?).getD 0 = t; rw [j1]; rfl
                have kl := pi'.pd.len
                refine ⟨.inl ⟨rfl, _, sqH mua.h⟩, Da, _, j, rfl, rfl, sqH mua.h, by rw [List.getElem?_map, j1]; show some (decide (t ∈ F)) = _; rw [decide_eq_true j2], fun m hm z => ?_, _, rfl, _, rfl, pd, _, rfl, DPut.k (k := Sum.inl (p : Int)) mda.h (line_lt (by omega)), ?_⟩
                · rw [List.getElem?_map] at z
                  cases e : (tsOf G p)[m]? with
                  | none => rw [e] at z; cases z
                  | some t' =>
                    rw [e] at z
                    exact j3 m t' hm e (of_decide_eq_true (Option.some.inj z))
                have ggp := gga.put (u := .dK (putK kvs' (Sum.inl (p : Int)) (vN j))) mda
                have mfp := mfa.other (u := .dK (putK kvs' (Sum.inl (p : Int)) (vN j))) nsw
                have mdp := mda.set (u := .dK (putK kvs' (Sum.inl (p : Int)) (vN j)))
                obtain ⟨pi2, less⟩ := pi'.put hpA c hpn pd' (fun q hq => by rw [bD_put, if_neg hq]) (fun _ _ => ck) (fun _ => ⟨j, bp, jl⟩) (fun _ => ⟨by rw [sgp]; exact List.mem_of_getElem? j1, by rw [sgp]; exact j2⟩) (fun z => absurd ho z)
                have fl := pi'.len
                refine ⟨_, rfl, .inl ⟨rfl, _, sqH mfp.h⟩, _, rfl, pf, F, p, rfl, rfl, mfp.h, by omega, Ia, ggp.put mfp, e8.trans g8a.i, _, _, _, _, F ++ [p], _, true, rfl, mfp.set, mdp.other nsw.symm, pi2, fun z => (by cases z), fun _ => ?_⟩
                cases ch with
                | false => rw [← (hf rfl).1]; exact less
                | true => exact Nat.lt_trans less (ht rfl)
              · have ck : kdOf G p ≠ sd := fun z => ck ((kS_inj (b := sd)).trans (decide_eq_true z))
                have ho : ¬ own G sd p := fun z => ck (hown.mp z)
                have bn : bD kvs' p = none := by
                  cases z : bD kvs' p with
                  | none => rfl
                  | some b => exact absurd (pi'.dom p b z).1 c
                obtain ⟨pi2, less⟩ := pi'.put hpA c hpn pi'.pd (fun q hq => rfl) (fun b hb => by rw [bn] at hb; cases hb) (fun z => absurd z ck) (fun z => absurd z ho) (hP.elim (fun z => absurd z.1 ho) fun z => fun _ => z.2)
                have fl := pi'.len
                refine ⟨_, rfl, .inl ⟨rfl, _, sqH mf8.h⟩, _, rfl, pf, F, p, rfl, rfl, mf8.h, by omega, I8, gg8.put mf8, e8, _, _, _, _, F ++ [p], kvs', true, rfl, mf8.set, md8.other nsw.symm, pi2, fun z => (by cases z), fun _ => ?_⟩
                cases ch with
                | false => rw [← (hf rfl).1]; exact less
                | true => exact Nat.lt_trans less (ht rfl)
            · rw [Bool.eq_false_iff.mpr fun z => hP (cond.mp z)]
              refine iteF ⟨I8, gg8, e8, _, _, _, _, F, kvs', ch, rfl, mf8, md8, pi', fun e => ⟨(hf e).1, fun q hq hn => (tk hq).elim (fun z => (hf e).2 q z hn) fun z => z ▸ shut_of hP⟩, ht⟩
          · refine ⟨_, rfl, _, rfl, aO, _, _, rfl, rfl, Oth.at ot1 ot2 hsd, rfl, _, rfl, ?_⟩
            rw [oth_ne hsd hkd]
            cases z : decide (kdOf G p = sd) with
            | true =>
              rw [z, Bool.true_and] at q'
              exact iteT ⟨_, rfl, D8, _, rfl, sqH mu8.h, _, rfl, q'⟩
            | false =>
              rw [z, Bool.false_and] at q'
              exact iteF q'
      · rintro σ2 I4 H4 g4 e4 ⟨z7', z8', z9', z10', F, kvs', ch, rfl, mf', md', pi', hf, ht⟩
        rw [List.take_length] at hf
        refine ⟨_, ?_, I4, _, _, _, _, F, kvs', ch, g4, rfl, mf', md', nsw, pi', fun e => (hf e).2, rfl⟩
        cases ch with
        | false => rw [(hf rfl).1]; exact Nat.lt_succ_self _
        | true =>
          have := ht rfl
          show 2 * _ + 1 < 2 * _ + 1
          omega
end
end OC
namespace OC
open PySem PySem.Spec PyProof.Rows L2
theorem ifEv {c : Bool} {te1 te2 : TE} {σ : L2.St} {I H : Hp} {P : V → Hp → Prop} {Q : VK} (h1 : c = true → Ev te1 σ I H P) (h2 : c = false → Ev te2 σ I H P) (q : ∀ v I' H', Gr I H I' H' → P v I' → Q v H') : if c = true then te1 σ H Q else te2 σ H Q := by
  cases c with
  | true => exact h1 rfl Q q
  | false => exact h2 rfl Q q
theorem nodup_sub : ∀ {l m : List Nat}, l.Nodup → (∀ x ∈ l, x ∈ m) → l.length ≤ m.length
  | [], m, _, _ => Nat.zero_le _
  | a :: l, m, hn, hs => by
    have ham := hs a List.mem_cons_self
    have h1 := nodup_sub (l := l) (m := m.erase a) (List.nodup_cons.mp hn).2 fun x hx => (List.mem_erase_of_ne (fun z : x = a => (List.nodup_cons.mp hn).1 (z ▸ hx))).mpr (hs x (List.mem_cons_of_mem _ hx))
    rw [List.length_erase_of_mem ham] at h1
    have := List.length_pos_of_mem ham
    rw [List.length_cons]
    omega
theorem nodup_all {l m : List Nat} (hn : l.Nodup) (hs : ∀ x ∈ l, x ∈ m) (hl : m.length ≤ l.length) : ∀ x ∈ m, x ∈ l := fun x hx => Classical.byContradiction fun h => by
  have := nodup_sub (l := x :: l) (m := m) (List.nodup_cons.mpr ⟨h, hn⟩) fun y hy => (List.mem_cons.mp hy).elim (fun z => z ▸ hx) (hs y)
  rw [List.length_cons] at this
  omega
theorem ne_empty {l : List Nat} (h : l ≠ []) : (!(l.map vN).isEmpty) = true := by
  cases l with
  | nil => exact absurd rfl h
  | cons a l => rfl
theorem of_empty {l : List Nat} (h : (!(l.map vN).isEmpty) = false) : l = [] := by
  cases l with
  | nil => rfl
  | cons a l => cases h
/-- what the goals are -/
def GoalP (G : Gm) (A1 T1 : List Nat) (top : Nat) (TT : List Nat) : Prop := (T1 ≠ [] ∧ TT = T1) ∨ (T1 = [] ∧ TT = A1.filter fun p => decide (mkOf G p = top))
def AllW (G : Gm) (sd : Kd) (A1 T1 TT : List Nat) (tauH : Nat → Nat) : Prop := ∀ F kvs R Kl more tau kvs', PullR G A1 sd TT F kvs → (∀ p ∈ F, p ∈ A1) → (∀ p, p ∈ R ↔ p ∈ A1 ∧ p ∉ F) → WonR G sd R [] tau Kl more → (∀ p ∈ R, p ∈ Kl) → Pd G.length kvs' →
  (∀ p, (p ∉ TT ∨ ¬ kdOf G p = sd ∨ p ∈ T1) → bD kvs' p = bD kvs p) → (∀ p ∈ TT, p ∉ T1 → kdOf G p = sd → ∃ b t, bD kvs' p = some b ∧ (tsOf G p)[b]? = some t ∧ t ∈ A1) → WonR G sd A1 T1 tauH A1 (mergeK kvs' more)
section
variable {G : Gm} {sd : Kd} {A T A1 T1 TT F : List Nat} {tauH : Nat → Nat} {kvs kvs' : List (Key × V)} {top : Nat}
theorem PullR.congr (h : PullR G A sd T F kvs) (pd' : Pd G.length kvs') (e : ∀ p, bD kvs' p = bD kvs p) : PullR G A sd T F kvs' := by
  obtain ⟨rho, a⟩ := h.attr
  have es : sgOf G kvs' = sgOf G kvs := funext fun p => sgOf_same (e p)
  exact ⟨pd', fun p b hb => h.dom p b (by rw [← e p]; exact hb), fun p hp hn hk => by rw [e p]; exact h.br p hp hn hk, rho, by rw [es]; exact a⟩
theorem allW_home (l : Left G sd A T tauH A1 T1) : AllW G sd A1 T1 T1 tauH := fun F kvs R Kl more tau kvs' a hF hR r hK pd' hk1 _ =>
  won_all_home (a.congr pd' fun p => hk1 p (by
    by_cases c : p ∈ T1
    · exact .inr (.inr c)
    · exact .inl c)) hF l.nd hR r hK l.hw
theorem allW_top (nd : NoDraw G) (hsd : sd ≠ .draw) (hAn : ∀ p ∈ A1, p < G.length) (l : Left G sd A T tauH A1 []) (hm : ∀ p ∈ A1, mkOf G p ≤ top) (hp : top % 2 = par sd) : AllW G sd A1 [] (A1.filter fun p => decide (mkOf G p = top)) tauH := fun F kvs R Kl more tau kvs' a hF hR r hK pd' hk1 hk2 =>
  won_all_top a hF l.nd hR r hK (fun p => by rw [List.mem_filter, decide_eq_true_iff]) hm hp pd' (fun p hq => hk1 p (hq.imp id .inl)) (fun p hq hk => hk2 p hq (by simp) hk) fun p hA o => (own_iff nd (hAn p hA) hsd).mp o
theorem par_cond {m : Nat} (hsd : sd ≠ .draw) : decide (V.bl (decide (V.int ((m : Int) % 2) = V.int 0)) = V.bl (decide (V.str (kS sd) = V.str "ours"))) = decide (m % 2 = par sd) := by
  have e1 : decide (V.int ((m : Int) % 2) = V.int 0) = decide (m % 2 = 0) := decide_eq_decide.mpr ⟨fun z => by injection z with z; omega, fun z => by congr 1; omega⟩
  rw [e1]
  have h2 : m % 2 = 0 ∨ m % 2 = 1 := by omega
  cases sd with
  | draw => exact absurd rfl hsd
  | ours => rcases h2 with h | h <;> rw [h] <;> decide +kernel
  | theirs => rcases h2 with h | h <;> rw [h] <;> decide +kernel
end
section
variable {P : Program} {w : World} {K : PySem.W.Frag} {mg : Str → Option Value} {base : Heap} {k : Nat}
def spWon (K : PySem.W.Frag) (M : Nat) : Sp := fun vs H Q _ => ∃ I G A sd T tauH x y z, Same I H ∧ vs = [x, y, .str (kS sd), z] ∧ (rG K).rel G x I ∧ rNs.rel A y I ∧ rNs.rel T z I ∧ Wf G ∧ NoDraw G ∧ sd ≠ .draw ∧ (∀ p ∈ A, p < G.length) ∧ A.Nodup ∧ Sub (Ed G) (fun p => p ∈ A) ∧
  (∀ p ∈ T, p ∈ A) ∧ T.length ≤ 24 ∧ WinS G sd (fun p => p ∈ T) (fun p => p ∈ A) tauH ∧ 2 * A.length + T.isEmpty.toNat < M ∧
  ∀ t f d I' H' Kl kvs, Gr I H I' H' → SqT K I' t [.ref f, .ref d] → I' f = some (.lst (Kl.map vN)) → Mu H I' H' d (.dK kvs) → WonR G sd A T tauH Kl kvs → Q (.ref t) H'
def wWo (H I : Hp) (G : Gm) (A : List Nat) (sd : Kd) (T : List Nat) (tauH : Nat → Nat) (x : V) (m : Nat) (σ : L2.St) (H1 : Hp) : Prop :=
  ∃ (I1 : Hp) (z4 z5 z6 z7 z8 z9 z10 z11 z12 z13 z14 : Option V) (A1 T1 : List Nat) (b1 b3 : Addr), Gr I H I1 H1 ∧ σ = [some x, some (.ref b1), some (.str (kS sd)), some (.ref b3), z4, z5, z6, z7, z8, z9, z10, z11, z12, z13, z14] ∧
    I1 b1 = some (.lst (A1.map vN)) ∧ I1 b3 = some (.lst (T1.map vN)) ∧ Left G sd A T tauH A1 T1 ∧ T1.length ≤ 24 ∧ A1.length ≤ A.length ∧ m = A1.length
def gWo (H : Hp) (G : Gm) (A1 T1 TT : List Nat) (sd : Kd) (kvs : List (Key × V)) (x : V) (b1 b3 bg pf pd : Addr) (z5 z6 z10 z11 z12 z13 z14 : Option V) (i : Nat) (σ : L2.St) (I1 H1 : Hp) : Prop :=
  ∃ (z4 : Option V) (kvs' : List (Key × V)), σ = [some x, some (.ref b1), some (.str (kS sd)), some (.ref b3), z4, z5, z6, some (.ref bg), some (.ref pf), some (.ref pd), z10, z11, z12, z13, z14] ∧ Mu H I1 H1 pd (.dK kvs') ∧ Pd G.length kvs' ∧
    (∀ p, (p ∉ TT.take i ∨ ¬ kdOf G p = sd ∨ p ∈ T1) → bD kvs' p = bD kvs p) ∧ (∀ p ∈ TT.take i, p ∉ T1 → kdOf G p = sd → ∃ b t, bD kvs' p = some b ∧ (tsOf G p)[b]? = some t ∧ t ∈ A1)
abbrev s_won : Stmt := topS 50
theorem sc_won : FnScope ["game", "arena", "side", "home", "place", "marks", "top", "goals", "found", "plan", "rest", "kept", "more", "lost", "gone"] ["game", "arena", "side", "home"] (defScope s_won) := ⟨rfl, rfl, rfl, by decide +kernel, rfl, by decide +kernel, by decide +kernel⟩
theorem c_won0 (D : Dn K mg "won" s_won ["game", "arena", "side", "home"]) : Cal P w K mg base "won" (k + 1) (spWon K 0) :=
  D.ok sc_won (fun vs H Q E h => by
    obtain ⟨I, G, A, sd, T, tauH, x, y, z, _, rfl, _⟩ := h
    rfl) fun f cdv A' outer s0 H vs Q E hr h => by
    obtain ⟨I, G, A, sd, T, tauH, x, y, z, _, _, _, _, _, _, _, _, _, _, _, _, _, _, hM, _⟩ := h
    exact absurd hM (Nat.not_lt_zero _)
theorem c_won1 {M : Nat} (D : Dn K mg "won" s_won ["game", "arena", "side", "home"]) (m_list : mg "list" = none) (m_len : mg "len" = none) (m_max : mg "max" = none) (ot : Oth K w mg) (c_pulled : Cal P w K mg base "pulled" k (spPulled K)) (c_inside : Cal P w K mg base "inside" k (spInside K))
    (c_won : Cal P w K mg base "won" k (spWon K M)) : Cal P w K mg base "won" (k + 1) (spWon K (M + 1)) := by
  obtain ⟨aO, m_OTHER, ot1, ot2⟩ := ot
  refine D.ok sc_won (fun vs H Q E h => ?_) (fun f cdv A' outer s0 H vs Q E hr h => ?_)
  · obtain ⟨I, G, A, sd, T, tauH, x, y, z, _, rfl, _⟩ := h
    rfl
  · obtain ⟨I, G, A, sd, T, tauH, x, y, z, hs, rfl, hG, ⟨ba, rfl, hba⟩, ⟨bt, rfl, hbt⟩, hw, nd, hsd, hAn, hAd, hsub, hT, tlen, hwin, hM, q⟩ := h
    have hu := hu_of hr
    refine ⟨_, (pss_cons (ps_asg (pe_tup (pa_cons (pe_callTy call_list_of (by rfl) m_list (by decide +kernel) (pa_cons (pv 1) pa_nil)) (pa_cons (pe_callTy call_list_of (by rfl) m_list (by decide +kernel) (pa_cons (pv 3) pa_nil)) pa_nil))) (pg_tup rfl (pgs_cons (pg_name (i := 1) sc_won.nd rfl (Or.inl rfl)) (pgs_cons (pg_name (i := 3) sc_won.nd rfl (Or.inr rfl)) pgs_nil))))
      (pss_cons (ps_while PassesOwn.never (pt_truth (pv 1) (by intro _; rfl))
      (pss_cons (ps_setLc (i := 5) (own := [("place", 4)]) (g := gName 4) (by rfl) sc_won.nd rfl rfl (sw_true rfl rfl rfl (by decide +kernel)) (pi_list (pv 1)) (blkOk_by (own := [("place", 4)]) (N := ["game", "arena", "side", "home", "place", "marks", "top", "goals", "found", "plan", "rest", "kept", "more", "lost", "gone"]) (sc := defScope s_won) (by decide +kernel)) (fun _ _ _ _ _ => (pg_name (i := 4) sc_won.nd rfl (Or.inl rfl))) (fun _ _ _ _ _ => pts_one (pt_cmpR (op_notInN K) (pv 4) (pv 3) (by rfl))) (fun _ _ _ _ _ => (pe_ix (ix_tupK K) (pe_ix (ix_N K) (pv 0) (pv 4) (fun _ _ => rfl)) pe_int (fun _ _ => rfl))))
      (pss_cons (ps_if (pt_not (pt_truth (pv 5) (by intro _; rfl)))
      (pss_one (ps_ret (pe_tup (pa_cons (pv 1) (pa_cons pe_dnewK pa_nil))))) pss_nil)
      (pss_cons (ps_set (i := 6) sc_won.nd rfl (Or.inr rfl) (pe_callB (cr_maxN K rfl) (by rfl) m_max (by decide +kernel) (pa_cons (pv 5) pa_nil)))
      (pss_cons (ps_set (i := 7) sc_won.nd rfl (Or.inl rfl) (pe_ifExp (pt_truth (pv 3) (by intro _; rfl)) (pv 3) (pe_lc (own := [("place", 4)]) (g := gName 4) rfl sc_won.nd (pi_list (pv 1)) (blkOk_by (own := [("place", 4)]) (N := ["game", "arena", "side", "home", "place", "marks", "top", "goals", "found", "plan", "rest", "kept", "more", "lost", "gone"]) (sc := defScope s_won) (by decide +kernel)) (fun _ _ _ _ _ => (pg_name (i := 4) sc_won.nd rfl (Or.inl rfl))) (fun _ _ _ _ _ => pts_one (pt_cmpR op_eq (pe_ix (ix_tupK K) (pe_ix (ix_N K) (pv 0) (pv 4) (fun _ _ => rfl)) pe_int (fun _ _ => rfl)) (pv 6) (nomark _))) (fun _ _ _ _ _ => (pv 4)))))
      (pss_one (ps_if (PW.pt (pw_or (pt_truth (pv 3) (by intro _; rfl)) (pw_or1 (pt_cmpR op_eq (pe_cmpR op_eq (pe_op op_mod (pv 6) pe_int) pe_int (nomark _)) (pe_cmpR op_eq (pv 2) pe_str (nomark _)) (nomark _)))))
      (pss_cons (ps_asg (pe_c c_pulled hr (by rfl) (pa_cons (pv 0) (pa_cons (pv 1) (pa_cons (pv 2) (pa_cons (pv 7) pa_nil))))) (pg_tup rfl (pgs_cons (pg_name (i := 8) sc_won.nd rfl (Or.inr rfl)) (pgs_cons (pg_name (i := 9) sc_won.nd rfl (Or.inl rfl)) pgs_nil))))
      (pss_cons (ps_setLc (i := 10) (own := [("place", 4)]) (g := gName 4) (by rfl) sc_won.nd rfl rfl (sw_true rfl rfl rfl (by decide +kernel)) (pi_list (pv 1)) (blkOk_by (own := [("place", 4)]) (N := ["game", "arena", "side", "home", "place", "marks", "top", "goals", "found", "plan", "rest", "kept", "more", "lost", "gone"]) (sc := defScope s_won) (by decide +kernel)) (fun _ _ _ _ _ => (pg_name (i := 4) sc_won.nd rfl (Or.inl rfl))) (fun _ _ _ _ _ => pts_one (pt_cmpR (op_notInN K) (pv 4) (pv 8) (by rfl))) (fun _ _ _ _ _ => (pv 4)))
      (pss_cons (ps_asg (pe_c c_won hr (by rfl) (pa_cons (pv 0) (pa_cons (pv 10) (pa_cons (pv 2) (pa_cons (pe_lst pa_nil) pa_nil))))) (pg_tup rfl (pgs_cons (pg_name (i := 11) sc_won.nd rfl (Or.inr rfl)) (pgs_cons (pg_name (i := 12) sc_won.nd rfl (Or.inl rfl)) pgs_nil))))
      (pss_cons (ps_if (pt_cmpR op_eq (pe_callB call_len_seq (by rfl) m_len PySem.boot_len (pa_cons (pv 11) pa_nil)) (pe_callB call_len_seq (by rfl) m_len PySem.boot_len (pa_cons (pv 10) pa_nil)) (nomark _))
      (pss_cons (ps_for PassesOwn.never rfl (pi_list (pv 7)) (pg_name (i := 4) sc_won.nd rfl (Or.inl rfl))
      (pss_one (ps_if (PW.pt (pw_and (pt_cmpR (op_notInN K) (pv 4) (pv 3) (by rfl)) (pw_and1 (pt_cmpR op_eq (pe_ix (ix_tupK K) (pe_ix (ix_N K) (pv 0) (pv 4) (fun _ _ => rfl)) pe_int (fun _ _ => rfl)) (pv 2) (nomark _)))))
      (pss_one (ps_dput hu (pv 9) (pv 4) (pe_c c_inside hr (by rfl) (pa_cons (pv 0) (pa_cons (pv 1) (pa_cons (pv 4) pa_nil)))) rfl)) pss_nil)))
      (pss_one (ps_ret (pe_tup (pa_cons (pv 1) (pa_cons (pe_op op_dor (pv 9) (pv 12)) pa_nil)))))) pss_nil)
      (pss_cons (ps_setLc (i := 13) (own := [("place", 4)]) (g := gName 4) (by rfl) sc_won.nd rfl rfl (sw_true rfl rfl rfl (by decide +kernel)) (pi_list (pv 10)) (blkOk_by (own := [("place", 4)]) (N := ["game", "arena", "side", "home", "place", "marks", "top", "goals", "found", "plan", "rest", "kept", "more", "lost", "gone"]) (sc := defScope s_won) (by decide +kernel)) (fun _ _ _ _ _ => (pg_name (i := 4) sc_won.nd rfl (Or.inl rfl))) (fun _ _ _ _ _ => pts_one (pt_cmpR (op_notInN K) (pv 4) (pv 11) (by rfl))) (fun _ _ _ _ _ => (pv 4)))
      (pss_cons (ps_set (i := 14) sc_won.nd rfl (Or.inr rfl) (pe_ix (ix_tupK K) (pe_c c_pulled hr (by rfl) (pa_cons (pv 0) (pa_cons (pv 1) (pa_cons (pe_ix (ix_kdK K w) (pe_gr (by rfl) m_OTHER) (pv 2) (fun _ _ => rfl)) (pa_cons (pv 13) pa_nil))))) pe_int (fun _ _ => rfl)))
      (pss_cons (ps_setLc (i := 1) (own := [("place", 4)]) (g := gName 4) (by rfl) sc_won.nd rfl rfl (sw_true rfl rfl rfl (by decide +kernel)) (pi_list (pv 1)) (blkOk_by (own := [("place", 4)]) (N := ["game", "arena", "side", "home", "place", "marks", "top", "goals", "found", "plan", "rest", "kept", "more", "lost", "gone"]) (sc := defScope s_won) (by decide +kernel)) (fun _ _ _ _ _ => (pg_name (i := 4) sc_won.nd rfl (Or.inl rfl))) (fun _ _ _ _ _ => pts_one (pt_cmpR (op_notInN K) (pv 4) (pv 14) (by rfl))) (fun _ _ _ _ _ => (pv 4)))
      (pss_one (ps_set (i := 3) sc_won.nd rfl (Or.inr rfl) (pe_lc (own := [("place", 4)]) (g := gName 4) rfl sc_won.nd (pi_list (pv 3)) (blkOk_by (own := [("place", 4)]) (N := ["game", "arena", "side", "home", "place", "marks", "top", "goals", "found", "plan", "rest", "kept", "more", "lost", "gone"]) (sc := defScope s_won) (by decide +kernel)) (fun _ _ _ _ _ => (pg_name (i := 4) sc_won.nd rfl (Or.inl rfl))) (fun _ _ _ _ _ => pts_one (pt_cmpR (op_notInN K) (pv 4) (pv 14) (by rfl))) (fun _ _ _ _ _ => (pv 4)))))))))))) (pss_cons (ps_set (i := 8) sc_won.nd rfl (Or.inr rfl) (pe_ix (ix_tupK K) (pe_c c_pulled hr (by rfl) (pa_cons (pv 0) (pa_cons (pv 1) (pa_cons (pe_ix (ix_kdK K w) (pe_gr (by rfl) m_OTHER) (pv 2) (fun _ _ => rfl)) (pa_cons (pv 7) pa_nil))))) pe_int (fun _ _ => rfl)))
      (pss_cons (ps_setLc (i := 10) (own := [("place", 4)]) (g := gName 4) (by rfl) sc_won.nd rfl rfl (sw_true rfl rfl rfl (by decide +kernel)) (pi_list (pv 1)) (blkOk_by (own := [("place", 4)]) (N := ["game", "arena", "side", "home", "place", "marks", "top", "goals", "found", "plan", "rest", "kept", "more", "lost", "gone"]) (sc := defScope s_won) (by decide +kernel)) (fun _ _ _ _ _ => (pg_name (i := 4) sc_won.nd rfl (Or.inl rfl))) (fun _ _ _ _ _ => pts_one (pt_cmpR (op_notInN K) (pv 4) (pv 8) (by rfl))) (fun _ _ _ _ _ => (pv 4)))
      (pss_cons (ps_asg (pe_c c_won hr (by rfl) (pa_cons (pv 0) (pa_cons (pv 10) (pa_cons (pv 2) (pa_cons (pe_lst pa_nil) pa_nil))))) (pg_tup rfl (pgs_cons (pg_name (i := 11) sc_won.nd rfl (Or.inr rfl)) (pgs_cons (pg_name (i := 9) sc_won.nd rfl (Or.inl rfl)) pgs_nil))))
      (pss_cons (ps_if (pt_not (pt_truth (pv 11) (by intro _; rfl)))
      (pss_one (ps_ret (pe_tup (pa_cons (pe_lst pa_nil) (pa_cons pe_dnewK pa_nil))))) pss_nil)
      (pss_cons (ps_set (i := 12) sc_won.nd rfl (Or.inl rfl) (pe_c c_won hr (by rfl) (pa_cons (pv 0) (pa_cons (pv 1) (pa_cons (pv 2) (pa_cons (pv 11) pa_nil))))))
      (pss_one (ps_ret (pe_tup (pa_cons (pe_ix (ix_tupK K) (pv 12) pe_int (fun _ _ => rfl)) (pa_cons (pe_op op_dor (pe_ix (ix_tupK K) (pv 12) pe_int (fun _ _ => rfl)) (pv 9)) pa_nil)))))))))))))))))
      (pss_one (ps_ret (pe_tup (pa_cons (pe_lst pa_nil) (pa_cons pe_dnewK pa_nil))))))), ?_⟩
    have clen := hw.len
    obtain ⟨a, xs, rfl, h1, h2⟩ := hG
    have hG : ∀ {I'}, Same I I' → (rG K).rel G (.ref a) I' := fun e => (rG K).up ⟨a, xs, rfl, h1, h2⟩ e
    refine ⟨_, rfl, ba, _, rfl, .inl (sqH (hs _ _ hba)), fun p1 n1 => ?_⟩
    have g1 := Gr.imm (o := .lst (A.map vN)) hs n1
    refine ⟨_, rfl, bt, _, rfl, .inl (sqH (g1.s _ _ (g1.i _ _ hbt))), fun p3 n3 => ?_⟩
    have g2 := g1.trans (Gr.imm (o := .lst (T.map vN)) g1.s n3)
    have hp1 := (Gr.imm (o := .lst (T.map vN)) g1.s n3).i _ _ (upd_same : upd I p1 (.lst (A.map vN)) p1 = _)
    refine ⟨by show 2 ≤ sizeLine; decide, fun T0 n0 => ?_⟩
    have g3 := g2.trans (Gr.imm (o := .tup [.ref p1, .ref p3]) g2.s n0)
    refine ⟨T0, [.ref p1, .ref p3], rfl, .inl (.inl upd_same), rfl, _, _, rfl, _, _, rfl, rfl, ?_⟩
    have i3 := Gr.imm (o := .tup [.ref p1, .ref p3]) g2.s n0
    refine ⟨wWo H I G A sd T tauH (.ref a), ⟨A.length, _, none, none, none, none, none, none, none, none, none, none, none, A, T, p1, p3, g3, rfl, i3.i _ _ hp1, i3.i _ _ upd_same, Left.first hAd hsub hT hwin (fun _ => Iff.rfl) (fun _ => Iff.rfl) hAd, tlen, Nat.le_refl _, rfl⟩, ?_⟩
    clear hp1 i3 g3 g2 g1
    rintro m σ1 H4 ⟨I4, z4, z5, z6, z7, z8, z9, z10, z11, z12, z13, z14, A1, T1, b1, b3, g4, rfl, hb1, hb3, left, t1len, a1len, rfl⟩
    have hA1n : ∀ p ∈ A1, p < G.length := fun p hp => hAn p (left.sub p hp)
    have a24 : A1.length ≤ 24 := Nat.le_trans (nodup_len left.nd hA1n) clen
    refine ⟨_, rfl, _, .inl ⟨_, sqH (g4.s _ _ hb1), rfl⟩, ?_⟩
    by_cases hne : A1 = []
    · subst hne
      refine iteF ⟨Nat.zero_le _, fun pl nl pd npd => ?_⟩
      have f1 := Gr.imm (o := .lst []) g4.s nl
      have f2 := Gr.mut (o := .dK []) f1.s npd
      refine ⟨by show 2 ≤ sizeLine; decide, fun t nt => ?_⟩
      have f3 := Gr.imm (o := .tup [.ref pl, .ref pd]) f2.s nt
      exact q t pl pd _ _ [] [] (((g4.trans f1).trans f2).trans f3) (.inl (.inl upd_same)) (f3.i _ _ (f2.i _ _ upd_same)) ((Mu.new (g4.trans f1) npd).up f3) (left.fin hsd (won_empty (fun p h => absurd h (by simp)) left.hin))
    refine (if_pos (ne_empty hne)).mpr ⟨fun σ' H' => ∃ m', m' < A1.length ∧ wWo H I G A sd T tauH (.ref a) m' σ' H', fun _ _ h => h, ?_⟩
    -- marks
    refine ⟨_, rfl, b1, rfl, ⟨_, sqH (g4.s _ _ hb1)⟩, lc_flat (v := vN) (f := fun p => !decide (p ∈ T1)) (m := fun p => mkOf G p) (src_listF hb1) g4.s (by omega) (fun e xe I5 H5 he re g5 Qg kk => ?_) (fun pm I5 H5 g5 mm => ?_)⟩
    · have re : xe = vN e := re
      subst re
      refine kk _ rfl (fun Q2 q2 => ⟨_, rfl, _, rfl, b3, T1, e, rfl, rfl, sqH (g5.s _ _ (g5.i _ _ hb3)), _, rfl, q2 I5 H5 (Gr.refl g5.s)⟩) (fun I6 H6 g6 _ Q2 q2 => ?_)
      obtain ⟨a', xs', d, cc, ea, p1, p2, p3, _⟩ := place_at (hG ((g4.i.trans g5.i).trans g6.i)) g6.s (hA1n e he)
      cases ea
      exact ⟨_, rfl, _, rfl, a, xs', e, _, rfl, rfl, p1, p2, d, _, 0, _, rfl, rfl, p3, rfl, q2 _ I6 H6 (Gr.refl g6.s) rfl⟩
    generalize hML : (A1.filter fun p => !decide (p ∈ T1)).map (fun p => mkOf G p) = ML at mm
    have memML : ∀ p ∈ A1, p ∉ T1 → mkOf G p ∈ ML := fun p hp hn => by rw [← hML]; exact List.mem_map.mpr ⟨p, List.mem_filter.mpr ⟨hp, by simp [hn]⟩, rfl⟩
    have gs5 := g5.stop mm
    have gg5 := g4.trans gs5
    have hb1' := gs5.i _ _ hb1
    have hb3' := gs5.i _ _ hb3
    refine ⟨_, rfl, _, .inl ⟨_, sqH mm.h, rfl⟩, ?_⟩
    by_cases hM0 : ML = []
    · have allT : ∀ p ∈ A1, p ∈ T1 := fun p hp => Classical.byContradiction fun z => by
        have := memML p hp z
        rw [hM0] at this
        cases this
      rw [hM0]
      refine iteT ⟨_, rfl, fun pd npd => ?_⟩
      have f2 := Gr.mut (o := .dK []) gs5.s npd
      refine ⟨by show 2 ≤ sizeLine; decide, fun t nt => ?_⟩
      have f3 := Gr.imm (o := .tup [.ref b1, .ref pd]) f2.s nt
      exact q t b1 pd _ _ A1 [] ((gg5.trans f2).trans f3) (.inl (.inl upd_same)) (f3.i _ _ (f2.i _ _ hb1')) ((Mu.new gg5 npd).up f3) (left.fin hsd (won_home left.nd left.hin allT left.hw))
    rw [ne_empty hM0]
    refine iteF ⟨_, rfl, pm, ML, rfl, sqH mm.h, hM0, fun top htop hmax => ?_⟩
    have hmax : ∀ p ∈ A1, p ∉ T1 → mkOf G p ≤ top := fun p hp hn => hmax _ (memML p hp hn)
    have htop : ∃ p ∈ A1, p ∉ T1 ∧ mkOf G p = top := by
      rw [← hML] at htop
      obtain ⟨p, h1, h2⟩ := List.mem_map.mp htop
      exact ⟨p, (List.mem_filter.mp h1).1, by simpa using (List.mem_filter.mp h1).2, h2⟩
    -- goals
    refine ⟨_, rfl, _, .inl ⟨_, sqH (gs5.s _ _ hb3'), rfl⟩, ifEv (I := upd I5 pm (.lst (ML.map vN))) (P := fun v I' => ∃ bg TT, v = V.ref bg ∧ I' bg = some (.lst (TT.map vN)) ∧ GoalP G A1 T1 top TT) (fun c => ?_) (fun c => ?_) (fun v I6 H6 g6 hv => ?_)⟩
    · exact fun Q2 q2 => ⟨_, rfl, q2 _ _ _ (Gr.refl gs5.s) ⟨b3, T1, rfl, hb3', .inl ⟨fun z => (by rw [z] at c; cases c), rfl⟩⟩⟩
    · refine fun Q2 q2 => ⟨_, rfl, b1, rfl, ⟨_, sqH (gs5.s _ _ hb1')⟩, lc_flat (v := vN) (f := fun p => decide (mkOf G p = top)) (m := fun p => p) (src_listF hb1') gs5.s (by omega) (fun e xe I6 H6 he re g6 Qg kk => ?_) (fun D6 I6 H6 g6 mu6 => ?_)⟩
      · have re : xe = vN e := re
        subst re
        refine kk _ rfl (fun Q3 q3 => ?_) (fun I7 H7 g7 _ Q2 q2 => ⟨_, rfl, q2 _ I7 H7 (Gr.refl g7.s) rfl⟩)
        obtain ⟨a', xs', d, cc, ea, p1, p2, p3, _⟩ := place_at (hG (gg5.i.trans g6.i)) g6.s (hA1n e he)
        cases ea
        refine ⟨_, rfl, _, rfl, a, xs', e, _, rfl, rfl, p1, p2, d, _, 0, _, rfl, rfl, p3, rfl, _, rfl, rfl, _, rfl, ?_⟩
        have fin := q3 I6 H6 (Gr.refl g6.s)
        by_cases ce : mkOf G e = top
        · rw [decide_eq_true ce] at fin
          rw [decide_eq_true (by rw [ce])]
          exact fin
        · rw [decide_eq_false ce] at fin
          rw [decide_eq_false (fun z => ce (vN_inj z))]
          exact fin
      · rw [map_same] at mu6
        exact q2 _ _ _ (g6.stop mu6) ⟨D6, _, rfl, upd_same, .inr ⟨of_empty c, rfl⟩⟩
    obtain ⟨bg, TT, e, hbg, hgoal⟩ := hv
    subst e
    have gg6 := gg5.trans g6
    have hb1 := g6.i _ _ hb1'
    have hb3 := g6.i _ _ hb3'
    have hTT : ∀ p ∈ TT, p ∈ A1 := fun p hp => by
      rcases hgoal with ⟨_, z⟩ | ⟨_, z⟩
      · rw [z] at hp; exact left.hin p hp
      · rw [z] at hp; exact (List.mem_filter.mp hp).1
    have hT1 : ∀ p ∈ T1, p ∈ TT := fun p hp => by
      rcases hgoal with ⟨_, z⟩ | ⟨z, _⟩
      · rw [z]; exact hp
      · rw [z] at hp; cases hp
    have TTne : ∃ p, p ∈ TT := by
      rcases hgoal with ⟨z, e⟩ | ⟨z, e⟩
      · rw [e]; exact List.exists_mem_of_ne_nil _ z
      · obtain ⟨p, h1, h2, h3⟩ := htop
        exact ⟨p, by rw [e]; exact List.mem_filter.mpr ⟨h1, decide_eq_true h3⟩⟩
    have ttlen : TT.length ≤ 24 := by
      rcases hgoal with ⟨_, z⟩ | ⟨_, z⟩
      · rw [z]; exact t1len
      · rw [z]; exact Nat.le_trans (List.length_filter_le _ _) a24
    refine ⟨_, rfl, _, .inl ⟨_, sqH (g6.s _ _ hb3), rfl⟩, orT (b := decide (top % 2 = par sd)) ?_ fun Q' q' => ?_⟩
    case refine_2 =>
      refine ⟨_, rfl, (top : Int), 2, rfl, rfl, (show (0 : Int) < 2 by decide), rfl, _, rfl, rfl, rfl, _, rfl, ?_⟩
      rw [par_cond hsd]
      exact q'
    cases hc : (!(T1.map vN).isEmpty || decide (top % 2 = par sd)) with
    | true =>
      have allw : AllW G sd A1 T1 TT tauH := by
        rcases hgoal with ⟨_, z⟩ | ⟨z, e⟩
        · rw [z]; exact allW_home left
        · rw [e]
          rw [z] at hc
          have hp : top % 2 = par sd := of_decide_eq_true hc
          subst z
          exact allW_top nd hsd hA1n left (fun p hp => hmax p hp (by simp)) hp
      -- found, plan
      refine iteT ⟨_, rfl, _, rfl, _, rfl, _, rfl, I6, G, A1, sd, TT, _, _, _, g6.s, rfl, hG gg6.i, ⟨b1, rfl, hb1⟩, ⟨bg, rfl, hbg⟩, hw, nd, hsd, hA1n, hTT, left.step, ttlen, a24, fun t f d I7 H7 F kvs g7 ht hf md pr hF fl => ?_⟩
      refine ⟨t, [.ref f, .ref d], rfl, rdT ht g7.s, rfl, _, _, rfl, _, _, rfl, rfl, ?_⟩
      have gg7 := gg6.trans g7
      have md : Mu H I7 H7 d (.dK kvs) := ⟨gg6.h.free md.b, md.i, md.h⟩
      have hb1 := g7.i _ _ hb1
      have hb3 := g7.i _ _ hb3
      have hbg := g7.i _ _ hbg
      -- rest
      refine ⟨_, rfl, b1, rfl, ⟨_, sqH (g7.s _ _ hb1)⟩, lc_flat (v := vN) (f := fun p => !decide (p ∈ F)) (m := fun p => p) (src_listF hb1) g7.s (by omega) (fun e xe I8 H8 he re g8 Qg kk => ?_) (fun pr8 I8 H8 g8 m8 => ?_)⟩
      · have re : xe = vN e := re
        subst re
        exact kk _ rfl (fun Q2 q2 => ⟨_, rfl, _, rfl, f, F, e, rfl, rfl, sqH (g8.s _ _ (g8.i _ _ hf)), _, rfl, q2 I8 H8 (Gr.refl g8.s)⟩) (fun I9 H9 g9 _ Q2 q2 => ⟨_, rfl, q2 _ I9 H9 (Gr.refl g9.s) rfl⟩)
      rw [map_same] at m8
      generalize hR : (A1.filter fun p => !decide (p ∈ F)) = R at m8
      have memR : ∀ p, p ∈ R ↔ p ∈ A1 ∧ p ∉ F := fun p => by rw [← hR, List.mem_filter]; simp
      have Rnd : R.Nodup := by rw [← hR]; exact left.nd.filter _
      have Rlen : R.length < A1.length := by
        obtain ⟨p, hp⟩ := TTne
        obtain ⟨rho, at_⟩ := pr.attr
        rw [← hR]
        refine (List.length_filter_lt_length_iff_exists).mpr ⟨p, hTT p hp, ?_⟩
        have := at_.has p hp
        simp [this]
      have gs8 := g8.stop m8
      have gg8 := gg7.trans gs8
      have md := md.up gs8
      have Rsub : Sub (Ed G) (fun p => p ∈ R) := fun p hp => by
        obtain ⟨rho, at_⟩ := pr.attr
        obtain ⟨t', h1, h2⟩ := at_.subgame left.step p ((memR p).mp hp)
        exact ⟨t', h1, (memR t').mpr h2⟩
      -- kept, more
      refine ⟨_, rfl, _, rfl, _, rfl, Nat.zero_le _, fun pe npe => ?_⟩
      have ge := Gr.imm (o := .lst []) gs8.s npe
      have gge := gg8.trans ge
      have md := md.up ge
      refine ⟨_, G, R, sd, [], tauH, _, _, _, ge.s, rfl, hG gge.i, ⟨pr8, rfl, ge.i _ _ upd_same⟩, ⟨pe, rfl, upd_same⟩, hw, nd, hsd, fun p hp => hA1n p ((memR p).mp hp).1, Rnd, Rsub, fun p hp => absurd hp (by simp), by simp, wins_none, by show 2 * R.length + 1 < M; omega, fun t2 kf kd I9' H9 Kl more g9' ht2' hkf' hkdM wr => ?_⟩
      obtain ⟨I9, g9, ht2, hkf, hkd⟩ : ∃ I9, Gr _ _ I9 H9 ∧ SqT K I9 t2 [.ref kf, .ref kd] ∧ I9 kf = some (.lst (Kl.map vN)) ∧ I9 kd = some (.dK more) := ⟨_, g9'.stop hkdM, rdT ht2' (Same.new hkdM.i), (Same.new hkdM.i) _ _ hkf', upd_same⟩
      refine ⟨t2, [.ref kf, .ref kd], rfl, rdT ht2 g9.s, rfl, _, _, rfl, _, _, rfl, rfl, ?_⟩
      have gg9 := gge.trans g9
      have md := md.up g9
      have g79 := (gs8.trans ge).trans g9
      have hb1 := g79.i _ _ hb1
      have hb3 := g79.i _ _ hb3
      have hbg := g79.i _ _ hbg
      have hf := g79.i _ _ hf
      have hpr : I9 pr8 = some (.lst (R.map vN)) := g9.i _ _ (ge.i _ _ upd_same)
      refine ⟨_, rfl, kf, _, rfl, .inl (sqH (g9.s _ _ hkf)), _, rfl, pr8, _, rfl, .inl (sqH (g9.s _ _ hpr)), rfl, _, rfl, ite2 (fun cl => ?_) (fun cl => ?_)⟩
      · have cl : Kl.length = R.length := by
          have cl : V.int ((Kl.map vN).length : Nat) = V.int ((R.map vN).length : Nat) := of_decide_eq_true cl
          injection cl with cl
          rw [len_nat, len_nat] at cl
          omega
        have hK : ∀ p ∈ R, p ∈ Kl := nodup_all wr.nd wr.sub (by omega)
        refine ⟨_, rfl, bg, rfl, ⟨_, sqH (g9.s _ _ hbg)⟩, for_src (gWo H G A1 T1 TT sd kvs (.ref a) b1 b3 bg f d (some (.ref pm)) (some (vN top)) (some (.ref pr8)) (some (.ref kf)) (some (.ref kd)) z13 z14) (src_listF hbg) gg9 ⟨z4, kvs, rfl, md, pr.pd, fun p _ => rfl, fun p hp => absurd hp (by simp)⟩ ?_ ?_⟩
        · rintro i p xv σ2 Ia Ha Ib Hb hp ga ea ⟨z4', kvs', rfl, md', pd', hk1, hk2⟩ gb re
          have re : xv = vN p := re
          subst re
          have md' := md'.up gb
          have ggb := ga.trans gb
          have eb := ea.trans gb.i
          have hpT : p ∈ TT := List.mem_of_getElem? hp
          have hpA := hTT p hpT
          have hpn := hA1n p hpA
          have tk : ∀ {q}, q ∈ TT.take (i + 1) ↔ q ∈ TT.take i ∨ q = p := fun {q} => by
            rw [List.take_add_one, hp, List.mem_append]
            exact or_congr Iff.rfl List.mem_singleton
          have skip : (p ∈ T1 ∨ kdOf G p ≠ sd) → Nx I H I9 (gWo H G A1 T1 TT sd kvs (.ref a) b1 b3 bg f d (some (.ref pm)) (some (vN top)) (some (.ref pr8)) (some (.ref kf)) (some (.ref kd)) z13 z14 (i + 1)) [some (.ref a), some (.ref b1), some (.str (kS sd)), some (.ref b3), some (vN p), some (.ref pm), some (vN top), some (.ref bg), some (.ref f), some (.ref d), some (.ref pr8), some (.ref kf), some (.ref kd), z13, z14] Hb := fun hn =>
            ⟨Ib, ggb, eb, _, kvs', rfl, md', pd', fun q hq => hk1 q (hq.imp (fun y z => y (tk.mpr (.inl z))) id), fun q hq h1 h2 => (tk.mp hq).elim (fun z => hk2 q z h1 h2) fun z => by rw [z] at h1 h2; exact hn.elim (fun y => absurd y h1) fun y => absurd h2 y⟩
          refine ⟨_, rfl, _, rfl, b3, T1, p, rfl, rfl, sqH (gb.s _ _ (eb _ _ hb3)), _, rfl, ?_⟩
          by_cases c1 : p ∈ T1
          · rw [decide_eq_true c1]
            exact iteF (iteF (skip (.inl c1)))
          rw [decide_eq_false c1]
          obtain ⟨a', xs', dd, cc, ea', p1, p2, p3, _⟩ := place_at (hG ggb.i) ggb.s hpn
          cases ea'
          refine iteT ⟨_, rfl, _, rfl, a, xs', p, _, rfl, rfl, p1, p2, dd, _, 1, _, rfl, rfl, p3, rfl, _, rfl, rfl, _, rfl, ite2 (fun ck => ?_) (fun ck => ?_)⟩
          · have ck : kdOf G p = sd := of_decide_eq_true ((kS_inj (b := sd)).symm.trans ck)
            refine ⟨_, rfl, _, rfl, _, rfl, Ib, G, A1, p, _, _, ggb.s, rfl, hG ggb.i, ⟨b1, rfl, eb _ _ hb1⟩, hw, hpn, left.step p hpA, fun b t' Ic Hc gc hbt' htA => ?_⟩
            have mdc := md'.up gc
            have kl := pd'.len
            refine ⟨_, rfl, _, rfl, d, _, rfl, DPut.k (k := Sum.inl (p : Int)) mdc.h (line_lt (by omega)), Ic, (ggb.trans gc).put mdc, eb.trans gc.i, _, _, rfl, mdc.set, pd'.put hpn, fun q hq => ?_, fun q hq h1 h2 => ?_⟩
            · have hqp : q ≠ p := fun z => by
                rw [z] at hq
                rcases hq with y | y | y
                · exact y (tk.mpr (.inr rfl))
                · exact y ck
                · exact c1 y
              rw [bD_put, if_neg hqp]
              exact hk1 q (hq.imp (fun y z => y (tk.mpr (.inl z))) id)
            · by_cases z : q = p
              · rw [z, bD_put, if_pos rfl]; exact ⟨b, t', rfl, hbt', htA⟩
              · rw [bD_put, if_neg z]; exact hk2 q ((tk.mp hq).resolve_right z) h1 h2
          · exact skip (.inr fun z => ck ((kS_inj (b := sd)).trans (decide_eq_true z)))
        · rintro σ2 Ia Ha ga ea ⟨z4', kvs', rfl, md', pd', hk1, hk2⟩
          rw [List.take_length] at hk1 hk2
          have l1 := pd'.len
          have l2 := wr.pd.len
          refine ⟨_, rfl, _, rfl, _, rfl, d, kd, kvs', more, rfl, rfl, md'.h, ga.s _ _ (ea _ _ hkd), line_le (by omega), fun pn npn => ?_⟩
          have f2 := Gr.mut (o := .dK (mergeK kvs' more)) ga.s npn
          refine ⟨by show 2 ≤ sizeLine; decide, fun t nt => ?_⟩
          have f3 := Gr.imm (o := .tup [.ref b1, .ref pn]) f2.s nt
          exact q t b1 pn _ _ A1 _ ((ga.trans f2).trans f3) (.inl (.inl upd_same)) (f3.i _ _ (f2.i _ _ (ea _ _ hb1))) ((Mu.new ga npn).up f3) (left.fin hsd (allw F kvs R Kl more tauH kvs' pr hF memR wr hK pd' hk1 hk2))
      · have cl : ¬ Kl.length = R.length := fun z => cl (decide_eq_true (by rw [len_nat, len_nat, z]))
        -- lost
        refine ⟨_, rfl, pr8, rfl, ⟨_, sqH (g9.s _ _ hpr)⟩, lc_flat (v := vN) (f := fun p => !decide (p ∈ Kl)) (m := fun p => p) (src_listF hpr) g9.s (by omega) (fun e xe Ia Ha he re ga Qg kk => ?_) (fun plo Ia Ha ga ma => ?_)⟩
        · have re : xe = vN e := re
          subst re
          exact kk _ rfl (fun Q2 q2 => ⟨_, rfl, _, rfl, kf, Kl, e, rfl, rfl, sqH (ga.s _ _ (ga.i _ _ hkf)), _, rfl, q2 Ia Ha (Gr.refl ga.s)⟩) (fun Ib Hb gb _ Q2 q2 => ⟨_, rfl, q2 _ Ib Hb (Gr.refl gb.s) rfl⟩)
        rw [map_same] at ma
        generalize hLo : (R.filter fun p => !decide (p ∈ Kl)) = Lo at ma
        have memLo : ∀ p, p ∈ Lo ↔ p ∈ R ∧ p ∉ Kl := fun p => by rw [← hLo, List.mem_filter]; simp
        have Lone : ∃ p, p ∈ Lo := Classical.byContradiction fun z => cl (Nat.le_antisymm (nodup_sub wr.nd wr.sub) (nodup_sub Rnd fun p hp => Classical.byContradiction fun y => z ⟨p, (memLo p).mpr ⟨hp, y⟩⟩))
        have Lolen : Lo.length ≤ 24 := by rw [← hLo]; exact Nat.le_trans (List.length_filter_le _ _) (by omega)
        have gsa := ga.stop ma
        have gga := gg9.trans gsa
        -- gone
        refine ⟨_, rfl, _, rfl, _, rfl, aO, _, _, rfl, rfl, Oth.at ot1 ot2 hsd, _, rfl, _, G, A1, oth sd, Lo, _, _, _, gsa.s, rfl, hG gga.i, ⟨b1, rfl, gsa.i _ _ hb1⟩, ⟨plo, rfl, upd_same⟩, hw, nd, oth_nd, hA1n, fun p hp => ((memR p).mp ((memLo p).mp hp).1).1, left.step, Lolen, a24, fun t3 f3 d3 Ib Hb F2 kvs2 gb ht3 hf3 _ pr2 hF2 fl2 => ?_⟩
        refine ⟨t3, _, 0, _, rfl, rfl, rdT ht3 gb.s, rfl, ?_⟩
        have ggb := gga.trans gb
        have g9b := gsa.trans gb
        have hb1 := g9b.i _ _ hb1
        have hb3 := g9b.i _ _ hb3
        -- arena
        refine ⟨_, rfl, b1, rfl, ⟨_, sqH (gb.s _ _ hb1)⟩, lc_flat (v := vN) (f := fun p => !decide (p ∈ F2)) (m := fun p => p) (src_listF hb1) gb.s (by omega) (fun e xe Ic Hc he re gc Qg kk => ?_) (fun pA Ic Hc gc mc => ?_)⟩
        · have re : xe = vN e := re
          subst re
          exact kk _ rfl (fun Q2 q2 => ⟨_, rfl, _, rfl, f3, F2, e, rfl, rfl, sqH (gc.s _ _ (gc.i _ _ hf3)), _, rfl, q2 Ic Hc (Gr.refl gc.s)⟩) (fun Id Hd gd _ Q2 q2 => ⟨_, rfl, q2 _ Id Hd (Gr.refl gd.s) rfl⟩)
        rw [map_same] at mc
        have gsc := gc.stop mc
        have ggc := ggb.trans gsc
        have hb3 := gsc.i _ _ hb3
        have hf3 := gsc.i _ _ hf3
        refine ⟨_, rfl, b3, rfl, ⟨_, sqH (gsc.s _ _ hb3)⟩, lc_flat (v := vN) (f := fun p => !decide (p ∈ F2)) (m := fun p => p) (src_listF hb3) gsc.s (by omega) (fun e xe Id Hd he re gd Qg kk => ?_) (fun pT Id Hd gd md2 => ?_)⟩
        · have re : xe = vN e := re
          subst re
          exact kk _ rfl (fun Q2 q2 => ⟨_, rfl, _, rfl, f3, F2, e, rfl, rfl, sqH (gd.s _ _ (gd.i _ _ hf3)), _, rfl, q2 Id Hd (Gr.refl gd.s)⟩) (fun Ie He ge _ Q2 q2 => ⟨_, rfl, q2 _ Ie He (Gr.refl ge.s) rfl⟩)
        rw [map_same] at md2
        have gsd := gd.stop md2
        have lnext : Left G sd A T tauH (A1.filter fun p => !decide (p ∈ F2)) (T1.filter fun p => !decide (p ∈ F2)) := left.next hsd pr hT1 hF memR wr memLo pr2 (fun p => by rw [List.mem_filter]; simp) (left.nd.filter _) (fun p => by rw [List.mem_filter]; simp)
        refine ⟨_, ?_, _, _, _, _, _, _, _, _, _, _, _, _, _, _, pA, pT, ggc.trans gsd, rfl, gsd.i _ _ upd_same, upd_same, lnext, Nat.le_trans (List.length_filter_le _ _) t1len, Nat.le_trans (List.length_filter_le _ _) a1len, rfl⟩
        obtain ⟨p, hp⟩ := Lone
        obtain ⟨rho, at_⟩ := pr2.attr
        refine (List.length_filter_lt_length_iff_exists).mpr ⟨p, ((memR p).mp ((memLo p).mp hp).1).1, ?_⟩
        have := at_.has p hp
        simp [this]
    | false =>
      have hT0 : T1 = [] := of_empty (Bool.or_eq_false_iff.mp hc).1
      have hpar : top % 2 = par (oth sd) := (par_oth hsd).mpr (of_decide_eq_false (Bool.or_eq_false_iff.mp hc).2)
      have left0 := left
      have eTT : TT = A1.filter fun p => decide (mkOf G p = top) := hgoal.elim (fun z => absurd hT0 z.1) fun z => z.2
      have memTT : ∀ p, p ∈ TT ↔ p ∈ A1 ∧ mkOf G p = top := fun p => by rw [eTT, List.mem_filter, decide_eq_true_iff]
      have hmx : ∀ p ∈ A1, mkOf G p ≤ top := fun p hp => hmax p hp (by rw [hT0]; simp)
      have hA0 : T = [] := by
        cases e : T with
        | nil => rfl
        | cons p l =>
          have := (left.home p).mpr (by rw [e]; simp)
          rw [hT0] at this
          cases this
      -- found
      refine iteF ⟨_, rfl, _, rfl, _, rfl, aO, _, _, rfl, rfl, Oth.at ot1 ot2 hsd, _, rfl, I6, G, A1, oth sd, TT, _, _, _, g6.s, rfl, hG gg6.i, ⟨b1, rfl, hb1⟩, ⟨bg, rfl, hbg⟩, hw, nd, oth_nd, hA1n, hTT, left.step, ttlen, a24, fun t f d I7 H7 F kvs g7 ht hf _ pr hF fl => ?_⟩
      refine ⟨t, _, 0, _, rfl, rfl, rdT ht g7.s, rfl, ?_⟩
      have gg7 := gg6.trans g7
      have hb1 := g7.i _ _ hb1
      -- rest
      refine ⟨_, rfl, b1, rfl, ⟨_, sqH (g7.s _ _ hb1)⟩, lc_flat (v := vN) (f := fun p => !decide (p ∈ F)) (m := fun p => p) (src_listF hb1) g7.s (by omega) (fun e xe I8 H8 he re g8 Qg kk => ?_) (fun pr8 I8 H8 g8 m8 => ?_)⟩
      · have re : xe = vN e := re
        subst re
        exact kk _ rfl (fun Q2 q2 => ⟨_, rfl, _, rfl, f, F, e, rfl, rfl, sqH (g8.s _ _ (g8.i _ _ hf)), _, rfl, q2 I8 H8 (Gr.refl g8.s)⟩) (fun I9 H9 g9 _ Q2 q2 => ⟨_, rfl, q2 _ I9 H9 (Gr.refl g9.s) rfl⟩)
      rw [map_same] at m8
      generalize hR : (A1.filter fun p => !decide (p ∈ F)) = R at m8
      have memR : ∀ p, p ∈ R ↔ p ∈ A1 ∧ p ∉ F := fun p => by rw [← hR, List.mem_filter]; simp
      have Rnd : R.Nodup := by rw [← hR]; exact left.nd.filter _
      have Rlen : R.length < A1.length := by
        obtain ⟨p, hp⟩ := TTne
        obtain ⟨rho, at_⟩ := pr.attr
        rw [← hR]
        refine (List.length_filter_lt_length_iff_exists).mpr ⟨p, hTT p hp, ?_⟩
        have := at_.has p hp
        simp [this]
      have gs8 := g8.stop m8
      have gg8 := gg7.trans gs8
      have Rsub : Sub (Ed G) (fun p => p ∈ R) := fun p hp => by
        obtain ⟨rho, at_⟩ := pr.attr
        obtain ⟨t', h1, h2⟩ := at_.subgame left.step p ((memR p).mp hp)
        exact ⟨t', h1, (memR t').mpr h2⟩
      -- kept, plan
      refine ⟨_, rfl, _, rfl, _, rfl, Nat.zero_le _, fun pe npe => ?_⟩
      have ge := Gr.imm (o := .lst []) gs8.s npe
      have gge := gg8.trans ge
      have hM' : 2 * A.length + 1 < M + 1 := by rw [hA0] at hM; exact hM
      refine ⟨_, G, R, sd, [], tauH, _, _, _, ge.s, rfl, hG gge.i, ⟨pr8, rfl, ge.i _ _ upd_same⟩, ⟨pe, rfl, upd_same⟩, hw, nd, hsd, fun p hp => hA1n p ((memR p).mp hp).1, Rnd, Rsub, fun p hp => absurd hp (by simp), by simp, wins_none, by show 2 * R.length + 1 < M; omega, fun t2 kf kd I9' H9 Kl more g9' ht2' hkf' hkdM wr => ?_⟩
      obtain ⟨I9, g9, ht2, hkf, hkd⟩ : ∃ I9, Gr _ _ I9 H9 ∧ SqT K I9 t2 [.ref kf, .ref kd] ∧ I9 kf = some (.lst (Kl.map vN)) ∧ I9 kd = some (.dK more) := ⟨_, g9'.stop hkdM, rdT ht2' (Same.new hkdM.i), (Same.new hkdM.i) _ _ hkf', upd_same⟩
      refine ⟨t2, [.ref kf, .ref kd], rfl, rdT ht2 g9.s, rfl, _, _, rfl, _, _, rfl, rfl, ?_⟩
      have gg9 := gge.trans g9
      have g79 := (gs8.trans ge).trans g9
      have hb1 := g79.i _ _ hb1
      refine ⟨_, rfl, _, .inl ⟨_, sqH (g9.s _ _ hkf), rfl⟩, ?_⟩
      by_cases hK0 : Kl = []
      · subst hK0
        refine iteT ⟨Nat.zero_le _, fun pl nl pd npd => ?_⟩
        have f1 := Gr.imm (o := .lst []) g9.s nl
        have f2 := Gr.mut (o := .dK []) f1.s npd
        refine ⟨by show 2 ≤ sizeLine; decide, fun t nt => ?_⟩
        have f3 := Gr.imm (o := .tup [.ref pl, .ref pd]) f2.s nt
        have fin : WonR G sd A1 T1 tauH [] [] := by
          rw [hT0]
          exact won_nothing left.step pr hF memR wr memTT hmx hpar
        exact q t pl pd _ _ [] [] (((gg9.trans f1).trans f2).trans f3) (.inl (.inl upd_same)) (f3.i _ _ (f2.i _ _ upd_same)) ((Mu.new (gg9.trans f1) npd).up f3) (left.fin hsd fin)
      · rw [ne_empty hK0]
        obtain ⟨tau, w1, w2, w3⟩ := wr.win
        have w3' := kept_lift hsd pr memR w3
        have KA : ∀ p ∈ Kl, p ∈ A1 := fun p hp => ((memR p).mp (wr.sub p hp)).1
        have Klen : Kl.length ≤ 24 := Nat.le_trans (nodup_sub wr.nd KA) a24
        have Ke : Kl.isEmpty = false := by
          cases e : Kl with
          | nil => exact absurd e hK0
          | cons a l => rfl
        refine iteF ⟨_, rfl, _, rfl, _, rfl, _, rfl, I9, G, A1, sd, Kl, tau, _, _, _, g9.s, rfl, hG gg9.i, ⟨b1, rfl, hb1⟩, ⟨kf, rfl, hkf⟩, hw, nd, hsd, hA1n, left.nd, left.step, KA, Klen, w3', by rw [Ke]; show 2 * A1.length + 0 < M; omega, fun t4 mf md Ia' Ha K2 kv2 ga' ht4' hmf' hmdM wr2 => ?_⟩
        obtain ⟨Ia, ga, ht4, hmf, hmd⟩ : ∃ Ia, Gr _ _ Ia Ha ∧ SqT K Ia t4 [.ref mf, .ref md] ∧ Ia mf = some (.lst (K2.map vN)) ∧ Ia md = some (.dK kv2) := ⟨_, ga'.stop hmdM, rdT ht4' (Same.new hmdM.i), (Same.new hmdM.i) _ _ hmf', upd_same⟩
        have l1 := wr2.pd.len
        have l2 := wr.pd.len
        have ht4' := rdT ht4 ga.s
        have gga := gg9.trans ga
        refine ⟨_, rfl, t4, _, 0, _, rfl, rfl, ht4', rfl, _, rfl, t4, _, 1, _, rfl, rfl, ht4', rfl, _, rfl, md, kd, kv2, more, rfl, rfl, ga.s _ _ hmd, ga.s _ _ (ga.i _ _ hkd), line_le (by omega), fun pn npn => ?_⟩
        have f2 := Gr.mut (o := .dK (mergeK kv2 more)) ga.s npn
        refine ⟨by show 2 ≤ sizeLine; decide, fun t nt => ?_⟩
        have f3 := Gr.imm (o := .tup [.ref mf, .ref pn]) f2.s nt
        have fin : WonR G sd A1 T1 tauH K2 (mergeK kv2 more) := by
          rw [hT0]
          exact won_twice wr (fun p hp => ((memR p).mp hp).1) (fun p hp o => w2 p hp (by simp) o) wr2 fun p hp o => (own_iff nd (hA1n p hp) hsd).mp o
        exact q t mf pn _ _ K2 _ ((gga.trans f2).trans f3) (.inl (.inl upd_same)) (f3.i _ _ (f2.i _ _ hmf)) ((Mu.new gga npn).up f3) (left.fin hsd fin)
end
end OC
namespace OC
open PySem PySem.Spec PyProof.Rows L2
/-! ### places by their numbers -/
structure Rc where
  z : Int
  l : List Nat
  t : Addr
  x : V
  b : Addr
def rcEq (K : PySem.W.Frag) (H0 I H : Hp) (pf : Addr) (r : Rc) : Prop := I r.t = some (.tup [r.x, .ref r.b]) ∧ (rQ K).rel r.z r.x I ∧ Mu H0 I H r.b (.lst (r.l.map vN)) ∧ r.b ≠ pf
section
variable {K : PySem.W.Frag} {H0 I H I' H' : Hp} {pf : Addr} {r : Rc} {rs : List Rc}
theorem rcEq.up (h : rcEq K H0 I H pf r) (g : Gr I H I' H') : rcEq K H0 I' H' pf r := ⟨g.i _ _ h.1, (rQ K).up h.2.1 g.i, h.2.2.1.up g, h.2.2.2⟩
theorem rcEq.other {q : Addr} {u : HO} (h : rcEq K H0 I H pf r) (ne : r.b ≠ q) : rcEq K H0 I (upd H q u) pf r := ⟨h.1, h.2.1, h.2.2.1.other ne, h.2.2.2⟩
/-- the records so far: i places are done -/
structure Rcs (N : Nat → Int) (i : Nat) (rs : List Rc) : Prop where
  nd : (rs.map (·.b)).Nodup
  asc : rs.Pairwise fun a b => a.z < b.z
  is : ∀ r ∈ rs, r.l = (List.range i).filter fun p => decide (N p = r.z)
  ne : ∀ r ∈ rs, r.l ≠ []
  all : ∀ p, p < i → ∃ r ∈ rs, r.z = N p
theorem range_succ_f {N : Nat → Int} {i : Nat} {z : Int} : (List.range (i + 1)).filter (fun p => decide (N p = z)) = (List.range i).filter (fun p => decide (N p = z)) ++ (if N i = z then [i] else []) := by
  rw [List.range_succ, List.filter_append]
  congr 1
  by_cases c : N i = z
  · rw [if_pos c, List.filter_cons, if_pos (decide_eq_true c)]; rfl
  · rw [if_neg c, List.filter_cons, if_neg (by simpa using c)]; rfl
theorem Rcs.len {N : Nat → Int} {i : Nat} (h : Rcs N i rs) : rs.length ≤ i := by
  -- each has a first place, and no two share one
  have h1 : (rs.map fun r => r.l.headD 0).Nodup := by
    refine List.pairwise_map.mpr (h.asc.imp_of_mem fun {a b} ha hb lt e => ?_)
    have key : ∀ r ∈ rs, N (r.l.headD 0) = r.z := fun r hr => by
      have h2 := h.is r hr
      cases hl : r.l with
      | nil => exact absurd hl (h.ne r hr)
      | cons p t =>
        have : p ∈ (List.range i).filter fun p => decide (N p = r.z) := by rw [← h2, hl]; simp
        exact of_decide_eq_true (List.mem_filter.mp this).2
    have e : a.l.headD 0 = b.l.headD 0 := e
    have := key a ha
    rw [e, key b hb] at this
    omega
  have := nodup_len h1 (n := i) fun p hp => by
    have ⟨r, hr, e⟩ := List.mem_map.mp hp
    subst e
    have h2 := h.is r hr
    cases hl : r.l with
    | nil => exact absurd hl (h.ne r hr)
    | cons p t =>
      have : p ∈ (List.range i).filter fun p => decide (N p = r.z) := by rw [← h2, hl]; simp
      exact List.mem_range.mp (List.mem_filter.mp this).1
  rw [List.length_map] at this
  exact this
/-- the place's number is there: its record grows -/
theorem Rcs.grow {N : Nat → Int} {i : Nat} {a b : List Rc} {r : Rc} (h : Rcs N i (a ++ r :: b)) (hz : r.z = N i) : Rcs N (i + 1) (a ++ { r with l := r.l ++ [i] } :: b) := by
  have mem : ∀ {q}, q ∈ a ++ { r with l := r.l ++ [i] } :: b → (q = { r with l := r.l ++ [i] }) ∨ (q ∈ a ++ r :: b ∧ q.z ≠ N i) := fun {q} hq => by
    have hp := List.pairwise_append.mp h.asc
    have hc := List.pairwise_cons.mp hp.2.1
    rcases List.mem_append.mp hq with z | z
    · refine .inr ⟨List.mem_append_left _ z, ?_⟩
      have := hp.2.2 q z r List.mem_cons_self
      omega
    · rcases List.mem_cons.mp z with (z | z)
      · exact .inl z
      · refine .inr ⟨List.mem_append_right _ (List.mem_cons_of_mem _ z), ?_⟩
        have := hc.1 q z
        omega
  have hr : r ∈ a ++ r :: b := List.mem_append_right _ List.mem_cons_self
  refine ⟨by have := h.nd; rw [List.map_append, List.map_cons] at this ⊢; exact this, ?_, fun q hq => ?_, fun q hq => ?_, fun p hp => ?_⟩
  · have hp := List.pairwise_append.mp h.asc
    have hc := List.pairwise_cons.mp hp.2.1
    refine List.pairwise_append.mpr ⟨hp.1, List.pairwise_cons.mpr ⟨fun q hq => hc.1 q hq, hc.2⟩, fun x hx y hy => ?_⟩
    rcases List.mem_cons.mp hy with z | z
    · rw [z]; exact hp.2.2 x hx r List.mem_cons_self
    · exact hp.2.2 x hx y (List.mem_cons_of_mem _ z)
  · rw [range_succ_f]
    rcases mem hq with z | ⟨z1, z2⟩
    · subst z
      show r.l ++ [i] = _
      rw [if_pos hz.symm, ← h.is r hr]
    · rw [if_neg (fun z => z2 z.symm), List.append_nil]
      exact h.is q z1
  · rcases mem hq with z | ⟨z1, z2⟩
    · subst z
      show r.l ++ [i] ≠ []
      simp
    · exact h.ne q z1
  · by_cases c : p = i
    · subst c
      exact ⟨_, List.mem_append_right _ List.mem_cons_self, hz⟩
    · obtain ⟨q, h1, h2⟩ := h.all p (by omega)
      rcases List.mem_append.mp h1 with z | z
      · exact ⟨q, List.mem_append_left _ z, h2⟩
      · rcases List.mem_cons.mp z with (z | z)
        · exact ⟨_, List.mem_append_right _ List.mem_cons_self, by show r.z = N p; rw [← z]; exact h2⟩
        · exact ⟨q, List.mem_append_right _ (List.mem_cons_of_mem _ z), h2⟩
/-- it is not: a new record -/
theorem Rcs.new {N : Nat → Int} {i : Nat} {a b : List Rc} {r : Rc} (h : Rcs N i (a ++ b)) (hz : r.z = N i) (hl : r.l = [i]) (ha : ∀ q ∈ a, q.z < N i) (hb : ∀ q ∈ b, N i < q.z) (hn : r.b ∉ (a ++ b).map (·.b)) : Rcs N (i + 1) (a ++ r :: b) := by
  have mem : ∀ {q}, q ∈ a ++ r :: b → q = r ∨ (q ∈ a ++ b ∧ q.z ≠ N i) := fun {q} hq => by
    rcases List.mem_append.mp hq with z | z
    · exact .inr ⟨List.mem_append_left _ z, by have := ha q z; omega⟩
    · rcases List.mem_cons.mp z with (z | z)
      · exact .inl z
      · exact .inr ⟨List.mem_append_right _ z, by have := hb q z; omega⟩
  have none : (List.range i).filter (fun p => decide (N p = N i)) = [] := by
    rw [List.filter_eq_nil_iff]
    intro p hp e
    obtain ⟨q, h1, h2⟩ := h.all p (List.mem_range.mp hp)
    rw [of_decide_eq_true e] at h2
    rcases List.mem_append.mp h1 with z | z
    · have := ha q z; omega
    · have := hb q z; omega
  have hp := List.pairwise_append.mp h.asc
  refine ⟨?_, List.pairwise_append.mpr ⟨hp.1, List.pairwise_cons.mpr ⟨fun q hq => by rw [hz]; exact hb q hq, hp.2.1⟩, fun x hx y hy => ?_⟩, fun q hq => ?_, fun q hq => ?_, fun p hp => ?_⟩
  · rw [List.map_append] at hn
    have := h.nd
    rw [List.map_append, List.nodup_append] at this
    rw [List.map_append, List.map_cons, List.nodup_append]
    refine ⟨this.1, List.nodup_cons.mpr ⟨fun z => hn (List.mem_append_right _ z), this.2.1⟩, fun x hx y hy => ?_⟩
    rcases List.mem_cons.mp hy with z | z
    · rw [z]; exact fun y => hn (List.mem_append_left _ (y ▸ hx))
    · exact this.2.2 x hx y z
  · rcases List.mem_cons.mp hy with z | z
    · rw [z, hz]; exact ha x hx
    · exact hp.2.2 x hx y z
  · rw [range_succ_f]
    rcases mem hq with z | ⟨z1, z2⟩
    · subst z
      rw [hl, hz, none, if_pos rfl]; rfl
    · rw [if_neg (fun z => z2 z.symm), List.append_nil]
      exact h.is q z1
  · rcases mem hq with z | ⟨z1, z2⟩
    · rw [z, hl]; simp
    · exact h.ne q z1
  · by_cases c : p = i
    · subst c
      exact ⟨r, List.mem_append_right _ List.mem_cons_self, hz⟩
    · obtain ⟨q, h1, h2⟩ := h.all p (by omega)
      rcases List.mem_append.mp h1 with z | z
      · exact ⟨q, List.mem_append_left _ z, h2⟩
      · exact ⟨q, List.mem_append_right _ (List.mem_cons_of_mem _ z), h2⟩
/-- from now on the records stand still -/
theorem rcs_stop {I0 : Hp} : ∀ {rs : List Rc} {I : Hp}, (rs.map (·.b)).Nodup → (∀ r ∈ rs, rcEq K H0 I H pf r) → Gr I0 H0 I H → ∃ I', Gr I0 H0 I' H ∧ Same I I' ∧ (∀ r ∈ rs, I' r.b = some (.lst (r.l.map vN))) ∧ (I pf = none → I' pf = none)
  | [], I, _, _, g => ⟨I, g, .refl _, fun r h => (nomatch h), id⟩
  | r :: rs, I, nd, h, g => by
    obtain ⟨h1, h2, h3, h4⟩ := h r List.mem_cons_self
    have nd' := List.nodup_cons.mp nd
    have e := Same.new (o := .lst (r.l.map vN)) h3.i
    obtain ⟨I', g', e', k, f⟩ := rcs_stop (I := upd I r.b (.lst (r.l.map vN))) nd'.2 (fun q hq => by
      obtain ⟨k1, k2, k3, k4⟩ := h q (List.mem_cons_of_mem _ hq)
      exact ⟨e _ _ k1, (rQ K).up k2 e, k3.beside (fun z : q.b = r.b => nd'.1 (List.mem_map.mpr ⟨q, hq, z⟩)), k4⟩) (g.stop h3)
    refine ⟨I', g', e.trans e', fun q hq => ?_, fun hn => f (by rw [upd_ne (fun z => h4 z.symm)]; exact hn)⟩
    rcases List.mem_cons.mp hq with z | z
    · rw [z]; exact e' _ _ upd_same
    · exact k q z
end
section
variable {P : Program} {w : World} {K : PySem.W.Frag} {mg : Str → Option Value} {base : Heap} {k : Nat}
abbrev rCls (K : PySem.W.Frag) : Rp (List (Int × List Nat)) := rL (rT2 K (rQ K) rNs)
structure Clss (n : Nat) (N : Nat → Int) (Cs : List (Int × List Nat)) : Prop where
  is : ∀ e ∈ Cs, e.2 = (List.range n).filter fun p => decide (N p = e.1)
  ne : ∀ e ∈ Cs, e.2 ≠ []
  all : ∀ p, p < n → ∃ e ∈ Cs, e.1 = N p
  len : Cs.length ≤ n
def spClasses (K : PySem.W.Frag) : Sp := fun vs H Q _ => ∃ I n N x, Same I H ∧ vs = [x] ∧ (rQs K).rel ((List.range n).map N) x I ∧ n ≤ 24 ∧ ∀ v I' H' Cs, Gr I H I' H' → (rCls K).rel Cs v I' → Clss n N Cs → Q v H'
def iCb (K : PySem.W.Frag) (H : Hp) (N : Nat → Int) (x : V) (pf : Addr) (i : Nat) (σ : L2.St) (I1 H1 : Hp) : Prop :=
  ∃ (z2 z3 z4 : Option V) (rs : List Rc), σ = [some x, some (.ref pf), z2, z3, z4] ∧ Mu H I1 H1 pf (.lst (rs.map fun r => V.ref r.t)) ∧ (∀ r ∈ rs, rcEq K H I1 H1 pf r) ∧ Rcs N i rs
def wCb (K : PySem.W.Frag) (H I : Hp) (N : Nat → Int) (x y : V) (pf : Addr) (rs : List Rc) (i : Nat) (I0 : Hp) (m : Nat) (σ : L2.St) (H1 : Hp) : Prop :=
  ∃ (I1 : Hp) (a : Nat), Gr I H I1 H1 ∧ Same I0 I1 ∧ σ = [some x, some (.ref pf), some (vN i), some y, some (vN a)] ∧ Mu H I1 H1 pf (.lst (rs.map fun r => V.ref r.t)) ∧ (∀ r ∈ rs, rcEq K H I1 H1 pf r) ∧ (∀ r ∈ rs.take a, r.z < N i) ∧ a ≤ rs.length ∧ m = rs.length - a
abbrev s_classes_by : Stmt := topS 51
theorem sc_classes_by : FnScope ["numbers", "found", "place", "one", "at"] ["numbers"] (defScope s_classes_by) := ⟨rfl, rfl, rfl, by decide +kernel, rfl, by decide +kernel, by decide +kernel⟩
theorem take_drop_at {α : Type} {l : List α} {a : Nat} {e : α} (h : l[a]? = some e) : l = l.take a ++ e :: l.drop (a + 1) := by
  obtain ⟨h1, h2⟩ := List.getElem?_eq_some_iff.mp h
  have := List.take_append_drop a l
  rw [List.drop_eq_getElem_cons h1, h2] at this
  exact this.symm
theorem c_classes_by (D : Dn K mg "classes_by" s_classes_by ["numbers"]) (m_enumerate : mg "enumerate" = none) (m_len : mg "len" = none) (c_compare : Cal P w K mg base "compare" k (spCompare K)) : Cal P w K mg base "classes_by" (k + 1) (spClasses K) := by
  refine D.ok sc_classes_by (fun vs H Q E h => ?_) (fun f cdv A' outer s0 H vs Q E hr h => ?_)
  · obtain ⟨I, n, N, x, _, rfl, _⟩ := h
    rfl
  · obtain ⟨I, n, N, x, hs, rfl, ⟨ba, xs, rfl, h1, h2⟩, hn, q⟩ := h
    refine ⟨_, (pss_cons (ps_set (i := 1) sc_classes_by.nd rfl (Or.inl rfl) (pe_lst pa_nil))
      (pss_cons (ps_for PassesOwn.never rfl (pi_enum (by rfl) m_enumerate (pa_cons (pv 0) pa_nil)) (pg_tup rfl (pgs_cons (pg_name (i := 2) sc_classes_by.nd rfl (Or.inl rfl)) (pgs_cons (pg_name (i := 3) sc_classes_by.nd rfl (Or.inl rfl)) pgs_nil)))
      (pss_cons (ps_set (i := 4) sc_classes_by.nd rfl (Or.inl rfl) pe_int)
      (pss_cons (ps_while PassesOwn.never (PW.pt (pw_and (pt_cmpR op_lt (pv 4) (pe_callB call_len_seq (by rfl) m_len PySem.boot_len (pa_cons (pv 1) pa_nil)) (nomark _)) (pw_and1 (pt_cmpR op_lt (pe_c c_compare hr (by rfl) (pa_cons (pe_ix (ix_tupK K) (pe_ix (ix_N K) (pv 1) (pv 4) (fun _ _ => rfl)) pe_int (fun _ _ => rfl)) (pa_cons (pv 3) pa_nil))) pe_int (nomark _)))))
      (pss_one (ps_aug (i := 4) sc_classes_by.nd rfl (Or.inl rfl) pe_int ip_add)))
      (pss_one (ps_if (PW.pt (pw_and (pt_cmpR op_lt (pv 4) (pe_callB call_len_seq (by rfl) m_len PySem.boot_len (pa_cons (pv 1) pa_nil)) (nomark _)) (pw_and1 (pt_cmpR (op_eqQ K hr.units) (pe_ix (ix_tupK K) (pe_ix (ix_N K) (pv 1) (pv 4) (fun _ _ => rfl)) pe_int (fun _ _ => rfl)) (pv 3) (nomark _)))))
      (pss_one (ps_expr (pe_bm PySem.F.plainAttrs_list PySem.F.slot_list_append PySem.F.type_list_append mt_appN (pe_ix (ix_tupK K) (pe_ix (ix_N K) (pv 1) (pv 4) (fun _ _ => rfl)) pe_int (fun _ _ => rfl)) (pa_cons (pv 2) pa_nil)))) (pss_one (ps_expr (pe_bm PySem.F.plainAttrs_list PySem.F.slot_list_insert PySem.F.type_list_insert mt_insert (pv 1) (pa_cons (pv 4) (pa_cons (pe_tup (pa_cons (pv 3) (pa_cons (pe_lst (pa_cons (pv 2) pa_nil)) pa_nil))) pa_nil))))))))))
      (pss_one (ps_ret (pv 1))))), ?_⟩
    refine ⟨Nat.zero_le _, fun pf npf => ?_⟩
    have g1 := Gr.mut (o := .lst []) hs npf
    have m1 : Mu H I (upd H pf (.lst [])) pf (.lst []) := ⟨npf, hs.free npf, upd_same⟩
    refine ⟨_, rfl, ba, xs, rfl, sqH (g1.s _ _ h1), for_src (iCb K H N (.ref ba) pf) (src_enum h1 h2) g1 ⟨none, none, none, [], rfl, m1, fun r hr => absurd hr (by simp), ⟨List.nodup_nil, .nil, fun r hr => absurd hr (by simp), fun r hr => absurd hr (by simp), fun p hp => absurd hp (Nat.not_lt_zero p)⟩⟩ ?_ ?_⟩
    · rintro i e xv σ1 I3 H3 I4 H4 he g3 e3 ⟨z2, z3, z4, rs, rfl, mf, hrs, rc⟩ g4 re
      obtain ⟨he1, he2⟩ := of_enumL he
      have hi : i < n := by have := (List.getElem?_eq_some_iff.mp he2).1; rw [List.length_map, List.length_range] at this; exact this
      have he2 : e.2 = N i := by
        rw [List.getElem?_map, List.getElem?_range hi] at he2
        exact (Option.some.inj he2).symm
      have gg := g3.trans g4
      have mf := mf.up g4
      refine gPair re g4.s fun y1 y r1 r2 => ?_
      have r1 : y1 = vN i := by rw [← he1]; exact r1
      subst r1
      rw [he2] at r2
      have rlen : rs.length ≤ 24 := Nat.le_trans rc.len (by omega)
      refine ⟨wCb K H I N (.ref ba) y pf rs i I4, ⟨rs.length, I4, 0, gg, .refl _, rfl, mf, fun r hr => (hrs r hr).up g4, fun r hr => absurd hr (by simp), Nat.zero_le _, rfl⟩, ?_⟩
      rintro m σ2 H5 ⟨I5, at_, g5, e5, rfl, mf, hrs, hlow, hle, rfl⟩
      have r2' := (rQ K).up r2 e5
      have lenv : (rs.map fun r => V.ref r.t).length = rs.length := List.length_map _
      have etd := List.take_append_drop at_ rs
      have rc' := rc
      rw [← etd] at rc'
      have fin : (∀ q ∈ rs.drop at_, N i < q.z) → ∀ l t, H5 l = none → (upd H5 l (.lst [vN i])) t = none → Nx I H I (iCb K H N (.ref ba) pf (i + 1)) [some (.ref ba), some (.ref pf), some (vN i), some y, some (vN at_)] (upd (upd (upd H5 l (.lst [vN i])) t (.tup [y, .ref l])) pf (.lst ((rs.map fun r => V.ref r.t).take at_ ++ [V.ref t] ++ (rs.map fun r => V.ref r.t).drop at_))) := fun hgt l t nl nt => by
        have b6 := Gr.mut (o := .lst [vN i]) g5.s nl
        have g6 := g5.trans b6
        have ml := Mu.new (o := .lst [vN i]) g5 nl
        have b7 := Gr.imm (o := .tup [y, .ref l]) g6.s nt
        have g7 := g6.trans b7
        have mf7 := (mf.up b6).up b7
        have lpf : l ≠ pf := (mf.ne nl).symm
        refine ⟨_, g7.put mf7, (e3.trans g4.i).trans (e5.trans (b6.i.trans b7.i)), _, _, _, rs.take at_ ++ ⟨N i, [i], t, y, l⟩ :: rs.drop at_, rfl, ?_, fun r hr => ?_, rc'.new rfl rfl hlow hgt fun z => ?_⟩
        · have : (rs.map fun r => V.ref r.t).take at_ ++ [V.ref t] ++ (rs.map fun r => V.ref r.t).drop at_ = (rs.take at_ ++ ⟨N i, [i], t, y, l⟩ :: rs.drop at_).map fun r => V.ref r.t := by
            rw [List.map_append, List.map_cons, List.map_take, List.map_drop, List.append_assoc]; rfl
          rw [← this]
          exact mf7.set
        · have old : ∀ r ∈ rs, rcEq K H (upd I5 t (.tup [y, .ref l])) (upd (upd (upd H5 l (.lst [vN i])) t (.tup [y, .ref l])) pf (.lst ((rs.map fun r => V.ref r.t).take at_ ++ [V.ref t] ++ (rs.map fun r => V.ref r.t).drop at_))) pf r := fun r hr => (((hrs r hr).up b6).up b7).other (hrs r hr).2.2.2
          rcases List.mem_append.mp hr with z | z
          · exact old r (List.mem_of_mem_take z)
          · rcases List.mem_cons.mp z with (z | z)
            · subst z
              exact ⟨upd_same, (rQ K).up r2' (b6.i.trans b7.i), (ml.up b7).other lpf, lpf⟩
            · exact old r (List.mem_of_mem_drop z)
        · rw [etd] at z
          obtain ⟨r, hr, e⟩ := List.mem_map.mp z
          have : r.b ≠ l := (hrs r hr).2.2.1.ne nl
          exact this e
      refine ⟨_, rfl, _, rfl, pf, _, rfl, .inl (sqH mf.h), _, _, rfl, rfl, _, rfl, ?_⟩
      by_cases hlt : at_ < rs.length
      · have d1 : decide ((at_ : Int) < (((rs.map fun r => V.ref r.t).length : Nat) : Int)) = true := decide_eq_true (by rw [lenv]; omega)
        rw [d1]
        obtain ⟨r, hr⟩ : ∃ r, rs[at_]? = some r := ⟨rs[at_], List.getElem?_eq_getElem hlt⟩
        have hrm : r ∈ rs := List.mem_of_getElem? hr
        obtain ⟨k1, k2, k3, k4⟩ := hrs r hrm
        have hgv : (rs.map fun r => V.ref r.t)[at_]? = some (V.ref r.t) := by rw [List.getElem?_map, hr]; rfl
        have ht : SqT K H5 r.t [r.x, .ref r.b] := .inl (.inl (g5.s _ _ k1))
        have eAt := take_drop_at hr
        refine iteT ⟨_, rfl, _, rfl, pf, _, at_, _, rfl, rfl, sqH mf.h, hgv, r.t, _, 0, _, rfl, rfl, ht, rfl, _, rfl, I5, r.z, N i, _, _, g5.s, rfl, k2, r2', _, _, rfl, rfl, _, rfl, ?_⟩
        by_cases hz : r.z < N i
        · have d2 : decide (cmpI r.z (N i) < 0) = true := decide_eq_true (by unfold cmpI; rw [if_pos hz]; decide)
          rw [d2]
          refine iteT ⟨fun σ' H' => ∃ m', m' < rs.length - at_ ∧ wCb K H I N (.ref ba) y pf rs i I4 m' σ' H', fun _ _ h => h, _, rfl, _, _, rfl, rfl, _, ?_, I5, at_ + 1, g5, e5, rfl, mf, hrs, fun q hq => ?_, hlt, rfl⟩
          · omega
          · rw [List.take_add_one, hr] at hq
            rcases List.mem_append.mp hq with z | z
            · exact hlow q z
            · rw [List.mem_singleton.mp z]; exact hz
        · have d2 : decide (cmpI r.z (N i) < 0) = false := decide_eq_false (by unfold cmpI; rw [if_neg hz]; split <;> decide)
          rw [d2]
          obtain ⟨qa, ex, hqa⟩ := k2
          obtain ⟨qb, ey, hqb⟩ := r2'
          have hpw := rc.asc
          rw [eAt] at hpw
          have hp2 := List.pairwise_cons.mp (List.pairwise_append.mp hpw).2.1
          refine iteF ⟨_, rfl, _, rfl, pf, _, rfl, .inl (sqH mf.h), _, _, rfl, rfl, _, rfl, ?_⟩
          rw [d1]
          refine iteT ⟨_, rfl, _, rfl, pf, _, at_, _, rfl, rfl, sqH mf.h, hgv, r.t, _, 0, _, rfl, rfl, ht, rfl, _, rfl, qa, qb, r.z, N i, ex, ey, rdT hqa g5.s, rdT hqb g5.s, _, rfl, ?_⟩
          by_cases hzz : r.z = N i
          · rw [decide_eq_true hzz]
            have li : r.l.length ≤ 24 := by
              rw [rc.is r hrm]
              have := List.length_filter_le (fun p => decide (N p = r.z)) (List.range i)
              rw [List.length_range] at this
              omega
            refine iteT ⟨_, rfl, _, rfl, pf, _, at_, _, rfl, rfl, sqH mf.h, hgv, r.t, _, 1, _, rfl, rfl, ht, rfl, .inl ⟨rfl, _, sqH k3.h⟩, _, rfl, r.b, r.l, i, rfl, rfl, k3.h, by omega, ?_⟩
            have rcA := rc
            rw [eAt] at rcA
            have nd := rcA.nd
            rw [List.map_append, List.map_cons, List.nodup_append] at nd
            have nd2 := List.nodup_cons.mp nd.2.1
            refine ⟨I5, g5.put k3, (e3.trans g4.i).trans e5, _, _, _, rs.take at_ ++ { r with l := r.l ++ [i] } :: rs.drop (at_ + 1), rfl, ?_, fun q hq => ?_, rcA.grow hzz⟩
            · have : (rs.take at_ ++ { r with l := r.l ++ [i] } :: rs.drop (at_ + 1)).map (fun r => V.ref r.t) = rs.map fun r => V.ref r.t := by
                rw [List.map_append, List.map_cons]
                conv => rhs; rw [eAt, List.map_append, List.map_cons]
              rw [this]
              exact mf.other k4.symm
            · have old : ∀ q ∈ rs, q.b ≠ r.b → rcEq K H I5 (upd H5 r.b (.lst ((r.l ++ [i]).map vN))) pf q := fun q hq ne => (hrs q hq).other ne
              rcases List.mem_append.mp hq with z | z
              · exact old q (List.mem_of_mem_take z) (nd.2.2 q.b (List.mem_map.mpr ⟨q, z, rfl⟩) r.b List.mem_cons_self)
              · rcases List.mem_cons.mp z with (z | z)
                · subst z
                  exact ⟨k1, ⟨qa, ex, hqa⟩, k3.set, k4⟩
                · exact old q (List.mem_of_mem_drop z) fun e => nd2.1 (e ▸ List.mem_map.mpr ⟨q, z, rfl⟩)
          · rw [decide_eq_false hzz]
            have hgt : ∀ q ∈ rs.drop at_, N i < q.z := fun q hq => by
              rw [List.drop_eq_getElem_cons hlt] at hq
              have er : rs[at_] = r := (List.getElem?_eq_some_iff.mp hr).2
              rw [er] at hq
              rcases List.mem_cons.mp hq with z | z
              · rw [z]; omega
              · have := hp2.1 q z; omega
            refine iteF ⟨_, rfl, .inl ⟨rfl, _, sqH mf.h⟩, _, rfl, _, rfl, _, rfl, by show 1 ≤ sizeLine; decide, fun l nl => ⟨by show 2 ≤ sizeLine; decide, fun t nt => ⟨pf, _, (at_ : Int), .ref t, rfl, rfl, ?_, line_lt (by rw [lenv]; omega), by omega, by omega, fin hgt l t nl nt⟩⟩⟩
            exact ((mf.up (Gr.mut g5.s nl)).up (Gr.mut ((g5.trans (Gr.mut g5.s nl)).s) nt)).h
      · have ea : at_ = rs.length := by omega
        have d1 : decide ((at_ : Int) < (((rs.map fun r => V.ref r.t).length : Nat) : Int)) = false := decide_eq_false (by rw [lenv]; omega)
        rw [d1]
        refine iteF (iteF ⟨_, rfl, _, rfl, pf, _, rfl, .inl (sqH mf.h), _, _, rfl, rfl, _, rfl, ?_⟩)
        rw [d1]
        refine iteF (iteF ⟨_, rfl, .inl ⟨rfl, _, sqH mf.h⟩, _, rfl, _, rfl, _, rfl, by show 1 ≤ sizeLine; decide, fun l nl => ⟨by show 2 ≤ sizeLine; decide, fun t nt => ⟨pf, _, (at_ : Int), .ref t, rfl, rfl, ?_, line_lt (by rw [lenv]; omega), by omega, by omega, fin (fun q hq => by rw [ea, List.drop_length] at hq; cases hq) l t nl nt⟩⟩⟩)
        exact ((mf.up (Gr.mut g5.s nl)).up (Gr.mut ((g5.trans (Gr.mut g5.s nl)).s) nt)).h
    · rintro σ1 I3 H3 g3 e3 ⟨z2, z3, z4, rs, rfl, mf, hrs, rc⟩
      rw [enumL_len, List.length_map, List.length_range] at rc
      obtain ⟨I4, g4, e4, hb, hf⟩ := rcs_stop rc.nd hrs g3
      have mf4 : Mu H I4 H3 pf (.lst (rs.map fun r => V.ref r.t)) := ⟨mf.b, hf mf.i, mf.h⟩
      have e5 := Same.new (o := .lst (rs.map fun r => V.ref r.t)) mf4.i
      refine ⟨_, rfl, q (.ref pf) _ H3 (rs.map fun r => (r.z, r.l)) (g4.stop mf4) ⟨pf, _, rfl, upd_same, ?_⟩ ⟨fun e he => ?_, fun e he => ?_, fun p hp => ?_, by rw [List.length_map]; exact rc.len⟩⟩
      · have : ∀ rs' : List Rc, (∀ r ∈ rs', r ∈ rs) → Paired (fun (a : Int × List Nat) x => (rT2 K (rQ K) rNs).rel a x (upd I4 pf (.lst (rs.map fun r => V.ref r.t)))) (rs'.map fun r => (r.z, r.l)) (rs'.map fun r => V.ref r.t) := by
          intro rs'
          induction rs' with
          | nil => exact fun _ => .nil
          | cons r rs' ih =>
            intro hsub
            have hr := hsub r List.mem_cons_self
            obtain ⟨k1, k2, k3, k4⟩ := hrs r hr
            exact .cons ⟨r.t, r.x, .ref r.b, rfl, .inl (.inl (e5 _ _ (e4 _ _ k1))), (rQ K).up k2 (e4.trans e5), ⟨r.b, rfl, e5 _ _ (hb r hr)⟩⟩ (ih fun q hq => hsub q (List.mem_cons_of_mem _ hq))
        exact this rs fun _ h => h
      · obtain ⟨r, hr, rfl⟩ := List.mem_map.mp he
        exact rc.is r hr
      · obtain ⟨r, hr, rfl⟩ := List.mem_map.mp he
        exact rc.ne r hr
      · obtain ⟨r, hr, h⟩ := rc.all p hp
        exact ⟨_, List.mem_map.mpr ⟨r, hr, rfl⟩, h⟩
end
end OC
namespace OC
open PySem PySem.Spec PyProof.Rows L2
section
variable {G : Gm} {A F : List Nat} {sd : Kd} {kvs : List (Key × V)}
/-- nothing is pulled to nothing -/
theorem pull_none (s : Sub (Ed G) (fun p => p ∈ A)) (h : PullR G A sd [] F kvs) : F = [] := by
  obtain ⟨rho, a⟩ := h.attr
  have key : ∀ n p, rho p ≤ n → p ∈ F → False := by
    intro n
    induction n with
    | zero =>
      intro p hr hp
      by_cases o : own G sd p
      · have := (a.mine p hp (by simp) o).2.2; omega
      · obtain ⟨t, e, ht⟩ := s p (a.sub p hp)
        have := (a.yours p hp (by simp) o t e ht).2; omega
    | succ n ih =>
      intro p hr hp
      by_cases o : own G sd p
      · obtain ⟨_, h2, h3⟩ := a.mine p hp (by simp) o
        exact ih _ (by omega) h2
      · obtain ⟨t, e, ht⟩ := s p (a.sub p hp)
        obtain ⟨h2, h3⟩ := a.yours p hp (by simp) o t e ht
        exact ih t (by omega) h2
  cases F with
  | nil => rfl
  | cons p l => exact (key _ p (Nat.le_refl _) List.mem_cons_self).elim
/-- what a raise makes of a strategy -/
def Rai (G : Gm) (N : Nat → Int) (s s' : List (Option Nat)) : Prop := ∃ (Kl : List Nat) (tau : Nat → Nat), Kl ≠ [] ∧ (∀ p ∈ Kl, p < G.length ∧ N p = 0) ∧ WinS G .ours (fun p => p ∈ Kl) (fun p => p < G.length ∧ N p = 0) tau ∧ IsSt G .ours s' ∧
  (∀ p, own G .ours p → p ∉ Kl → s'[p]? = s[p]?) ∧ ∀ p ∈ Kl, own G .ours p → tgOf G s' p = tau p
end
section
variable {P : Program} {w : World} {K : PySem.W.Frag} {mg : Str → Option Value} {base : Heap} {k : Nat}
def spLeaving (K : PySem.W.Frag) : Sp := fun vs H Q _ => ∃ I G A x y, Same I H ∧ vs = [x, y] ∧ (rG K).rel G x I ∧ rNs.rel A y I ∧ NoDraw G ∧ (∀ p ∈ A, p < G.length) ∧ ∀ D I' H', Gr I H I' H' → Mu H I' H' D (.lst []) → Q (.ref D) H'
def iLv (H : Hp) (x y : V) (pf : Addr) (i : Nat) (σ : L2.St) (I1 H1 : Hp) : Prop := ∃ (z3 : Option V), σ = [some x, some y, some (.ref pf), z3, none] ∧ Mu H I1 H1 pf (.lst [])
abbrev s_leaving : Stmt := topS 52
theorem sc_leaving : FnScope ["game", "places", "found", "place", "target"] ["game", "places"] (defScope s_leaving) := ⟨rfl, rfl, rfl, by decide +kernel, rfl, by decide +kernel, by decide +kernel⟩
theorem c_leaving (D : Dn K mg "leaving" s_leaving ["game", "places"]) (m_all : mg "all" = none) (c_targets : Cal P w K mg base "targets" k (spTargets K)) : Cal P w K mg base "leaving" (k + 1) (spLeaving K) := by
  refine D.ok sc_leaving (fun vs H Q E h => ?_) (fun f cdv A' outer s0 H vs Q E hr h => ?_)
  · obtain ⟨I, G, A, x, y, _, rfl, _⟩ := h
    rfl
  · obtain ⟨I, G, A, x, y, hs, rfl, hG, ⟨ba, rfl, hba⟩, nd, hAn, q⟩ := h
    refine ⟨_, (pss_cons (ps_set (i := 2) sc_leaving.nd rfl (Or.inl rfl) (pe_lst pa_nil))
      (pss_cons (ps_for PassesOwn.never rfl (pi_list (pv 1)) (pg_name (i := 3) sc_leaving.nd rfl (Or.inl rfl))
      (pss_one (ps_if (PW.pt (pw_and (pt_cmpR op_eq (pe_ix (ix_tupK K) (pe_ix (ix_N K) (pv 0) (pv 3) (fun _ _ => rfl)) pe_int (fun _ _ => rfl)) pe_str (nomark _)) (pw_and1 (pt_not (pt_val (pe_callB (cr_all rfl) (by rfl) m_all (by decide +kernel) (pa_cons (pe_lc (own := [("target", 4)]) (g := gName 4) rfl sc_leaving.nd (pi_list (pe_c c_targets hr (by rfl) (pa_cons (pv 0) (pa_cons (pv 3) pa_nil)))) (blkOk_by (own := [("target", 4)]) (N := ["game", "places", "found", "place", "target"]) (sc := defScope s_leaving) (by decide +kernel)) (fun _ _ _ _ _ => (pg_name (i := 4) sc_leaving.nd rfl (Or.inl rfl))) (fun _ _ _ _ _ => pts_nil) (fun _ _ _ _ _ => (pe_cmpR (op_inN K) (pv 4) (pv 1) (by rfl)))) pa_nil)))))))
      (pss_one (ps_expr (pe_bm PySem.F.plainAttrs_list PySem.F.slot_list_append PySem.F.type_list_append mt_appN (pv 2) (pa_cons (pv 3) pa_nil)))) pss_nil)))
      (pss_one (ps_ret (pv 2))))), ?_⟩
    refine ⟨Nat.zero_le _, fun pf npf => ?_⟩
    have g1 := Gr.mut (o := .lst []) hs npf
    have m1 : Mu H I (upd H pf (.lst [])) pf (.lst []) := ⟨npf, hs.free npf, upd_same⟩
    refine ⟨_, rfl, ba, rfl, ⟨_, sqH (g1.s _ _ hba)⟩, for_src (iLv H x (.ref ba) pf) (src_listF hba) g1 ⟨none, rfl, m1⟩ ?_ ?_⟩
    · rintro i p xv σ1 I3 H3 I4 H4 hp g3 e3 ⟨z3, rfl, mf⟩ g4 re
      have re : xv = vN p := re
      subst re
      have gg := g3.trans g4
      have hpn := hAn p (List.mem_of_getElem? hp)
      obtain ⟨a, xs, d, cc, rfl, p1, p2, p3, _⟩ := place_at ((rG K).up hG gg.i) gg.s hpn
      have e0 : decide (V.str (kS (kdOf G p)) = V.str "draw") = false := by
        have := nd p hpn
        cases e : kdOf G p with
        | draw => exact absurd e this
        | ours => decide +kernel
        | theirs => decide +kernel
      refine ⟨_, rfl, _, rfl, a, xs, p, _, rfl, rfl, p1, p2, d, _, 1, _, rfl, rfl, p3, rfl, rfl, _, rfl, ?_⟩
      rw [e0]
      exact iteF (iteF ⟨I4, gg, e3.trans g4.i, _, rfl, mf.up g4⟩)
    · rintro σ1 I3 H3 g3 e3 ⟨z3, rfl, mf⟩
      exact ⟨_, rfl, q pf I3 H3 g3 mf⟩
def spRaised (K : PySem.W.Frag) : Sp := fun vs H Q _ => ∃ I G s N x y z, Same I H ∧ vs = [x, y, z] ∧ (rG K).rel G x I ∧ Wf G ∧ NoDraw G ∧ rSt.rel s y I ∧ IsSt G .ours s ∧ (rQs K).rel ((List.range G.length).map N) z I ∧ (∀ p, p < G.length → N p = 0 ∨ N p = 1) ∧ Sub (Ed G) (fun p => p < G.length ∧ N p = 0) ∧
  ∀ t v b I' H', Gr I H I' H' → SqT K I' t [v, .bl b] → (b = true → ∃ s', rSt.rel s' v I' ∧ Rai G N s s') → (b = false → ∃ tau, WinS G .theirs (fun p => p < G.length ∧ N p = 0) (fun p => p < G.length ∧ N p = 0) tau) → Q (.ref t) H'
def iRa (H : Hp) (G : Gm) (Cs : List (Int × List Nat)) (s : List (Option Nat)) (x y z : V) (ps : Addr) (i : Nat) (σ : L2.St) (I1 H1 : Hp) : Prop :=
  ∃ (z4 z5 z6 z7 z8 z9 z10 : Option V), σ = [some x, some y, some z, some (.ref ps), z4, z5, z6, z7, z8, z9, z10] ∧ Mu H I1 H1 ps (.lst (s.map vO)) ∧ ∀ e ∈ Cs.take i, e.1 ≠ 1 → ∃ tau, WinS G .theirs (fun p => p ∈ e.2) (fun p => p ∈ e.2) tau
def jRa (H : Hp) (n : Nat) (kvs : List (Key × V)) (Kl : List Nat) (s : List (Option Nat)) (l0 : List (Option V)) (ps : Addr) (z8 z9 z10 : Option V) (i : Nat) (σ : L2.St) (I1 H1 : Hp) : Prop :=
  ∃ (z7 : Option V) (s' : List (Option Nat)), σ = l0 ++ [z7, z8, z9, z10] ∧ Mu H I1 H1 ps (.lst (s'.map vO)) ∧ s'.length = n ∧ (∀ q, q ∉ Kl.take i → s'[q]? = s[q]?) ∧ ∀ q ∈ Kl.take i, ∀ b, bD kvs q = some b → s'[q]? = some (some b)
theorem mem_z {n : Nat} {N : Nat → Int} {z : Int} {L : List Nat} (h : L = (List.range n).filter fun p => decide (N p = z)) (p : Nat) : p ∈ L ↔ p < n ∧ N p = z := by
  rw [h, List.mem_filter, List.mem_range, decide_eq_true_iff]
abbrev s_raised : Stmt := topS 53
theorem sc_raised : FnScope ["game", "ours", "numbers", "strategy", "number", "places", "gone", "place", "arena", "kept", "plan"] ["game", "ours", "numbers"] (defScope s_raised) := ⟨rfl, rfl, rfl, by decide +kernel, rfl, by decide +kernel, by decide +kernel⟩
theorem c_raised (D : Dn K mg "raised" s_raised ["game", "ours", "numbers"]) (m_list : mg "list" = none) (k1 : Cst K mg "ONE_against" 1) (c_classes_by : Cal P w K mg base "classes_by" k (spClasses K)) (c_pulled : Cal P w K mg base "pulled" k (spPulled K)) (c_leaving : Cal P w K mg base "leaving" k (spLeaving K)) (c_won : Cal P w K mg base "won" k (spWon K 50)) :
    Cal P w K mg base "raised" (k + 1) (spRaised K) := by
  obtain ⟨a1, m_ONE_against, one⟩ := k1
  refine D.ok sc_raised (fun vs H Q E h => ?_) (fun f cdv A' outer s0 H vs Q E hr h => ?_)
  · obtain ⟨I, G, s, N, x, y, z, _, rfl, _⟩ := h
    rfl
  · obtain ⟨I, G, s, N, x, y, z, hs, rfl, hG, hw, nd, ⟨bs, rfl, hbs⟩, hst, hN, hN01, hsub, q⟩ := h
    have hu := hu_of hr
    refine ⟨_, (pss_cons (ps_set (i := 3) sc_raised.nd rfl (Or.inl rfl) (pe_callTy call_list_of (by rfl) m_list (by decide +kernel) (pa_cons (pv 1) pa_nil)))
      (pss_cons (ps_for PassesOwn.never rfl (pi_list (pe_c c_classes_by hr (by rfl) (pa_cons (pv 2) pa_nil))) (pg_tup rfl (pgs_cons (pg_name (i := 4) sc_raised.nd rfl (Or.inl rfl)) (pgs_cons (pg_name (i := 5) sc_raised.nd rfl (Or.inl rfl)) pgs_nil)))
      (pss_one (ps_if (pt_cmpR (op_neQ K hr.units) (pv 4) (pe_gr (by rfl) m_ONE_against) (nomark _))
      (pss_cons (ps_set (i := 6) sc_raised.nd rfl (Or.inr rfl) (pe_ix (ix_tupK K) (pe_c c_pulled hr (by rfl) (pa_cons (pv 0) (pa_cons (pv 5) (pa_cons pe_str (pa_cons (pe_c c_leaving hr (by rfl) (pa_cons (pv 0) (pa_cons (pv 5) pa_nil))) pa_nil))))) pe_int (fun _ _ => rfl)))
      (pss_cons (ps_setLc (i := 8) (own := [("place", 7)]) (g := gName 7) (by rfl) sc_raised.nd rfl rfl (sw_true rfl rfl rfl (by decide +kernel)) (pi_list (pv 5)) (blkOk_by (own := [("place", 7)]) (N := ["game", "ours", "numbers", "strategy", "number", "places", "gone", "place", "arena", "kept", "plan"]) (sc := defScope s_raised) (by decide +kernel)) (fun _ _ _ _ _ => (pg_name (i := 7) sc_raised.nd rfl (Or.inl rfl))) (fun _ _ _ _ _ => pts_one (pt_cmpR (op_notInN K) (pv 7) (pv 6) (by rfl))) (fun _ _ _ _ _ => (pv 7)))
      (pss_cons (ps_asg (pe_c c_won hr (by rfl) (pa_cons (pv 0) (pa_cons (pv 8) (pa_cons pe_str (pa_cons (pe_lst pa_nil) pa_nil))))) (pg_tup rfl (pgs_cons (pg_name (i := 9) sc_raised.nd rfl (Or.inl rfl)) (pgs_cons (pg_name (i := 10) sc_raised.nd rfl (Or.inl rfl)) pgs_nil))))
      (pss_cons (ps_for PassesOwn.never rfl (pi_list (pv 9)) (pg_name (i := 7) sc_raised.nd rfl (Or.inl rfl))
      (pss_one (ps_if (pt_cmp (pc_din hu (pv 7) (pv 10)) rfl)
      (pss_one (ps_asg (pe_dget hu (pv 10) (pv 7) (fun _ _ => rfl)) (pg_sub (pv 3) (pv 7) set_N))) pss_nil)))
      (pss_one (ps_if (pt_truth (pv 9) (by intro _; rfl))
      (pss_one (ps_ret (pe_tup (pa_cons (pv 3) (pa_cons pe_bl pa_nil))))) pss_nil)))))) pss_nil)))
      (pss_one (ps_ret (pe_tup (pa_cons (pv 3) (pa_cons pe_bl pa_nil))))))), ?_⟩
    have clen := hw.len
    obtain ⟨a, xs, rfl, h1, h2⟩ := hG
    have hG : ∀ {I'}, Same I I' → (rG K).rel G (.ref a) I' := fun e => (rG K).up ⟨a, xs, rfl, h1, h2⟩ e
    refine ⟨_, rfl, bs, _, rfl, .inl (sqH (hs _ _ hbs)), fun ps nps => ?_⟩
    have g1 := Gr.mut (o := .lst (s.map vO)) hs nps
    have m1 : Mu H I (upd H ps (.lst (s.map vO))) ps (.lst (s.map vO)) := ⟨nps, hs.free nps, upd_same⟩
    refine ⟨_, rfl, I, G.length, N, _, g1.s, rfl, hN, clen, fun v I2 H2 Cs g2 ⟨bc, xc, e, hbc, hpc⟩ hcs => ?_⟩
    subst e
    have gg2 := g1.trans g2
    have m1 := m1.up g2
    refine ⟨bc, rfl, ⟨_, sqH (g2.s _ _ hbc)⟩, for_src (iRa H G Cs s (.ref a) (.ref bs) z ps) (src_list hbc hpc) gg2 ⟨none, none, none, none, none, none, none, rfl, m1, fun e he => absurd he (by simp)⟩ ?_ ?_⟩
    · rintro i e xv σ1 I3 H3 I4 H4 he g3 e3 ⟨z4, z5, z6, z7, z8, z9, z10, rfl, mf, hlost⟩ g4 re
      have mf := mf.up g4
      have gg := g3.trans g4
      have heC : e ∈ Cs := List.mem_of_getElem? he
      have tk : ∀ {q}, q ∈ Cs.take (i + 1) → q ∈ Cs.take i ∨ q = e := fun {q} hq => by
        rw [List.take_add_one, he] at hq
        exact (List.mem_append.mp hq).imp id fun z => List.mem_singleton.mp z
      refine gPair re g4.s fun y1 y2 r1 r2 => ?_
      obtain ⟨qa, rfl, hqa⟩ := r1
      obtain ⟨bz, rfl, hbz⟩ := r2
      refine ⟨_, rfl, qa, a1, e.1, 1, rfl, rfl, rdT hqa g4.s, one _, _, rfl, ite2 (fun c => ?_) (fun c => ?_)⟩
      · have c : e.1 ≠ 1 := by simpa using c
        have hz : e.2 = (List.range G.length).filter fun p => decide (N p = e.1) := hcs.is e heC
        have memZ : ∀ p, p ∈ e.2 ↔ p < G.length ∧ N p = 0 := fun p => by
          have e0 : e.1 = 0 := by
            cases hl : e.2 with
            | nil => exact absurd hl (hcs.ne e heC)
            | cons p t =>
              have := (mem_z hz p).mp (by rw [hl]; simp)
              rcases hN01 p this.1 with z | z
              · rw [← this.2]; exact z
              · rw [← this.2] at c; exact absurd z c
          rw [← e0]
          exact mem_z hz p
        have Znd : e.2.Nodup := by rw [hz]; exact List.nodup_range.filter _
        have Zlen : e.2.length ≤ 24 := Nat.le_trans (nodup_len Znd fun p hp => ((memZ p).mp hp).1) clen
        have eZ : (fun p => p ∈ e.2) = (fun p => p < G.length ∧ N p = 0) := funext fun p => propext (memZ p)
        have hsubZ : Sub (Ed G) (fun p => p ∈ e.2) := by rw [eZ]; exact hsub
        generalize e.2 = Z at memZ Znd Zlen eZ hsubZ hbz hz
        have hZn : ∀ p ∈ Z, p < G.length := fun p hp => ((memZ p).mp hp).1
        refine ⟨_, rfl, _, rfl, _, rfl, _, rfl, I4, G, Z, _, _, gg.s, rfl, hG gg.i, ⟨bz, rfl, hbz⟩, nd, hZn, fun pl I5 H5 g5 ml => ?_⟩
        have gs5 := g5.stop ml
        have gg5 := gg.trans gs5
        have hbz5 := gs5.i _ _ hbz
        refine ⟨_, G, Z, .theirs, [], _, _, _, gs5.s, rfl, hG gg5.i, ⟨bz, rfl, hbz5⟩, ⟨pl, rfl, upd_same⟩, hw, nd, (fun z => by cases z), hZn, fun p hp => absurd hp (by simp), hsubZ, by simp, Zlen, fun t f d I6 H6 F kvs g6 ht hf _ pr hF fl => ?_⟩
        have hF0 := pull_none hsubZ pr
        subst hF0
        refine ⟨t, _, 0, _, rfl, rfl, rdT ht g6.s, rfl, ?_⟩
        have gg6 := gg5.trans g6
        have mf := (mf.up gs5).up g6
        have hbz6 := g6.i _ _ hbz5
        refine ⟨_, rfl, bz, rfl, ⟨_, sqH (g6.s _ _ hbz6)⟩, lc_flat (v := vN) (f := fun p => !decide (p ∈ ([] : List Nat))) (m := fun p => p) (src_listF hbz6) g6.s (by omega) (fun e' xe I7 H7 he' re' g7 Qg kk => ?_) (fun pr8 I7 H7 g7 m7 => ?_)⟩
        · have re' : xe = vN e' := re'
          subst re'
          exact kk _ rfl (fun Q2 q2 => ⟨_, rfl, _, rfl, f, [], e', rfl, rfl, sqH (g7.s _ _ (g7.i _ _ hf)), _, rfl, q2 I7 H7 (Gr.refl g7.s)⟩) (fun I9 H9 g9 _ Q2 q2 => ⟨_, rfl, q2 _ I9 H9 (Gr.refl g9.s) rfl⟩)
        rw [map_same] at m7
        have eR : Z.filter (fun p => !decide (p ∈ ([] : List Nat))) = Z := List.filter_eq_self.mpr fun p _ => by simp
        rw [eR] at m7
        have gs7 := g7.stop m7
        have gg7 := gg6.trans gs7
        have mf := mf.up gs7
        refine ⟨_, rfl, _, rfl, Nat.zero_le _, fun pe npe => ?_⟩
        have ge := Gr.imm (o := .lst []) gs7.s npe
        have gge := gg7.trans ge
        have mf := mf.up ge
        refine ⟨_, G, Z, .ours, [], fun _ => 0, _, _, _, ge.s, rfl, hG gge.i, ⟨pr8, rfl, ge.i _ _ upd_same⟩, ⟨pe, rfl, upd_same⟩, hw, nd, (fun z => by cases z), hZn, Znd, hsubZ, fun p hp => absurd hp (by simp), by simp, wins_none, by show 2 * Z.length + 1 < 50; omega, fun t2 kf kd I9' H9 Kl plan g9' ht2' hkf' hkdM wr => ?_⟩
        obtain ⟨I9, g9, ht2, hkf, hkd⟩ : ∃ I9, Gr _ _ I9 H9 ∧ SqT K I9 t2 [.ref kf, .ref kd] ∧ I9 kf = some (.lst (Kl.map vN)) ∧ I9 kd = some (.dK plan) := ⟨_, g9'.stop hkdM, rdT ht2' (Same.new hkdM.i), (Same.new hkdM.i) _ _ hkf', upd_same⟩
        refine ⟨t2, [.ref kf, .ref kd], rfl, rdT ht2 g9.s, rfl, _, _, rfl, _, _, rfl, rfl, ?_⟩
        have gg9 := gge.trans g9
        have mf := mf.up g9
        have e9 : Same I2 I9 := (((((e3.trans g4.i).trans gs5.i).trans g6.i).trans gs7.i).trans ge.i).trans g9.i
        have KZ : ∀ p ∈ Kl, p < G.length ∧ N p = 0 := fun p hp => (memZ p).mp (wr.sub p hp)
        refine ⟨_, rfl, kf, rfl, ⟨_, sqH (g9.s _ _ hkf)⟩, for_src (jRa H G.length plan Kl s [some (.ref a), some (.ref bs), some z, some (.ref ps), some (.ref qa), some (.ref bz), some (.ref f)] ps (some (.ref pr8)) (some (.ref kf)) (some (.ref kd))) (src_listF hkf) gg9 ⟨z7, s, rfl, mf, hst.len, fun q _ => rfl, fun q hq => absurd hq (by simp)⟩ ?_ ?_⟩
        · rintro j p xv σ2 Ia Ha Ib Hb hp ga ea ⟨z7', s', rfl, mf', sl, hk1, hk2⟩ gb re
          have re : xv = vN p := re
          subst re
          have mf' := mf'.up gb
          have ggb := ga.trans gb
          have hpK : p ∈ Kl := List.mem_of_getElem? hp
          have hpn := (KZ p hpK).1
          have tk2 : ∀ {q}, q ∈ Kl.take (j + 1) ↔ q ∈ Kl.take j ∨ q = p := fun {q} => by
            rw [List.take_add_one, hp, List.mem_append]
            exact or_congr Iff.rfl List.mem_singleton
          have hkdb : Hb kd = some (.dK plan) := gb.s _ _ ((ea.trans gb.i) _ _ hkd)
          have hval := wr.pd.val p
          refine ⟨_, rfl, _, rfl, kd, _, rfl, dget hkdb, _, rfl, ?_⟩
          rw [hval]
          cases hb : bD plan p with
          | none =>
            refine iteF ⟨Ib, ggb, ea.trans gb.i, _, s', rfl, mf', sl, fun q hq => hk1 q fun z => hq (tk2.mpr (.inl z)), fun q hq b hqb => ?_⟩
            rcases tk2.mp hq with z | z
            · exact hk2 q z b hqb
            · rw [z, hb] at hqb; cases hqb
          | some b =>
            rw [hb] at hval
            have es : (s'.map vO).set p (vN b) = (s'.set p (some b)).map vO := set_vO (o := some b)
            refine iteT ⟨_, rfl, _, rfl, kd, vN b, rfl, (by have := dget (p := p) hkdb; rw [hval] at this; exact this), _, rfl, _, rfl, ps, _, p, rfl, rfl, mf'.h, by rw [List.length_map]; omega, ?_⟩
            rw [es]
            refine ⟨Ib, ggb.put mf', ea.trans gb.i, _, s'.set p (some b), rfl, mf'.set, by rw [List.length_set]; exact sl, fun q hq => ?_, fun q hq b' hqb => ?_⟩
            · rw [List.getElem?_set, if_neg (fun z : p = q => hq (tk2.mpr (.inr z.symm)))]
              exact hk1 q fun z => hq (tk2.mpr (.inl z))
            · by_cases z : p = q
              · rw [← z, hb] at hqb
                rw [List.getElem?_set, if_pos z, if_pos (by omega), Option.some.inj hqb]
              · rw [List.getElem?_set, if_neg z]
                exact hk2 q ((tk2.mp hq).resolve_right fun y => z y.symm) b' hqb
        · rintro σ2 Ia Ha ga ea ⟨z7', s', rfl, mf', sl, hk1, hk2⟩
          rw [List.take_length] at hk1 hk2
          refine ⟨_, rfl, _, .inl ⟨_, sqH (ga.s _ _ (ea _ _ hkf)), rfl⟩, ?_⟩
          by_cases hK0 : Kl = []
          · subst hK0
            have es : s' = s := List.ext_getElem? fun q => hk1 q (by simp)
            rw [es] at mf'
            obtain ⟨tau, hl⟩ := wr.lose
            refine iteF ⟨Ia, ga, e9.trans ea, _, _, _, _, _, _, _, rfl, mf', fun q hq hq1 => ?_⟩
            rcases tk hq with y | y
            · exact hlost q y hq1
            · rw [y, hcs.is e heC, ← hz]
              exact ⟨tau, hl.same fun p => ⟨fun z => z.1, fun z => ⟨z, by simp⟩⟩⟩
          · rw [ne_empty hK0]
            refine iteT ⟨_, rfl, by show 2 ≤ sizeLine; decide, fun t3 nt => ?_⟩
            have gs := ga.stop mf'
            have gt := Gr.imm (o := .tup [.ref ps, .bl true]) gs.s nt
            refine q t3 (.ref ps) true _ _ (gs.trans gt) (.inl (.inl upd_same)) (fun _ => ⟨s', ⟨ps, rfl, gt.i _ _ upd_same⟩, ?_⟩) fun z => by cases z
            obtain ⟨tau, _, w2, w3⟩ := wr.win
            have ow : ∀ p, p < G.length → (own G .ours p ↔ kdOf G p = .ours) := fun p hp => own_iff nd hp (fun z => by cases z)
            refine ⟨Kl, tau, hK0, KZ, by rw [← eZ]; exact w3, ⟨sl, fun p hp hk => ?_⟩, fun p o hn => hk1 p hn, fun p hp o => ?_⟩
            · by_cases c : p ∈ Kl
              · obtain ⟨b, hb1, hb2⟩ := wr.br p c (by simp) hk
                exact ⟨b, hk2 p c b hb1, hb2⟩
              · rw [hk1 p c]; exact hst.br p hp hk
            · obtain ⟨b, hb1, hb2⟩ := wr.br p hp (by simp) ((ow p (KZ p hp).1).mp o)
              rw [w2 p hp (by simp) o]
              unfold tgOf brOf sgOf
              rw [hk2 p hp b hb1, hb1]
              rfl
      · have c : e.1 = 1 := by simpa using c
        exact ⟨I4, gg, e3.trans g4.i, _, _, _, _, _, _, _, rfl, mf, fun q hq hq1 => (tk hq).elim (fun z => hlost q z hq1) fun z => absurd c (z ▸ hq1)⟩
    · rintro σ1 I3 H3 g3 e3 ⟨z4, z5, z6, z7, z8, z9, z10, rfl, mf, hlost⟩
      rw [List.take_length] at hlost
      refine ⟨_, rfl, by show 2 ≤ sizeLine; decide, fun t nt => ?_⟩
      have gs := g3.stop mf
      have gt := Gr.imm (o := .tup [.ref ps, .bl false]) gs.s nt
      refine q t (.ref ps) false _ _ (gs.trans gt) (.inl (.inl upd_same)) (fun z => by cases z) fun _ => ?_
      by_cases hex : ∃ p, p < G.length ∧ N p = 0
      · obtain ⟨p, hp, hp0⟩ := hex
        obtain ⟨e, he, h⟩ := hcs.all p hp
        rw [hp0] at h
        obtain ⟨tau, ht⟩ := hlost e he (by rw [h]; decide)
        have hz := hcs.is e he
        rw [h] at hz
        exact ⟨tau, wins_eq ht (mem_z hz) (mem_z hz)⟩
      · exact ⟨fun _ => 0, wins_none' fun p h => hex ⟨p, h⟩⟩
end
end OC
namespace OC
open PySem PySem.Spec PyProof.Rows L2
/-! ### a walk over a plan's places -/
section
variable {I H I0 H0 : Hp} {d : Addr} {o : Obj} {kvs : List (Key × V)} {n : Nat}
theorem src_keys (pd : Pd n kvs) (hd : I d = some (.frz o (.dK kvs))) : Src (Itk d o kvs) I (kvs.map fun e => kN e.1) rN where
  go := fun i H hi e => ⟨e _ _ hd, by rw [List.length_map] at hi; exact hi⟩
  stop := fun H e => ⟨e _ _ hd, by rw [List.length_map]; exact Nat.le_refl _⟩
  yld := fun i I1 H1 x H' e1 e2 ⟨e3, k, v, hk, ex⟩ hi => by
    subst e3
    obtain ⟨p, b, hp, e⟩ := pd.is _ (List.mem_of_getElem? hk)
    have ek : k = Sum.inl (p : Int) := congrArg Prod.fst e
    subst ek
    exact ⟨p, I1, by rw [List.getElem?_map, hk]; rfl, Gr.refl e2, ex⟩
theorem Pd.at_key (pd : Pd n kvs) {p : Nat} (h : p ∈ kvs.map fun e => kN e.1) : p < n ∧ ∃ b, valV kvs (Sum.inl (p : Int)) = some (vN b) := by
  obtain ⟨e, he, hp⟩ := List.mem_map.mp h
  obtain ⟨q, b, hq, rfl⟩ := pd.is e he
  have hp : q = p := hp
  subst hp
  refine ⟨hq, ?_⟩
  have h1 := valV_any (Sum.inl (q : Int) : Key) kvs
  have h2 : (kvs.any fun kv => decide (kv.1 = (Sum.inl (q : Int) : Key))) = true := List.any_eq_true.mpr ⟨_, he, decide_eq_true rfl⟩
  rw [h2] at h1
  have h3 := pd.val q
  cases hb : bD kvs q with
  | none => rw [h3, hb] at h1; cases h1
  | some b => exact ⟨b, by rw [h3, hb]; rfl⟩
/-- what stood still may change again -/
theorem Gr.loose {u : HO} (g : Gr I0 H0 I H) (hb : H0 d = none) (hi : I0 d = none) : Gr I0 H0 (fun b => if b = d then none else I b) (upd H d u) := by
  refine ⟨fun b z e => ?_, fun b z e => ?_, fun b z e => ?_, fun p hp hn => ?_⟩
  · have : b ≠ d := fun y => by rw [y, hi] at e; cases e
    show (if b = d then none else I b) = _
    rw [if_neg this]; exact g.i b z e
  · have : b ≠ d := fun y => by rw [y, hb] at e; cases e
    rw [upd_ne this]; exact g.h b z e
  · have e : (if b = d then none else I b) = some z := e
    by_cases c : b = d
    · rw [if_pos c] at e; cases e
    · rw [if_neg c] at e
      rw [upd_ne c]; exact g.s b z e
  · show (if p = d then none else I p) = none
    split
    · rfl
    · exact g.n p hp hn
theorem same_loose {I2 : Hp} (e : Same I2 I) (h : I2 d = none) : Same I2 (fun b => if b = d then none else I b) := fun b z q => by
  have : b ≠ d := fun y => by rw [y, h] at q; cases q
  show (if b = d then none else I b) = _
  rw [if_neg this]; exact e b z q
end
section
variable {P : Program} {w : World} {K : PySem.W.Frag} {mg : Str → Option Value} {base : Heap} {k : Nat}
def spHolding (K : PySem.W.Frag) : Sp := fun vs H Q _ => ∃ I G N x y, Same I H ∧ vs = [x, y] ∧ (rG K).rel G x I ∧ Wf G ∧ NoDraw G ∧ (rQs K).rel ((List.range G.length).map N) y I ∧ (∀ p, p < G.length → N p = 0 ∨ N p = 1) ∧ Sub (Ed G) (fun p => p < G.length ∧ N p = 0) ∧ ∀ v I' H', Gr I H I' H' → Q v H'
def iHo (H : Hp) (n : Nat) (x y : V) (ps : Addr) (i : Nat) (σ : L2.St) (I1 H1 : Hp) : Prop :=
  ∃ (z2 z4 z5 z6 : Option V) (s : List (Option Nat)), σ = [some x, some y, z2, some (.ref ps), z4, z5, z6] ∧ Mu H I1 H1 ps (.lst (s.map vO)) ∧ s.length = n
def jHo (H : Hp) (n : Nat) (x y : V) (ps : Addr) (z4 z5 z6 : Option V) (i : Nat) (σ : L2.St) (I1 H1 : Hp) : Prop :=
  ∃ (z2 : Option V) (s : List (Option Nat)), σ = [some x, some y, z2, some (.ref ps), z4, z5, z6] ∧ Mu H I1 H1 ps (.lst (s.map vO)) ∧ s.length = n
abbrev s_holding : Stmt := topS 54
theorem sc_holding : FnScope ["game", "numbers", "place", "strategy", "number", "places", "plan"] ["game", "numbers"] (defScope s_holding) := ⟨rfl, rfl, rfl, by decide +kernel, rfl, by decide +kernel, by decide +kernel⟩
theorem c_holding (D : Dn K mg "holding" s_holding ["game", "numbers"]) (k1 : Cst K mg "ONE_against" 1) (c_classes_by : Cal P w K mg base "classes_by" k (spClasses K)) (c_leaving : Cal P w K mg base "leaving" k (spLeaving K)) (c_won : Cal P w K mg base "won" k (spWon K 50)) :
    Cal P w K mg base "holding" (k + 1) (spHolding K) := by
  obtain ⟨a1, m_ONE_against, one⟩ := k1
  refine D.ok sc_holding (fun vs H Q E h => ?_) (fun f cdv A' outer s0 H vs Q E hr h => ?_)
  · obtain ⟨I, G, N, x, y, _, rfl, _⟩ := h
    rfl
  · obtain ⟨I, G, N, x, y, hs, rfl, hG, hw, nd, hN, hN01, hsub, q⟩ := h
    have hu := hu_of hr
    refine ⟨_, (pss_cons (ps_setLc (i := 3) (own := [("place", 2)]) (g := gName 2) (by rfl) sc_holding.nd rfl rfl (sw_true rfl rfl rfl (by decide +kernel)) (pi_list (pv 0)) (blkOk_by (own := [("place", 2)]) (N := ["game", "numbers", "place", "strategy", "number", "places", "plan"]) (sc := defScope s_holding) (by decide +kernel)) (fun _ _ _ _ _ => (pg_name (i := 2) sc_holding.nd rfl (Or.inl rfl))) (fun _ _ _ _ _ => pts_nil) (fun _ _ _ _ _ => (pe_ifExp (pt_cmpR op_eq (pe_ix (ix_tupK K) (pv 2) pe_int (fun _ _ => rfl)) pe_str (nomark _)) pe_int pe_non)))
      (pss_cons (ps_for PassesOwn.never rfl (pi_list (pe_c c_classes_by hr (by rfl) (pa_cons (pv 1) pa_nil))) (pg_tup rfl (pgs_cons (pg_name (i := 4) sc_holding.nd rfl (Or.inl rfl)) (pgs_cons (pg_name (i := 5) sc_holding.nd rfl (Or.inl rfl)) pgs_nil)))
      (pss_one (ps_if (pt_cmpR (op_neQ K hr.units) (pv 4) (pe_gr (by rfl) m_ONE_against) (nomark _))
      (pss_cons (ps_set (i := 6) sc_holding.nd rfl (Or.inl rfl) (pe_ix (ix_tupK K) (pe_c c_won hr (by rfl) (pa_cons (pv 0) (pa_cons (pv 5) (pa_cons pe_str (pa_cons (pe_c c_leaving hr (by rfl) (pa_cons (pv 0) (pa_cons (pv 5) pa_nil))) pa_nil))))) pe_int (fun _ _ => rfl)))
      (pss_one (ps_lock (ps_for PassesOwn.never rfl (pi_keys (pv 6)) (pg_name (i := 2) sc_holding.nd rfl (Or.inl rfl))
      (pss_one (ps_asg (pe_dget hu (pv 6) (pv 2) (fun _ _ => rfl)) (pg_sub (pv 3) (pv 2) set_N))))))) pss_nil)))
      (pss_one (ps_ret (pv 3))))), ?_⟩
    have clen := hw.len
    obtain ⟨a, xs, rfl, h1, h2⟩ := hG
    have hG : ∀ {I'}, Same I I' → (rG K).rel G (.ref a) I' := fun e => (rG K).up ⟨a, xs, rfl, h1, h2⟩ e
    refine ⟨_, rfl, a, rfl, ⟨xs, sqH (hs _ _ h1)⟩, lc_flat (v := vO) (f := fun _ => true) (m := fun pl : Pl => if pl.kd = .theirs then some 0 else none) (src_list h1 h2) hs (by omega) (fun e xe I1 H1 he re g1 Qg kk => ?_) (fun ps I1 H1 g1 mf => ?_)⟩
    · obtain ⟨b, c, rfl, ht, _⟩ := re
      refine kk _ rfl (evYes g1.s) (fun I2 H2 g2 _ Q2 q2 => ?_)
      refine ⟨_, rfl, b, _, 1, _, rfl, rfl, rdT ht (g1.s.trans g2.h), rfl, rfl, _, rfl, ?_⟩
      have ek : decide (V.str (kS e.kd) = V.str "theirs") = decide (e.kd = .theirs) := kS_inj (b := .theirs)
      rw [ek]
      by_cases c : e.kd = .theirs
      · rw [decide_eq_true c]
        exact iteT (q2 _ I2 H2 (Gr.refl g2.s) (by rw [if_pos c]; rfl))
      · rw [decide_eq_false c]
        exact iteF (q2 _ I2 H2 (Gr.refl g2.s) (by rw [if_neg c]; rfl))
    rw [filter_yes] at mf
    refine ⟨_, rfl, I1, G.length, N, _, g1.s, rfl, (rQs K).up hN g1.i, clen, fun v I2 H2 Cs g2 ⟨bc, xc, e, hbc, hpc⟩ hcs => ?_⟩
    subst e
    have gg2 := g1.trans g2
    have mf := mf.up g2
    refine ⟨bc, rfl, ⟨_, sqH (g2.s _ _ hbc)⟩, for_src (iHo H G.length (.ref a) y ps) (src_list hbc hpc) gg2 ⟨none, none, none, none, _, rfl, mf, List.length_map _⟩ ?_ ?_⟩
    · rintro i e xv σ1 I3 H3 I4 H4 he g3 e3 ⟨z2, z4, z5, z6, s, rfl, mf, sl⟩ g4 re
      have mf := mf.up g4
      have gg := g3.trans g4
      have heC : e ∈ Cs := List.mem_of_getElem? he
      refine gPair re g4.s fun y1 y2 r1 r2 => ?_
      obtain ⟨qa, rfl, hqa⟩ := r1
      obtain ⟨bz, rfl, hbz⟩ := r2
      refine ⟨_, rfl, qa, a1, e.1, 1, rfl, rfl, rdT hqa g4.s, one _, _, rfl, ite2 (fun c => ?_) (fun c => ?_)⟩
      · have c : e.1 ≠ 1 := by simpa using c
        have hz : e.2 = (List.range G.length).filter fun p => decide (N p = e.1) := hcs.is e heC
        have memZ : ∀ p, p ∈ e.2 ↔ p < G.length ∧ N p = 0 := fun p => by
          have e0 : e.1 = 0 := by
            cases hl : e.2 with
            | nil => exact absurd hl (hcs.ne e heC)
            | cons p t =>
              have := (mem_z hz p).mp (by rw [hl]; simp)
              rcases hN01 p this.1 with z | z
              · rw [← this.2]; exact z
              · rw [← this.2] at c; exact absurd z c
          rw [← e0]
          exact mem_z hz p
        have Znd : e.2.Nodup := by rw [hz]; exact List.nodup_range.filter _
        have Zlen : e.2.length ≤ 24 := Nat.le_trans (nodup_len Znd fun p hp => ((memZ p).mp hp).1) clen
        have eZ : (fun p => p ∈ e.2) = (fun p => p < G.length ∧ N p = 0) := funext fun p => propext (memZ p)
        have hsubZ : Sub (Ed G) (fun p => p ∈ e.2) := by rw [eZ]; exact hsub
        generalize e.2 = Z at memZ Znd Zlen eZ hsubZ hbz hz
        have hZn : ∀ p ∈ Z, p < G.length := fun p hp => ((memZ p).mp hp).1
        refine ⟨_, rfl, _, rfl, _, rfl, _, rfl, I4, G, Z, _, _, gg.s, rfl, hG gg.i, ⟨bz, rfl, hbz⟩, nd, hZn, fun pl I5 H5 g5 ml => ?_⟩
        have gs5 := g5.stop ml
        have gg5 := gg.trans gs5
        have hbz5 := gs5.i _ _ hbz
        have mf5 := mf.up gs5
        refine ⟨_, G, Z, .theirs, [], fun _ => 0, _, _, _, gs5.s, rfl, hG gg5.i, ⟨bz, rfl, hbz5⟩, ⟨pl, rfl, upd_same⟩, hw, nd, (fun z => by cases z), hZn, Znd, hsubZ, fun p hp => absurd hp (by simp), by simp, wins_none, by show 2 * Z.length + 1 < 50; omega, fun t2 kf d I6 H6 Kl plan g6 ht2 hkf md wr => ?_⟩
        refine ⟨t2, _, 1, _, rfl, rfl, rdT ht2 g6.s, rfl, ?_⟩
        have gg6 := gg5.trans g6
        have hd5 : (upd I5 pl (.lst [])) d = none := gs5.s.free md.b
        have md6 : Mu H I6 H6 d (.dK plan) := ⟨gg5.h.free md.b, md.i, md.h⟩
        have nsw : ps ≠ d := mf5.ne md.b
        have mf6 := mf5.up g6
        refine ⟨d, .dK plan, md.h, trivial, fun od => ?_⟩
        have g7 := (gg6.put (u := .frz od (.dK plan)) md6).stop md6.set
        have mf7 : Mu H (upd I6 d (.frz od (.dK plan))) (upd H6 d (.frz od (.dK plan))) ps (.lst (s.map vO)) := (mf6.other nsw).beside nsw
        refine ⟨_, rfl, d, od, rfl, .inl ⟨plan, upd_same, for_src (jHo H G.length (.ref a) y ps (some (.ref qa)) (some (.ref bz)) (some (.ref d))) (src_keys wr.pd upd_same) g7 ⟨z2, s, rfl, mf7, sl⟩ ?_ ?_⟩⟩
        · rintro j p xv σ2 Ia Ha Ib Hb hp ga ea ⟨z2', s', rfl, mf', sl'⟩ gb re
          have re : xv = vN p := re
          subst re
          have mf' := mf'.up gb
          obtain ⟨hpn, b, hvb⟩ := wr.pd.at_key (List.mem_of_getElem? hp)
          have hdb : Hb d = some (.frz od (.dK plan)) := gb.s _ _ ((ea.trans gb.i) _ _ upd_same)
          have es : (s'.map vO).set p (vN b) = (s'.set p (some b)).map vO := set_vO (o := some b)
          refine ⟨_, rfl, _, rfl, d, vN b, rfl, .inl ⟨plan, Sum.inl (p : Int), .inr ⟨od, hdb⟩, rfl, hvb.symm⟩, _, rfl, _, rfl, ps, _, p, rfl, rfl, mf'.h, by rw [List.length_map]; omega, ?_⟩
          rw [es]
          exact ⟨Ib, (ga.trans gb).put mf', ea.trans gb.i, _, _, rfl, mf'.set, by rw [List.length_set]; exact sl'⟩
        · rintro σ2 Ia Ha ga ea ⟨z2', s', rfl, mf', sl'⟩
          have hId : I d = none := hs.free md6.b
          refine ⟨ga.s _ _ (ea _ _ upd_same), _, ga.loose md6.b hId, ?_, _, _, _, _, s', rfl, ⟨mf'.b, ?_, by rw [upd_ne nsw]; exact mf'.h⟩, sl'⟩
          · have e25 : Same I2 (upd I5 pl (.lst [])) := (e3.trans g4.i).trans gs5.i
            have hd2 : I2 d = none := by
              cases e : I2 d with
              | none => rfl
              | some u => rw [e25 _ _ e] at hd5; cases hd5
            refine same_loose (((e25.trans g6.i).trans (Same.new md6.i)).trans ea) hd2
          · show (if ps = d then none else Ia ps) = none
            rw [if_neg nsw]; exact mf'.i
      · exact ⟨I4, gg, e3.trans g4.i, _, _, _, _, s, rfl, mf, sl⟩
    · rintro σ1 I3 H3 g3 e3 ⟨z2, z4, z5, z6, s, rfl, mf, sl⟩
      exact ⟨_, rfl, q _ I3 H3 g3⟩
end
end OC
namespace OC
open PySem PySem.Spec PyProof.Rows L2
/-! ### the search over strategies of ours -/
abbrev ZeroS (G : Gm) (s : List (Option Nat)) (p : Nat) : Prop := Zero (own G .ours) (Ed G) (mkOf G) (tgOf G s) p
noncomputable abbrev nOf (G : Gm) (s : List (Option Nat)) (p : Nat) : Int := oddV (wS G .ours s) p
section
variable {G : Gm} {s s' : List (Option Nat)} {p : Nat}
theorem own_ours : own G .ours p ↔ kdOf G p = .ours := by unfold own; simp
theorem own_lt (h : own G .ours p) : p < G.length := Classical.byContradiction fun z => by
  have := own_ours.mp h
  unfold kdOf at this
  rw [List.getElem?_eq_none_iff.mpr (by omega)] at this
  cases this
theorem ws_rt (h : IsSt G .ours s) : Ed (wS G .ours s) = Rt (own G .ours) (Ed G) (tgOf G s) := by
  funext u v
  refine propext ((wS_ed h).trans ?_)
  unfold Rt
  rw [own_ours]
theorem nOf_0 (h : IsSt G .ours s) : nOf G s p = 0 ↔ ZeroS G s p := by
  rw [oddV_0, ws_rt h, show mkOf (wS G .ours s) = mkOf G from funext fun p => wS_mk]
  rfl
theorem nOf_1 (h : IsSt G .ours s) : nOf G s p = 1 ↔ ¬ ZeroS G s p := by
  rw [← nOf_0 h]
  rcases oddV_01 (G := wS G .ours s) (p := p) with z | z
  · rw [show nOf G s p = 0 from z]; decide
  · rw [show nOf G s p = 1 from z]; decide
theorem zero_lt (h : ZeroS G s p) : p < G.length := by
  obtain ⟨q, r, _⟩ := Comes.next h
  exact ed_lt r.1
theorem zero_sub (w : Wf G) (h : IsSt G .ours s) : Sub (Ed G) (fun p => p < G.length ∧ nOf G s p = 0) := fun p hp => by
  obtain ⟨q, r, c⟩ := Comes.next ((nOf_0 h).mp hp.2)
  exact ⟨q, r.1, w.ed r.1, (nOf_0 h).mpr c⟩
theorem zero_tg (h : IsSt G .ours s) (o : own G .ours p) : ZeroS G s p ↔ ZeroS G s (tgOf G s p) := by
  constructor
  · intro z
    obtain ⟨q, r, c⟩ := Comes.next z
    rw [r.2 o] at c
    exact c
  · exact fun z => Comes.step (R := Rt (own G .ours) (Ed G) (tgOf G s)) ⟨(h.at (own_lt o) (own_ours.mp o)).2.2, fun _ => rfl⟩ z
theorem tg_same (h : s'[p]? = s[p]?) : tgOf G s' p = tgOf G s p := by unfold tgOf brOf; rw [h]
theorem swO_cases (h : IsSt G .ours s) (sw : Sw G .ours (nOf G s) s [] s') (p : Nat) : s'[p]? = s[p]? ∨ (own G .ours p ∧ ZeroS G s p ∧ ¬ ZeroS G s (tgOf G s' p)) := by
  by_cases e : s'[p]? = s[p]?
  · exact .inl e
  · have hp : p < G.length := Classical.byContradiction fun z => e (by
      rw [List.getElem?_eq_none_iff.mpr (by have := sw.st.len; omega), List.getElem?_eq_none_iff.mpr (by have := h.len; omega)])
    have hk : kdOf G p = .ours := Classical.byContradiction fun z => e (sw.keep p (.inl z))
    have o : own G .ours p := own_ours.mpr hk
    rcases sw.mv p hp hk (by simp) with z | z
    · exact absurd z.1 e
    · have z : nOf G s (tgOf G s p) < nOf G s (tgOf G s' p) := z
      have z1 : ZeroS G s (tgOf G s p) := Classical.byContradiction fun y => by
        rw [(nOf_1 h).mpr y] at z
        rcases oddV_01 (G := wS G .ours s) (p := tgOf G s' p) with a | a
        · rw [show nOf G s (tgOf G s' p) = 0 from a] at z; omega
        · rw [show nOf G s (tgOf G s' p) = 1 from a] at z; omega
      refine .inr ⟨o, (zero_tg h o).mpr z1, fun y => ?_⟩
      rw [(nOf_0 h).mpr z1, (nOf_0 h).mpr y] at z
      omega
theorem swO_less (h : IsSt G .ours s) (sw : Sw G .ours (nOf G s) s [] s') (ne : s' ≠ s) : cnt G.length (fun p => ZeroS G s' p) < cnt G.length (fun p => ZeroS G s p) := by
  have hs : ∀ p, own G .ours p → tgOf G s' p = tgOf G s p ∨ (ZeroS G s p ∧ ¬ ZeroS G s (tgOf G s' p)) := fun p _ => (swO_cases h sw p).imp tg_same fun z => z.2
  have ex : ∃ p, s'[p]? ≠ s[p]? := Classical.byContradiction fun z => ne (List.ext_getElem? fun p => Classical.byContradiction fun y => z ⟨p, y⟩)
  obtain ⟨p, hp⟩ := ex
  obtain ⟨h1, h2, h3⟩ := (swO_cases h sw p).resolve_left hp
  exact cnt_lt (fun x _ hx => Classical.byContradiction fun c => switch_N hs c hx) (own_lt h1) h2 (switch_Z hs h1 h3)
theorem rai_less (h : IsSt G .ours s) (r : Rai G (nOf G s) s s') : cnt G.length (fun p => ZeroS G s' p) < cnt G.length (fun p => ZeroS G s p) := by
  obtain ⟨Kl, tau, hne, hK, hw, hst, hk1, hk2⟩ := r
  have hw' : Wins (own G .ours) (Ed G) (mkOf G) 0 (fun p => p ∈ Kl) (ZeroS G s) tau := hw.arena fun p => ⟨fun z => (nOf_0 h).mp z.2, fun z => ⟨zero_lt z, (nOf_0 h).mpr z⟩⟩
  have hs : ∀ p, own G .ours p → ¬ p ∈ Kl → tgOf G s' p = tgOf G s p := fun p o hn => tg_same (hk1 p o hn)
  have hp : ∀ p, own G .ours p → p ∈ Kl → tgOf G s' p = tau p := fun p o hp => hk2 p hp o
  obtain ⟨q, hq⟩ := List.exists_mem_of_ne_nil _ hne
  exact cnt_lt (fun x _ hx => Classical.byContradiction fun c => raise_N (K := fun p => p ∈ Kl) (fun p z => (nOf_0 h).mp (hK p z).2) hs c hx) (hK q hq).1 ((nOf_0 h).mp (hK q hq).2) (raise_K hw' hs hp hq)
/-- nothing more to switch or to raise -/
structure Fin (G : Gm) (s : List (Option Nat)) : Prop where
  st : IsSt G .ours s
  no : ∀ p, p < G.length → own G .ours p → ZeroS G s p → ∀ q, Ed G p q → ZeroS G s q
  keep : ∃ sg, Wins (own G .theirs) (Ed G) (mkOf G) 1 (fun p => p < G.length ∧ ZeroS G s p) (fun p => p < G.length ∧ ZeroS G s p) sg
theorem fin_of (h : IsSt G .ours s) (sw : Sw G .ours (nOf G s) s [] s) (hl : ∃ tau, WinS G .theirs (fun p => p < G.length ∧ nOf G s p = 0) (fun p => p < G.length ∧ nOf G s p = 0) tau) : Fin G s where
  st := h
  no := fun p hp o z q e => Classical.byContradiction fun y => by
    rcases sw.mv p hp (own_ours.mp o) (by simp) with k | k
    · refine k.2 q e ?_
      show nOf G s (tgOf G s p) < nOf G s q
      rw [(nOf_0 h).mpr ((zero_tg h o).mp z), (nOf_1 h).mpr y]
      decide
    · exact k.irr
  keep := by
    obtain ⟨tau, ht⟩ := hl
    have e : (fun p => p < G.length ∧ nOf G s p = 0) = (fun p => p < G.length ∧ ZeroS G s p) := funext fun p => propext (and_congr Iff.rfl (nOf_0 h))
    rw [e] at ht
    exact ⟨tau, ht⟩
end
section
variable {P : Program} {w : World} {K : PySem.W.Frag} {mg : Str → Option Value} {base : Heap} {k : Nat}
def spAnswer (K : PySem.W.Frag) : Sp := fun vs H Q _ => ∃ I G x, Same I H ∧ vs = [x] ∧ (rG K).rel G x I ∧ Wf G ∧ NoDraw G ∧ ∀ t y z u I' H' s, Gr I H I' H' → SqT K I' t [y, z, u] → (rQs K).rel ((List.range G.length).map (nOf G s)) y I' → Fin G s → Q (.ref t) H'
def wAn (H I : Hp) (G : Gm) (x : V) (m : Nat) (σ : L2.St) (H1 : Hp) : Prop :=
  ∃ (I1 : Hp) (z2 z3 z4 : Option V) (s : List (Option Nat)) (bs : Addr), Gr I H I1 H1 ∧ σ = [some x, some (.ref bs), z2, z3, z4, none] ∧ I1 bs = some (.lst (s.map vO)) ∧ IsSt G .ours s ∧ m = cnt G.length (fun p => ZeroS G s p)
abbrev s_answer_of : Stmt := topS 55
theorem sc_answer_of : FnScope ["game", "ours", "numbers", "later", "goes_on", "place"] ["game"] (defScope s_answer_of) := ⟨rfl, rfl, rfl, by decide +kernel, rfl, by decide +kernel, by decide +kernel⟩
theorem c_answer_of (D : Dn K mg "answer_of" s_answer_of ["game"]) (c_least_against : Cal P w K mg base "least_against" k (spLeast K)) (c_switched : Cal P w K mg base "switched" k (spSwitched K)) (c_raised : Cal P w K mg base "raised" k (spRaised K)) (c_holding : Cal P w K mg base "holding" k (spHolding K)) :
    Cal P w K mg base "answer_of" (k + 1) (spAnswer K) := by
  refine D.ok sc_answer_of (fun vs H Q E h => ?_) (fun f cdv A' outer s0 H vs Q E hr h => ?_)
  · obtain ⟨I, G, x, _, rfl, _⟩ := h
    rfl
  · obtain ⟨I, G, x, hs, rfl, hG, hw, nd, q⟩ := h
    refine ⟨_, (pss_cons (ps_setLc (i := 1) (own := [("place", 5)]) (g := gName 5) (by rfl) sc_answer_of.nd rfl rfl (sw_true rfl rfl rfl (by decide +kernel)) (pi_list (pv 0)) (blkOk_by (own := [("place", 5)]) (N := ["game", "ours", "numbers", "later", "goes_on", "place"]) (sc := defScope s_answer_of) (by decide +kernel)) (fun _ _ _ _ _ => (pg_name (i := 5) sc_answer_of.nd rfl (Or.inl rfl))) (fun _ _ _ _ _ => pts_nil) (fun _ _ _ _ _ => (pe_ifExp (pt_cmpR op_eq (pe_ix (ix_tupK K) (pv 5) pe_int (fun _ _ => rfl)) pe_str (nomark _)) pe_int pe_non)))
      (pss_one (ps_while PassesOwn.never (pt_val pe_bl)
      (pss_cons (ps_set (i := 2) sc_answer_of.nd rfl (Or.inl rfl) (pe_ix (ix_tupK K) (pe_c c_least_against hr (by rfl) (pa_cons (pv 0) (pa_cons (pv 1) pa_nil))) pe_int (fun _ _ => rfl)))
      (pss_cons (ps_set (i := 3) sc_answer_of.nd rfl (Or.inl rfl) (pe_c c_switched hr (by rfl) (pa_cons (pv 0) (pa_cons pe_str (pa_cons (pv 1) (pa_cons (pv 2) (pa_cons (pe_lst pa_nil) pa_nil)))))))
      (pss_cons (ps_if (pt_cmpR (op_eqO K hr.units) (pv 3) (pv 1) (nomark _))
      (pss_cons (ps_asg (pe_c c_raised hr (by rfl) (pa_cons (pv 0) (pa_cons (pv 1) (pa_cons (pv 2) pa_nil)))) (pg_tup rfl (pgs_cons (pg_name (i := 3) sc_answer_of.nd rfl (Or.inl rfl)) (pgs_cons (pg_name (i := 4) sc_answer_of.nd rfl (Or.inl rfl)) pgs_nil))))
      (pss_one (ps_if (pt_not (pt_val (pv 4)))
      (pss_one (ps_ret (pe_tup (pa_cons (pv 2) (pa_cons (pv 1) (pa_cons (pe_c c_holding hr (by rfl) (pa_cons (pv 0) (pa_cons (pv 2) pa_nil))) pa_nil)))))) pss_nil))) pss_nil)
      (pss_one (ps_set (i := 1) sc_answer_of.nd rfl (Or.inl rfl) (pv 3))))))))), ?_⟩
    have clen := hw.len
    obtain ⟨a, xs, rfl, h1, h2⟩ := hG
    have hG : ∀ {I'}, Same I I' → (rG K).rel G (.ref a) I' := fun e => (rG K).up ⟨a, xs, rfl, h1, h2⟩ e
    refine ⟨_, rfl, a, rfl, ⟨xs, sqH (hs _ _ h1)⟩, lc_flat (v := vO) (f := fun _ => true) (m := fun pl : Pl => if pl.kd = .ours then some 0 else none) (src_list h1 h2) hs (by omega) (fun e xe I1 H1 he re g1 Qg kk => ?_) (fun ps I1 H1 g1 mf => ?_)⟩
    · obtain ⟨b, c, rfl, ht, _⟩ := re
      refine kk _ rfl (evYes g1.s) (fun I2 H2 g2 _ Q2 q2 => ?_)
      refine ⟨_, rfl, b, _, 1, _, rfl, rfl, rdT ht (g1.s.trans g2.h), rfl, rfl, _, rfl, ?_⟩
      have ek : decide (V.str (kS e.kd) = V.str "ours") = decide (e.kd = .ours) := kS_inj (b := .ours)
      rw [ek]
      by_cases c : e.kd = .ours
      · rw [decide_eq_true c]
        exact iteT (q2 _ I2 H2 (Gr.refl g2.s) (by rw [if_pos c]; rfl))
      · rw [decide_eq_false c]
        exact iteF (q2 _ I2 H2 (Gr.refl g2.s) (by rw [if_neg c]; rfl))
    rw [filter_yes] at mf
    have st0 : IsSt G .ours (G.map fun pl : Pl => if pl.kd = .ours then some 0 else none) := ⟨List.length_map _, fun p hp hk => by
      obtain ⟨pl, hpl⟩ := pl_at hp
      rw [kd_at hpl] at hk
      refine ⟨0, by rw [List.getElem?_map, hpl]; show some (if pl.kd = .ours then some 0 else none) = _; rw [if_pos hk], ?_⟩
      have := (hw.some p hp).1
      omega⟩
    refine ⟨wAn H I G (.ref a), ⟨_, _, none, none, none, _, ps, g1.stop mf, rfl, upd_same, st0, rfl⟩, ?_⟩
    clear st0 mf g1
    rintro m σ1 H3 ⟨I3, z2, z3, z4, s, bs, g3, rfl, hbs, hst, rfl⟩
    have no : Kd.ours ≠ Kd.draw := fun z => by cases z
    refine ⟨_, rfl, iteT ⟨fun σ' H' => ∃ m', m' < cnt G.length (fun p => ZeroS G s p) ∧ wAn H I G (.ref a) m' σ' H', fun _ _ h => h, ?_⟩⟩
    -- numbers
    refine ⟨_, rfl, _, rfl, I3, G, s, _, _, g3.s, rfl, hG g3.i, hw, ⟨bs, rfl, hbs⟩, hst, fun t nv zv I4 H4 g4 ht hn => ?_⟩
    refine ⟨t, _, 0, _, rfl, rfl, rdT ht g4.s, rfl, ?_⟩
    have gg4 := g3.trans g4
    have hbs4 := g4.i _ _ hbs
    -- later
    refine ⟨_, rfl, _, rfl, _, rfl, Nat.zero_le _, fun pe npe => ?_⟩
    have ge := Gr.imm (o := .lst []) gg4.s npe
    have gge := gg4.trans ge
    refine ⟨_, G, .ours, s, nOf G s, [], _, _, _, _, gge.s, rfl, hG gge.i, hw, no, ⟨bs, rfl, ge.i _ _ hbs4⟩, hst, (rQs K).up hn ge.i, ⟨pe, rfl, upd_same⟩, fun lv I5 H5 s' g5 ⟨bl, e, hbl⟩ sw => ?_⟩
    subst e
    have g45 := ge.trans g5
    have gg5 := gg4.trans g45
    have hbs5 := g45.i _ _ hbs4
    refine ⟨_, rfl, _, rfl, bl, bs, s', s, rfl, rfl, sqH (gg5.s _ _ hbl), sqH (gg5.s _ _ hbs5), _, rfl, ite2 (fun c => ?_) (fun c => ?_)⟩
    · have c : s' = s := of_decide_eq_true c
      subst c
      have hn5 := (rQs K).up hn g45.i
      have n01 : ∀ p, p < G.length → nOf G s' p = 0 ∨ nOf G s' p = 1 := fun p _ => oddV_01
      refine ⟨_, rfl, _, rfl, _, rfl, I5, G, s', nOf G s', _, _, _, gg5.s, rfl, hG gg5.i, hw, nd, ⟨bs, rfl, hbs5⟩, hst, hn5, n01, zero_sub hw hst, fun t2 v b I6 H6 g6 ht2 hT hF => ?_⟩
      refine ⟨t2, [v, .bl b], rfl, rdT ht2 g6.s, rfl, _, _, rfl, _, _, rfl, rfl, ?_⟩
      have gg6 := gg5.trans g6
      cases b with
      | true =>
        obtain ⟨s2, ⟨b2, e2, hb2⟩, rai⟩ := hT rfl
        subst e2
        obtain ⟨_, _, _, _, _, hst2, _, _⟩ := id rai
        exact ⟨_, rfl, _, rfl, iteF ⟨_, rfl, _, rai_less hst rai, I6, _, _, _, s2, b2, gg6, rfl, hb2, hst2, rfl⟩⟩
      | false =>
        refine ⟨_, rfl, _, rfl, iteT ⟨_, rfl, _, rfl, _, rfl, _, rfl, I6, G, nOf G s', _, _, gg6.s, rfl, hG gg6.i, hw, nd, (rQs K).up hn5 g6.i, n01, zero_sub hw hst, fun hv I7 H7 g7 => ?_⟩⟩
        refine ⟨by show 3 ≤ sizeLine; decide, fun T nT => ?_⟩
        have gg7 := gg6.trans g7
        have gt := Gr.imm (o := .tup [nv, .ref bs, hv]) gg7.s nT
        exact q T nv (.ref bs) hv _ _ s' (gg7.trans gt) (.inl (.inl upd_same)) ((rQs K).up hn5 ((g6.i.trans g7.i).trans gt.i)) (fin_of hst sw (hF rfl))
    · have c : s' ≠ s := fun z => c (decide_eq_true z)
      exact ⟨_, rfl, _, swO_less hst sw c, I5, _, _, _, s', bl, gg5, rfl, hbl, sw.st, rfl⟩
def spValues (K : PySem.W.Frag) : Sp := fun vs H Q _ => ∃ I G x, Same I H ∧ vs = [x] ∧ (rG K).rel G x I ∧ Wf G ∧ NoDraw G ∧ ∀ y I' H' s, Gr I H I' H' → (rQs K).rel ((List.range G.length).map (nOf G s)) y I' → Fin G s → Q y H'
abbrev s_values : Stmt := topS 56
theorem sc_values : FnScope ["game"] ["game"] (defScope s_values) := ⟨rfl, rfl, rfl, by decide +kernel, rfl, by decide +kernel, by decide +kernel⟩
theorem c_values (D : Dn K mg "values" s_values ["game"]) (c_answer_of : Cal P w K mg base "answer_of" k (spAnswer K)) : Cal P w K mg base "values" (k + 1) (spValues K) := by
  refine D.ok sc_values (fun vs H Q E h => ?_) (fun f cdv A' outer s0 H vs Q E hr h => ?_)
  · obtain ⟨I, G, x, _, rfl, _⟩ := h
    rfl
  · obtain ⟨I, G, x, hs, rfl, hG, hw, nd, q⟩ := h
    refine ⟨_, (pss_one (ps_ret (pe_ix (ix_tupK K) (pe_c c_answer_of hr (by rfl) (pa_cons (pv 0) pa_nil)) pe_int (fun _ _ => rfl)))), ?_⟩
    exact ⟨_, rfl, I, G, x, hs, rfl, hG, hw, nd, fun t y z u I' H' s g ht hn fin => ⟨t, _, 0, _, rfl, rfl, rdT ht g.s, rfl, q y I' H' s g hn fin⟩⟩
end
end OC
namespace OC
open PySem PySem.Spec PyProof.Rows L2
section
variable {P : Program} {w : World} {K : PySem.W.Frag} {mg : Str → Option Value} {base : Heap} {k : Nat}
def spLGoals (K : PySem.W.Frag) : Sp := fun vs H Q _ => ∃ I pl x, Same I H ∧ vs = [x] ∧ (rP K).rel pl x I ∧ pl.kd ≠ .draw ∧ ∀ D I' H', Gr I H I' H' → Mu H I' H' D (.lst (pl.ts.map vN)) → Q (.ref D) H'
abbrev s__law_goals : Stmt := topS 58
theorem sc__law_goals : FnScope ["_law_place", "_law_chance", "_law_x"] ["_law_place"] (defScope s__law_goals) := ⟨rfl, rfl, rfl, by decide +kernel, rfl, by decide +kernel, by decide +kernel⟩
theorem c__law_goals (D : Dn K mg "_law_goals" s__law_goals ["_law_place"]) (m_list : mg "list" = none) : Cal P w K mg base "_law_goals" (k + 1) (spLGoals K) := by
  refine D.ok sc__law_goals (fun vs H Q E h => ?_) (fun f cdv A outer s H vs Q E hr h => ?_)
  · obtain ⟨I, pl, x, _, rfl, _⟩ := h
    rfl
  · obtain ⟨I, pl, x, hs, rfl, ⟨a, b, rfl, ht, hb⟩, hk, q⟩ := h
    refine ⟨_, (pss_cons (ps_if (pt_cmpR op_eq (pe_ix (ix_tupK K) (pv 0) pe_int (fun _ _ => rfl)) pe_str (nomark _))
      (pss_one (ps_ret (pe_lc (own := [("_law_chance", 1), ("_law_x", 2)]) (g := gTup K 2 (gCons (gName 1) (gCons (gName 2) gNil))) rfl sc__law_goals.nd (pi_list (pe_ix (ix_tupK K) (pv 0) pe_int (fun _ _ => rfl))) (blkOk_by (own := [("_law_chance", 1), ("_law_x", 2)]) (N := ["_law_place", "_law_chance", "_law_x"]) (sc := defScope s__law_goals) (by decide +kernel)) (fun _ _ _ _ _ => (pg_tup rfl (pgs_cons (pg_name (i := 1) sc__law_goals.nd rfl (Or.inl rfl)) (pgs_cons (pg_name (i := 2) sc__law_goals.nd rfl (Or.inl rfl)) pgs_nil)))) (fun _ _ _ _ _ => pts_nil) (fun _ _ _ _ _ => (pv 2))))) pss_nil)
      (pss_one (ps_ret (pe_callTy call_list_of (by rfl) m_list (by decide +kernel) (pa_cons (pe_ix (ix_tupK K) (pv 0) pe_int (fun _ _ => rfl)) pa_nil))))), ?_⟩
    have ht := rdT ht hs
    rw [rTs_side hk] at hb
    obtain ⟨c, rfl, hc⟩ := hb
    have e0 : decide (V.str (kS pl.kd) = V.str "draw") = false := by
      cases e : pl.kd with
      | draw => exact absurd e hk
      | ours => decide +kernel
      | theirs => decide +kernel
    refine ⟨_, rfl, a, _, 1, _, rfl, rfl, ht, rfl, rfl, _, rfl, ?_⟩
    rw [e0]
    exact iteF ⟨_, rfl, a, _, 2, _, rfl, rfl, ht, rfl, c, _, rfl, .inl (sqH (hs _ _ hc)), fun l nl => q l I _ (Gr.mut hs nl) ⟨nl, hs.free nl, upd_same⟩⟩
def spPool (K : PySem.W.Frag) : Sp := fun vs H Q _ => ∃ I a, ∃ ns : List Int, Same I H ∧ vs = [.ref a] ∧ SqL K I a (ns.map V.int) ∧ ∀ D I' H' (xs : List Int), Gr I H I' H' → Mu H I' H' D (.lst (xs.map V.int)) → 300 ≤ xs.length → xs.length ≤ 5000 → Q (.ref D) H'
def iPo (H : Hp) (x : V) (i : Nat) (σ : L2.St) (I1 H1 : Hp) : Prop :=
  ∃ (z3 z4 z5 z6 z7 : Option V) (pp : Addr) (xs : List Int) (st : Int), σ = [some x, some (.ref pp), some (.int st), z3, z4, z5, z6, z7] ∧ Mu H I1 H1 pp (.lst (xs.map V.int)) ∧ xs.length ≤ 60 * i
def jPo (H : Hp) (x : V) (z3 z6 z7 : Option V) (pp : Addr) (st : Int) (L0 : Nat) (i : Nat) (σ : L2.St) (I1 H1 : Hp) : Prop :=
  ∃ (z5 : Option V) (xs : List Int) (c : Int), σ = [some x, some (.ref pp), some (.int st), z3, some (.int c), z5, z6, z7] ∧ Mu H I1 H1 pp (.lst (xs.map V.int)) ∧ xs.length ≤ L0 + i
def kPo (H : Hp) (x : V) (z3 z4 z6 z7 : Option V) (pp : Addr) (L0 : Nat) (i : Nat) (σ : L2.St) (I1 H1 : Hp) : Prop :=
  ∃ (z5 : Option V) (xs : List Int) (st : Int), σ = [some x, some (.ref pp), some (.int st), z3, z4, z5, z6, z7] ∧ Mu H I1 H1 pp (.lst (xs.map V.int)) ∧ xs.length = L0 + i
theorem snoc_int {xs : List Int} {c : Int} : xs.map V.int ++ [V.int c] = (xs ++ [c]).map V.int := by rw [List.map_append]; rfl
theorem len_int {xs : List Int} : (xs.map V.int).length = xs.length := List.length_map _
abbrev s__law_pool : Stmt := topS 59
theorem sc__law_pool : FnScope ["_law_script", "_law_pool_here", "_law_state", "_law_k", "_law_cell", "_law_step", "_law_one", "_law_two"] ["_law_script"] (defScope s__law_pool) := ⟨rfl, rfl, rfl, by decide +kernel, rfl, by decide +kernel, by decide +kernel⟩
theorem c__law_pool (D : Dn K mg "_law_pool" s__law_pool ["_law_script"]) (m_range : mg "range" = none) (m_len : mg "len" = none) (m_min : mg "min" = none) (m_int : mg "int" = none) : Cal P w K mg base "_law_pool" (k + 1) (spPool K) := by
  refine D.ok sc__law_pool (fun vs H Q E h => ?_) (fun f cdv A outer s H vs Q E hr h => ?_)
  · obtain ⟨I, a, ns, _, rfl, _⟩ := h
    rfl
  · obtain ⟨I, a, ns, hs, rfl, hS, q⟩ := h
    refine ⟨_, (pss_cons (ps_set (i := 1) sc__law_pool.nd rfl (Or.inl rfl) (pe_lst pa_nil))
      (pss_cons (ps_set (i := 2) sc__law_pool.nd rfl (Or.inl rfl) pe_int)
      (pss_cons (ps_for PassesOwn.never rfl (pi_range1 (by rfl) m_range (pa_cons (pe_callB (call_min2 rfl) (by rfl) m_min (by decide +kernel) (pa_cons (pe_callB call_len_seq (by rfl) m_len PySem.boot_len (pa_cons (pv 0) pa_nil)) (pa_cons pe_int pa_nil))) pa_nil)) (pg_name (i := 3) sc__law_pool.nd rfl (Or.inl rfl))
      (pss_cons (ps_set (i := 4) sc__law_pool.nd rfl (Or.inl rfl) (pe_ix (ix_N K) (pv 0) (pv 3) (fun _ _ => rfl)))
      (pss_cons (ps_set (i := 2) sc__law_pool.nd rfl (Or.inl rfl) (pe_op op_mod (pe_callTy call_int1 (by rfl) m_int (by decide +kernel) (pa_cons (pe_op op_add (pe_op op_add (pe_op op_mul (pv 2) pe_int) (pe_op op_mul (pv 4) pe_int)) (pv 3)) pa_nil)) pe_int))
      (pss_one (ps_if (pt_cmpR op_ge (pv 4) (pe_op op_pow pe_int pe_int) (nomark _))
      (pss_one (ps_for PassesOwn.never rfl (pi_range1 (by rfl) m_range (pa_cons pe_int pa_nil)) (pg_name (i := 5) sc__law_pool.nd rfl (Or.inl rfl))
      (pss_cons (ps_expr (pe_bm PySem.F.plainAttrs_list PySem.F.slot_list_append PySem.F.type_list_append mt_append (pv 1) (pa_cons (pe_op op_mod (pe_callTy call_int1 (by rfl) m_int (by decide +kernel) (pa_cons (pv 4) pa_nil)) pe_int) pa_nil)))
      (pss_one (ps_set (i := 4) sc__law_pool.nd rfl (Or.inl rfl) (pe_op op_fdiv (pv 4) pe_int)))))) (pss_cons (ps_set (i := 6) sc__law_pool.nd rfl (Or.inl rfl) (pe_op op_mod (pe_callTy call_int1 (by rfl) m_int (by decide +kernel) (pa_cons (pe_op op_add (pe_op op_add (pe_op op_mul (pv 4) pe_int) (pe_op op_mul (pv 3) pe_int)) pe_int) pa_nil)) pe_int))
      (pss_cons (ps_set (i := 7) sc__law_pool.nd rfl (Or.inl rfl) (pe_op op_mod (pe_callTy call_int1 (by rfl) m_int (by decide +kernel) (pa_cons (pe_op op_add (pe_op op_add (pe_op op_mul (pv 6) pe_int) (pe_op op_mul (pv 4) pe_int)) (pv 3)) pa_nil)) pe_int))
      (pss_one (ps_set (i := 1) sc__law_pool.nd rfl (Or.inl rfl) (pe_op op_cat (pv 1) (pe_lst (pa_cons (pe_op op_mod (pe_callTy call_int1 (by rfl) m_int (by decide +kernel) (pa_cons (pe_op op_fdiv (pv 6) pe_int) pa_nil)) pe_int) (pa_cons (pe_op op_mod (pe_callTy call_int1 (by rfl) m_int (by decide +kernel) (pa_cons (pv 7) pa_nil)) pe_int) pa_nil)))))))))))))
      (pss_cons (ps_for PassesOwn.never rfl (pi_range1 (by rfl) m_range (pa_cons pe_int pa_nil)) (pg_name (i := 5) sc__law_pool.nd rfl (Or.inl rfl))
      (pss_cons (ps_set (i := 2) sc__law_pool.nd rfl (Or.inl rfl) (pe_op op_mod (pe_callTy call_int1 (by rfl) m_int (by decide +kernel) (pa_cons (pe_op op_add (pe_op op_mul (pv 2) pe_int) pe_int) pa_nil)) pe_int))
      (pss_one (ps_expr (pe_bm PySem.F.plainAttrs_list PySem.F.slot_list_append PySem.F.type_list_append mt_append (pv 1) (pa_cons (pe_op op_mod (pe_callTy call_int1 (by rfl) m_int (by decide +kernel) (pa_cons (pe_op op_fdiv (pv 2) pe_int) pa_nil)) pe_int) pa_nil))))))
      (pss_one (ps_ret (pv 1))))))), ?_⟩
    have pos : ∀ {j : Int}, (0 < j) → (0 < j) := id
    refine ⟨Nat.zero_le _, fun p0 np0 => ?_⟩
    have g1 := Gr.mut (o := .lst []) hs np0
    have m1 : Mu H I (upd H p0 (.lst [])) p0 (.lst []) := ⟨np0, hs.free np0, upd_same⟩
    refine ⟨_, rfl, a, _, rfl, .inl (g1.s.seq hS), _, _, rfl, ?_⟩
    generalize hj : (if (63 : Int) < (((ns.map V.int).length : Nat) : Int) then (63 : Int) else (((ns.map V.int).length : Nat) : Int)) = j
    have j1 : 0 ≤ j ∧ j ≤ 63 ∧ j ≤ (ns.length : Int) := by
      rw [len_int] at hj
      split at hj <;> omega
    refine ⟨j, rfl, by omega, by omega, for_src (iPo H (.ref a)) (src_rng (n := j.toNat)) g1 ⟨none, none, none, none, none, p0, [], 17, rfl, m1, Nat.le_refl _⟩ ?_ ?_⟩
    · rintro i e xv σ1 I3 H3 I4 H4 he g3 e3 ⟨z3, z4, z5, z6, z7, pp, xs, st, rfl, mf, xl⟩ g4 re
      have re : xv = vN e := re
      subst re
      obtain ⟨hi, ei⟩ : i < j.toNat ∧ e = i := by
        have h1 := (List.getElem?_eq_some_iff.mp he).1
        rw [List.length_range] at h1
        rw [List.getElem?_range h1] at he
        exact ⟨h1, (Option.some.inj he).symm⟩
      subst ei
      have mf := mf.up g4
      have gg := g3.trans g4
      have e4 := e3.trans g4.i
      have hin : e < ns.length := by omega
      have hSH : SqL K H4 a (ns.map V.int) := (gg.s).seq (gg.i.seq hS)
      refine ⟨_, rfl, _, rfl, a, _, e, _, rfl, rfl, hSH, get_map (List.getElem?_eq_getElem hin), ?_⟩
      generalize ns[e] = cell
      refine ⟨_, rfl, _, _, rfl, rfl, .inr ⟨by decide, by decide⟩, _, rfl, _, _, rfl, rfl, .inr ⟨by decide, by decide⟩, _, _, rfl, rfl, _, rfl, _, _, rfl, rfl, .inl ⟨_, rfl, _, _, rfl, rfl, (show (0 : Int) < 2147483647 by decide), ?_⟩⟩
      refine ⟨_, rfl, 10, 18, rfl, rfl, ⟨by decide, by decide, by decide⟩, _, _, rfl, rfl, _, rfl, ite2 (fun c => ?_) (fun c => ?_)⟩
      · refine ⟨60, rfl, by decide, by decide, for_src (jPo H (.ref a) (some (vN e)) z6 z7 pp _ xs.length) (src_rng (n := 60)) gg ⟨z5, xs, cell, rfl, mf, Nat.le_refl _⟩ ?_ ?_⟩
        · rintro i2 e2 xv σ2 I5 H5 I6 H6 he2 g5 e5 ⟨z5', xs', c', rfl, mf', xl'⟩ g6 re
          have re : xv = vN e2 := re
          subst re
          have h60 : i2 < 60 := by have := (List.getElem?_eq_some_iff.mp he2).1; rw [List.length_range] at this; exact this
          have mf' := mf'.up g6
          refine ⟨_, rfl, .inl ⟨rfl, _, sqH mf'.h⟩, _, rfl, .inl ⟨_, rfl, _, _, rfl, rfl, (show (0 : Int) < 60 by decide), pp, _, _, rfl, rfl, mf'.h, line_lt (by rw [len_int]; omega), ?_⟩⟩
          refine ⟨_, rfl, _, _, rfl, rfl, ⟨by decide, by decide⟩, I6, (g5.trans g6).put mf', e5.trans g6.i, _, xs' ++ [c' % 60], _, rfl, by rw [← snoc_int]; exact mf'.set, by rw [List.length_append]; show xs'.length + 1 ≤ _; omega⟩
        · rintro σ2 I5 H5 g5 e5 ⟨z5', xs', c', rfl, mf', xl'⟩
          rw [List.length_range] at xl'
          exact ⟨I5, g5, e4.trans e5, _, _, _, _, _, pp, xs', _, rfl, mf', by omega⟩
      · refine ⟨_, rfl, _, _, rfl, rfl, .inr ⟨by decide, by decide⟩, _, rfl, _, _, rfl, rfl, .inr ⟨by decide, by decide⟩, _, _, rfl, rfl, _, _, rfl, rfl, .inl ⟨_, rfl, _, _, rfl, rfl, (show (0 : Int) < 2147483647 by decide), ?_⟩⟩
        refine ⟨_, rfl, _, _, rfl, rfl, .inr ⟨by decide, by decide⟩, _, rfl, _, _, rfl, rfl, .inr ⟨by decide, by decide⟩, _, _, rfl, rfl, _, rfl, _, _, rfl, rfl, .inl ⟨_, rfl, _, _, rfl, rfl, (show (0 : Int) < 1000003 by decide), ?_⟩⟩
        refine ⟨_, rfl, _, rfl, _, _, rfl, rfl, ⟨by decide, by decide⟩, .inl ⟨_, rfl, _, _, rfl, rfl, (show (0 : Int) < 60 by decide), _, rfl, .inl ⟨_, rfl, _, _, rfl, rfl, (show (0 : Int) < 60 by decide), by show 2 ≤ sizeLine; decide, fun q0 nq => ?_⟩⟩⟩
        have g5 := Gr.mut (o := .lst [.int (((cell * 48271 + (e : Int) * 69621 + 7) % 2147483647) / 11 % 60), .int (((((cell * 48271 + (e : Int) * 69621 + 7) % 2147483647) * 16807 + cell * 31 + (e : Int)) % 1000003) % 60)]) gg.s nq
        have mf5 := mf.up g5
        have gg5 := gg.trans g5
        refine ⟨pp, q0, _, _, rfl, rfl, mf5.h, upd_same, line_le (by rw [len_int]; show xs.length + 2 ≤ 100000; omega), fun pn npn => ?_⟩
        have g6 := Gr.mut (o := .lst (xs.map V.int ++ [.int (((cell * 48271 + (e : Int) * 69621 + 7) % 2147483647) / 11 % 60), .int (((((cell * 48271 + (e : Int) * 69621 + 7) % 2147483647) * 16807 + cell * 31 + (e : Int)) % 1000003) % 60)])) gg5.s npn
        have mn := Mu.new (o := .lst (xs.map V.int ++ [.int (((cell * 48271 + (e : Int) * 69621 + 7) % 2147483647) / 11 % 60), .int (((((cell * 48271 + (e : Int) * 69621 + 7) % 2147483647) * 16807 + cell * 31 + (e : Int)) % 1000003) % 60)])) gg5 npn
        have ex : xs.map V.int ++ [.int (((cell * 48271 + (e : Int) * 69621 + 7) % 2147483647) / 11 % 60), .int (((((cell * 48271 + (e : Int) * 69621 + 7) % 2147483647) * 16807 + cell * 31 + (e : Int)) % 1000003) % 60)] = (xs ++ [((cell * 48271 + (e : Int) * 69621 + 7) % 2147483647) / 11 % 60, ((((cell * 48271 + (e : Int) * 69621 + 7) % 2147483647) * 16807 + cell * 31 + (e : Int)) % 1000003) % 60]).map V.int := by rw [List.map_append]; rfl
        exact ⟨I4, gg5.trans g6, e4, _, _, _, _, _, pn, xs ++ [((cell * 48271 + (e : Int) * 69621 + 7) % 2147483647) / 11 % 60, ((((cell * 48271 + (e : Int) * 69621 + 7) % 2147483647) * 16807 + cell * 31 + (e : Int)) % 1000003) % 60], _, rfl, by rw [← ex]; exact mn, by rw [List.length_append]; show xs.length + 2 ≤ _; omega⟩
    · rintro σ1 I3 H3 g3 e3 ⟨z3, z4, z5, z6, z7, pp, xs, st, rfl, mf, xl⟩
      rw [List.length_range] at xl
      refine ⟨300, rfl, by decide, by decide, for_src (kPo H (.ref a) z3 z4 z6 z7 pp xs.length) (src_rng (n := 300)) g3 ⟨z5, xs, st, rfl, mf, rfl⟩ ?_ ?_⟩
      · rintro i2 e2 xv σ2 I5 H5 I6 H6 he2 g5 e5 ⟨z5', xs', st', rfl, mf', xl'⟩ g6 re
        have re : xv = vN e2 := re
        subst re
        have h3 : i2 < 300 := by have := (List.getElem?_eq_some_iff.mp he2).1; rw [List.length_range] at this; exact this
        have mf' := mf'.up g6
        refine ⟨_, rfl, _, _, rfl, rfl, .inr ⟨by decide, by decide⟩, _, _, rfl, rfl, .inl ⟨_, rfl, _, _, rfl, rfl, (show (0 : Int) < 2147483647 by decide), ?_⟩⟩
        refine ⟨_, rfl, .inl ⟨rfl, _, sqH mf'.h⟩, _, rfl, _, _, rfl, rfl, ⟨by decide, by decide⟩, .inl ⟨_, rfl, _, _, rfl, rfl, (show (0 : Int) < 60 by decide), pp, _, _, rfl, rfl, mf'.h, line_lt (by rw [len_int]; omega), ?_⟩⟩
        exact ⟨I6, (g5.trans g6).put mf', e5.trans g6.i, _, xs' ++ [((st' * 48271 + 11) % 2147483647) / 97 % 60], _, rfl, by rw [← snoc_int]; exact mf'.set, by rw [List.length_append]; show xs'.length + 1 = _; omega⟩
      · rintro σ2 I5 H5 g5 e5 ⟨z5', xs', st', rfl, mf', xl'⟩
        rw [List.length_range] at xl'
        exact ⟨_, rfl, q pp I5 H5 xs' g5 mf' (by omega) (by omega)⟩
def spStream (K : PySem.W.Frag) : Sp := fun vs H Q _ => ∃ I a, ∃ ns : List Int, Same I H ∧ vs = [.ref a] ∧ SqL K I a (ns.map V.int) ∧ ∀ D I' H' (c : Int) (xs : List Int), Gr I H I' H' → Mu H I' H' D (.lst (.int c :: xs.map V.int)) → 300 ≤ xs.length → xs.length ≤ 5000 → Q (.ref D) H'
abbrev s__law_stream : Stmt := topS 60
theorem sc__law_stream : FnScope ["_law_script"] ["_law_script"] (defScope s__law_stream) := ⟨rfl, rfl, rfl, by decide +kernel, rfl, by decide +kernel, by decide +kernel⟩
theorem c__law_stream (D : Dn K mg "_law_stream" s__law_stream ["_law_script"]) (c__law_pool : Cal P w K mg base "_law_pool" k (spPool K)) : Cal P w K mg base "_law_stream" (k + 1) (spStream K) := by
  refine D.ok sc__law_stream (fun vs H Q E h => ?_) (fun f cdv A outer s H vs Q E hr h => ?_)
  · obtain ⟨I, a, ns, _, rfl, _⟩ := h
    rfl
  · obtain ⟨I, a, ns, hs, rfl, hS, q⟩ := h
    refine ⟨_, (pss_one (ps_ret (pe_op op_cat (pe_lst (pa_cons pe_int pa_nil)) (pe_c c__law_pool hr (by rfl) (pa_cons (pv 0) pa_nil))))), ?_⟩
    refine ⟨by show 1 ≤ sizeLine; decide, fun l nl => ?_⟩
    have g1 := Gr.mut (o := .lst [.int 0]) hs nl
    have m1 : Mu H I (upd H l (.lst [.int 0])) l (.lst [.int 0]) := ⟨nl, hs.free nl, upd_same⟩
    refine ⟨_, rfl, I, a, ns, g1.s, rfl, hS, fun D1 I1 H1 xs g2 mu x1 x2 => ?_⟩
    have gg := g1.trans g2
    refine ⟨l, D1, _, _, rfl, rfl, (m1.up g2).h, mu.h, line_le (by rw [len_int]; show 1 + xs.length ≤ 100000; omega), fun p np => ?_⟩
    exact q p I1 _ 0 xs (gg.trans (Gr.mut gg.s np)) (Mu.new gg np) x1 x2
def spPick : Sp := fun vs H Q _ => ∃ (p : Addr) (c : Int) (xs : List Int) (many : Nat), vs = [.ref p, vN many] ∧ H p = some (.lst (.int c :: xs.map V.int)) ∧ 1 ≤ xs.length ∧ xs.length ≤ 5000 ∧ 1 ≤ many ∧ ∀ (r : Nat) (c' : Int), r < many → Q (vN r) (upd H p (.lst (.int c' :: xs.map V.int)))
abbrev s__law_pick : Stmt := topS 61
theorem sc__law_pick : FnScope ["_law_pool_here", "_law_many"] ["_law_pool_here", "_law_many"] (defScope s__law_pick) := ⟨rfl, rfl, rfl, by decide +kernel, rfl, by decide +kernel, by decide +kernel⟩
theorem c__law_pick (D : Dn K mg "_law_pick" s__law_pick ["_law_pool_here", "_law_many"]) (m_len : mg "len" = none) (m_int : mg "int" = none) : Cal P w K mg base "_law_pick" (k + 1) spPick := by
  refine D.ok sc__law_pick (fun vs H Q E h => ?_) (fun f cdv A outer s H vs Q E hr h => ?_)
  · obtain ⟨p, c, xs, many, rfl, _⟩ := h
    rfl
  · obtain ⟨p, c, xs, many, rfl, hp, x1, x2, m1, q⟩ := h
    refine ⟨_, (pss_cons (ps_asg (pe_op op_add pe_int (pe_op op_mod (pe_callTy call_int1 (by rfl) m_int (by decide +kernel) (pa_cons (pe_ix (ix_N K) (pv 0) pe_int (fun _ _ => rfl)) pa_nil)) (pe_op op_sub (pe_callB call_len_seq (by rfl) m_len PySem.boot_len (pa_cons (pv 0) pa_nil)) pe_int))) (pg_sub (pv 0) pe_int set_N))
      (pss_one (ps_ret (pe_op op_mod (pe_callTy call_int1 (by rfl) m_int (by decide +kernel) (pa_cons (pe_ix (ix_N K) (pv 0) (pe_ix (ix_N K) (pv 0) pe_int (fun _ _ => rfl)) (fun _ _ => rfl)) pa_nil)) (pv 1))))), ?_⟩
    have hl : (((V.int c :: xs.map V.int).length : Nat) : Int) - 1 = (xs.length : Int) := by rw [List.length_cons, len_int]; omega
    refine ⟨_, rfl, p, _, 0, _, rfl, rfl, sqH hp, rfl, .inl ⟨_, rfl, _, rfl, p, _, rfl, .inl (sqH hp), _, _, rfl, rfl, _, _, rfl, rfl, (by rw [hl]; omega), _, _, rfl, rfl, _, rfl, p, _, 0, rfl, rfl, hp, by simp, ?_⟩⟩
    rw [hl]
    have hm := Int.emod_nonneg c (show (xs.length : Int) ≠ 0 by omega)
    have hm2 := Int.emod_lt_of_pos c (show (0 : Int) < xs.length by omega)
    obtain ⟨j, hj⟩ : ∃ j : Nat, c % (xs.length : Int) = (j : Int) := ⟨(c % (xs.length : Int)).toNat, by omega⟩
    rw [hj] at hm2
    rw [hj]
    have hjl : xs.length > j := by omega
    have hget : (V.int ((1 + j : Nat) : Int) :: xs.map V.int)[1 + j]? = some (.int xs[j]) := by
      rw [Nat.add_comm 1 j]
      show (xs.map V.int)[j]? = _
      rw [List.getElem?_map, List.getElem?_eq_getElem hjl]; rfl
    refine ⟨_, rfl, _, rfl, p, _, 0, _, rfl, rfl, sqH upd_same, rfl, p, _, 1 + j, _, rfl, rfl, sqH upd_same, hget, .inl ⟨_, rfl, _, rfl, _, _, rfl, rfl, (show (0 : Int) < (many : Int) by omega), ?_⟩⟩
    have h3 := Int.emod_nonneg xs[j] (show (many : Int) ≠ 0 by omega)
    have h4 := Int.emod_lt_of_pos xs[j] (show (0 : Int) < many by omega)
    have := q (xs[j] % (many : Int)).toNat ((1 + j : Nat) : Int) (by omega)
    have e2 : vN (xs[j] % (many : Int)).toNat = V.int (xs[j] % (many : Int)) := by
      show V.int _ = V.int _
      congr 1
      omega
    rw [e2] at this
    exact this
end
end OC
namespace OC
open PySem PySem.Spec PyProof.Rows L2
def Shu (G : Gm) (most : Nat) (S : List Nat) : Prop := ∀ y ∈ S, ∀ t, Ed G y t → mkOf G t ≤ most → t ∈ S
/-- what is reached so far -/
structure Rd1 (G : Gm) (b most : Nat) (i : Nat) (S : List Nat) : Prop where
  sound : ∀ q ∈ S, Pt (Ed G) (fun v => mkOf G v ≤ most) b q
  base : ∀ t, Ed G b t → mkOf G t ≤ most → t ∈ S
  more : Shu G most S ∨ i + 1 ≤ cnt G.length (fun x => x ∈ S)
  lt : ∀ q ∈ S, q < G.length
  len : S.length ≤ 24
section
variable {G : Gm} {b most i : Nat} {S S' : List Nat}
theorem Rd1.next (h : Rd1 G b most i S) (w : Wf G) (e : ∀ q, q ∈ S' ↔ q ∈ S ∨ ∃ y ∈ S, Ed G y q ∧ mkOf G q ≤ most) (hl : S'.length ≤ 24) : Rd1 G b most (i + 1) S' where
  sound := fun q hq => (((e q).mp hq).elim (h.sound q) fun ⟨y, hy, h1, h2⟩ => (h.sound y hy).snoc h1 h2)
  base := fun t h1 h2 => (e t).mpr (.inl (h.base t h1 h2))
  lt := fun q hq => ((e q).mp hq).elim (h.lt q) fun ⟨y, hy, h1, h2⟩ => w.ed h1
  len := hl
  more := by
    by_cases c : Shu G most S
    · refine .inl fun y hy t h1 h2 => ?_
      have hy' : y ∈ S := ((e y).mp hy).elim id fun ⟨z, hz, a1, a2⟩ => c z hz y a1 a2
      exact (e t).mpr (.inl (c y hy' t h1 h2))
    · refine .inr ?_
      have h1 := h.more.resolve_left c
      have : ∃ y ∈ S, ∃ t, Ed G y t ∧ mkOf G t ≤ most ∧ t ∉ S := Classical.byContradiction fun z => c fun y hy t a1 a2 => Classical.byContradiction fun a3 => z ⟨y, hy, t, a1, a2, a3⟩
      obtain ⟨y, hy, t, a1, a2, a3⟩ := this
      have := cnt_lt (n := G.length) (P := fun x => x ∈ S) (Q := fun x => x ∈ S') (fun x _ hx => (e x).mpr (.inl hx)) (w.ed a1) ((e t).mpr (.inr ⟨y, hy, a1, a2⟩)) a3
      omega
theorem Rd1.fin (h : Rd1 G b most G.length S) (q : Nat) : q ∈ S ↔ Pt (Ed G) (fun v => mkOf G v ≤ most) b q := by
  have shut : Shu G most S := h.more.resolve_right fun z => by
    have : cnt G.length (fun x => x ∈ S) ≤ G.length := cnt_bound
    omega
  refine ⟨h.sound q, fun a => ?_⟩
  obtain ⟨v, h1, h2, h3⟩ := a.first
  have hv := h.base v h1 h2
  rcases h3 with z | z
  · exact z ▸ hv
  · exact z.stays (T := fun x => x ∈ S) hv fun x y hx r s => shut x hx y r s
end
section
variable {P : Program} {w : World} {K : PySem.W.Frag} {mg : Str → Option Value} {base : Heap} {k : Nat}
def spWays (K : PySem.W.Frag) : Sp := fun vs H Q _ => ∃ I G b most x, Same I H ∧ vs = [x, vN b, vN most] ∧ (rG K).rel G x I ∧ Wf G ∧ NoDraw G ∧ b < G.length ∧ ∀ v I' H' S, Gr I H I' H' → rNs.rel S v I' → (∀ q, q ∈ S ↔ Pt (Ed G) (fun v => mkOf G v ≤ most) b q) → S.length ≤ 24 → Q v H'
def iWy (H : Hp) (G : Gm) (b most : Nat) (x : V) (i : Nat) (σ : L2.St) (I1 H1 : Hp) : Prop :=
  ∃ (z4 z5 z6 : Option V) (ps : Addr) (S : List Nat), σ = [some x, some (vN b), some (vN most), some (.ref ps), z4, z5, z6, none] ∧ I1 ps = some (.lst (S.map vN)) ∧ Rd1 G b most i S
def jWy (H : Hp) (G : Gm) (b most : Nat) (x : V) (ps : Addr) (z4 : Option V) (S : List Nat) (i : Nat) (σ : L2.St) (I1 H1 : Hp) : Prop :=
  ∃ (z6 : Option V) (pm : Addr) (M : List Nat), σ = [some x, some (vN b), some (vN most), some (.ref ps), z4, some (.ref pm), z6, none] ∧ Mu H I1 H1 pm (.lst (M.map vN)) ∧ (∀ q, q ∈ M ↔ q ∈ S ∨ ∃ y ∈ S.take i, Ed G y q ∧ mkOf G q ≤ most) ∧ M.length ≤ 24 + 6 * i
abbrev s__law_ways : Stmt := topS 62
theorem sc__law_ways : FnScope ["_law_game", "_law_begin", "_law_most", "_law_seen", "_law_turn", "_law_more", "_law_one", "_law_x"] ["_law_game", "_law_begin", "_law_most"] (defScope s__law_ways) := ⟨rfl, rfl, rfl, by decide +kernel, rfl, by decide +kernel, by decide +kernel⟩
theorem c__law_ways (D : Dn K mg "_law_ways" s__law_ways ["_law_game", "_law_begin", "_law_most"]) (m_range : mg "range" = none) (m_len : mg "len" = none) (m_list : mg "list" = none) (m_sorted : mg "sorted" = none) (m_set : mg "set" = none) (c__law_goals : Cal P w K mg base "_law_goals" k (spLGoals K)) :
    Cal P w K mg base "_law_ways" (k + 1) (spWays K) := by
  refine D.ok sc__law_ways (fun vs H Q E h => ?_) (fun f cdv A outer s H vs Q E hr h => ?_)
  · obtain ⟨I, G, b, most, x, _, rfl, _⟩ := h
    rfl
  · obtain ⟨I, G, b, most, x, hs, rfl, hG, hw, nd, hb, q⟩ := h
    refine ⟨_, (pss_cons (ps_setLc (i := 3) (own := [("_law_x", 7)]) (g := gName 7) (by rfl) sc__law_ways.nd rfl rfl (sw_true rfl rfl rfl (by decide +kernel)) (pi_list (pe_c c__law_goals hr (by rfl) (pa_cons (pe_ix (ix_N K) (pv 0) (pv 1) (fun _ _ => rfl)) pa_nil))) (blkOk_by (own := [("_law_x", 7)]) (N := ["_law_game", "_law_begin", "_law_most", "_law_seen", "_law_turn", "_law_more", "_law_one", "_law_x"]) (sc := defScope s__law_ways) (by decide +kernel)) (fun _ _ _ _ _ => (pg_name (i := 7) sc__law_ways.nd rfl (Or.inl rfl))) (fun _ _ _ _ _ => pts_one (pt_cmpR op_le (pe_ix (ix_tupK K) (pe_ix (ix_N K) (pv 0) (pv 7) (fun _ _ => rfl)) pe_int (fun _ _ => rfl)) (pv 2) (nomark _))) (fun _ _ _ _ _ => (pv 7)))
      (pss_cons (ps_for PassesOwn.never rfl (pi_range1 (by rfl) m_range (pa_cons (pe_callB call_len_seq (by rfl) m_len PySem.boot_len (pa_cons (pv 0) pa_nil)) pa_nil)) (pg_name (i := 4) sc__law_ways.nd rfl (Or.inl rfl))
      (pss_cons (ps_set (i := 5) sc__law_ways.nd rfl (Or.inl rfl) (pe_callTy call_list_of (by rfl) m_list (by decide +kernel) (pa_cons (pv 3) pa_nil)))
      (pss_cons (ps_for PassesOwn.never rfl (pi_list (pv 3)) (pg_name (i := 6) sc__law_ways.nd rfl (Or.inl rfl))
      (pss_one (ps_set (i := 5) sc__law_ways.nd rfl (Or.inl rfl) (pe_op op_cat (pv 5) (pe_lc (own := [("_law_x", 7)]) (g := gName 7) rfl sc__law_ways.nd (pi_list (pe_c c__law_goals hr (by rfl) (pa_cons (pe_ix (ix_N K) (pv 0) (pv 6) (fun _ _ => rfl)) pa_nil))) (blkOk_by (own := [("_law_x", 7)]) (N := ["_law_game", "_law_begin", "_law_most", "_law_seen", "_law_turn", "_law_more", "_law_one", "_law_x"]) (sc := defScope s__law_ways) (by decide +kernel)) (fun _ _ _ _ _ => (pg_name (i := 7) sc__law_ways.nd rfl (Or.inl rfl))) (fun _ _ _ _ _ => pts_one (pt_cmpR op_le (pe_ix (ix_tupK K) (pe_ix (ix_N K) (pv 0) (pv 7) (fun _ _ => rfl)) pe_int (fun _ _ => rfl)) (pv 2) (nomark _))) (fun _ _ _ _ _ => (pv 7)))))))
      (pss_one (ps_set (i := 3) sc__law_ways.nd rfl (Or.inl rfl) (pe_callB (cr_sortedSetK rfl w) (by rfl) m_sorted (by decide +kernel) (pa_cons (pe_callTy (cr_mkSet rfl K w) (by rfl) m_set (by decide +kernel) (pa_cons (pv 5) pa_nil)) pa_nil)))))))
      (pss_one (ps_ret (pv 3))))), ?_⟩
    have clen := hw.len
    obtain ⟨a, xs, rfl, h1, h2⟩ := hG
    have xlen : xs.length = G.length := paired_len h2
    have hG : ∀ {I'}, Same I I' → (rG K).rel G (.ref a) I' := fun e => (rG K).up ⟨a, xs, rfl, h1, h2⟩ e
    -- the steps from a place, in the form that goals wants
    have goal_at : ∀ {p : Nat} {I1 H1 : Hp}, p < G.length → Gr I H I1 H1 → ∃ y, xs[p]? = some y ∧ ∃ pl, (rP K).rel pl y I1 ∧ pl.ts = tsOf G p ∧ pl.kd ≠ .draw := fun {p I1 H1} hp g => by
      obtain ⟨pl, hpl⟩ := pl_at hp
      obtain ⟨y, hy, ry⟩ := paired_get h2 hpl
      exact ⟨y, hy, pl, (rP K).up ry g.i, (ts_at hpl).symm, by rw [← kd_at hpl]; exact nd p hp⟩
    obtain ⟨y0, hy0, pl0, r0, t0, k0⟩ := goal_at hb (Gr.refl hs)
    refine ⟨_, rfl, _, rfl, a, xs, b, _, rfl, rfl, sqH (hs _ _ h1), hy0, I, pl0, _, hs, rfl, r0, k0, fun D1 I1 H1 g1 mu1 => ?_⟩
    rw [t0] at mu1
    have gs1 := g1.stop mu1
    have tl := (hw.some b hb).2
    refine ⟨D1, rfl, ⟨_, sqH mu1.h⟩, lc_flat (v := vN) (f := fun t => decide (mkOf G t ≤ most)) (m := fun t => t) (src_listF upd_same) gs1.s (by omega) (fun e xe I2 H2 he re g2 Qg kk => ?_) (fun ps I2 H2 g2 mu2 => ?_)⟩
    · have re : xe = vN e := re
      subst re
      refine kk _ rfl (fun Q2 q2 => ?_) (fun I3 H3 g3 _ Q2 q2 => ⟨_, rfl, q2 _ I3 H3 (Gr.refl g3.s) rfl⟩)
      obtain ⟨a', xs', d, cc, ea, p1, p2, p3, _⟩ := place_at (hG ((gs1.trans g2).i)) g2.s (hw.to b hb e he)
      cases ea
      refine ⟨_, rfl, _, rfl, a, xs', e, _, rfl, rfl, p1, p2, d, _, 0, _, rfl, rfl, p3, rfl, _, rfl, _, _, rfl, rfl, _, rfl, ?_⟩
      rw [le_nat]
      exact q2 I2 H2 (Gr.refl g2.s)
    rw [map_same] at mu2
    have gs2 := gs1.trans (g2.stop mu2)
    generalize hS0 : (tsOf G b).filter (fun t => decide (mkOf G t ≤ most)) = S0 at mu2 gs2
    have memS0 : ∀ t, t ∈ S0 ↔ Ed G b t ∧ mkOf G t ≤ most := fun t => by rw [← hS0, List.mem_filter, decide_eq_true_iff]; rfl
    have rd0 : Rd1 G b most 0 S0 := by
      refine ⟨fun t ht => .one ((memS0 t).mp ht).1 ((memS0 t).mp ht).2, fun t h1 h2 => (memS0 t).mpr ⟨h1, h2⟩, ?_, fun t ht => hw.ed ((memS0 t).mp ht).1, by rw [← hS0]; exact Nat.le_trans (List.length_filter_le _ _) (by omega)⟩
      by_cases c : S0 = []
      · exact .inl fun y hy => absurd hy (by rw [c]; simp)
      · obtain ⟨t, ht⟩ := List.exists_mem_of_ne_nil _ c
        have := cnt_lt (n := G.length) (P := fun _ => False) (Q := fun x => x ∈ S0) (fun _ _ z => z.elim) (hw.ed ((memS0 t).mp ht).1) ht id
        exact .inr (by omega)
    refine ⟨_, rfl, a, xs, rfl, .inl (sqH (gs2.s _ _ (gs2.i _ _ h1))), _, rfl, by omega, by omega, for_src (iWy H G b most (.ref a)) (src_rng (n := xs.length)) gs2 ⟨none, none, none, ps, S0, rfl, upd_same, rd0⟩ ?_ ?_⟩
    · rintro i e xv σ1 I3 H3 I4 H4 he g3 e3 ⟨z4, z5, z6, ps, S, rfl, hps, rd⟩ g4 re
      have gg := g3.trans g4
      have hps4 := g4.i _ _ hps
      have slen := rd.len
      refine ⟨_, rfl, ps, _, rfl, .inl (sqH (g4.s _ _ hps4)), fun pm npm => ?_⟩
      have g5 := gg.trans (Gr.mut (o := .lst (S.map vN)) gg.s npm)
      have m5 := Mu.new (o := .lst (S.map vN)) gg npm
      refine ⟨_, rfl, ps, rfl, ⟨_, sqH (g5.s _ _ hps4)⟩, for_src (jWy H G b most (.ref a) ps _ S) (src_listF hps4) g5 ⟨z6, pm, S, rfl, m5, fun q => ⟨.inl, fun z => z.elim id fun ⟨y, hy, _⟩ => absurd hy (by simp)⟩, by omega⟩ ?_ ?_⟩
      · rintro j y xv σ2 I6 H6 I7 H7 hy g6 e6 ⟨z6', pm', M, rfl, mm, hM, ml⟩ g7 re
        have re : xv = vN y := re
        subst re
        have mm := mm.up g7
        have gg7 := g6.trans g7
        have hyS : y ∈ S := List.mem_of_getElem? hy
        have hyn := rd.lt y hyS
        have hj : j < 24 := by have := (List.getElem?_eq_some_iff.mp hy).1; omega
        obtain ⟨yv, hyv, pl, rp, tp, kp⟩ := goal_at hyn gg7
        have tl2 := (hw.some y hyn).2
        refine ⟨_, rfl, _, rfl, _, rfl, a, xs, y, _, rfl, rfl, sqH (gg7.s _ _ (gg7.i _ _ h1)), hyv, I7, pl, _, gg7.s, rfl, rp, kp, fun D8 I8 H8 g8 mu8 => ?_⟩
        rw [tp] at mu8
        have gs8 := g8.stop mu8
        refine ⟨D8, rfl, ⟨_, sqH mu8.h⟩, lc_flat (v := vN) (f := fun t => decide (mkOf G t ≤ most)) (m := fun t => t) (src_listF upd_same) gs8.s (by omega) (fun e xe I9 H9 he re g9 Qg kk => ?_) (fun p9 I9 H9 g9 mu9 => ?_)⟩
        · have re : xe = vN e := re
          subst re
          refine kk _ rfl (fun Q2 q2 => ?_) (fun Ia Ha ga _ Q2 q2 => ⟨_, rfl, q2 _ Ia Ha (Gr.refl ga.s) rfl⟩)
          obtain ⟨a', xs', d, cc, ea, p1, p2, p3, _⟩ := place_at (hG (((gg7.trans gs8).trans g9).i)) g9.s (hw.to y hyn e he)
          cases ea
          refine ⟨_, rfl, _, rfl, a, xs', e, _, rfl, rfl, p1, p2, d, _, 0, _, rfl, rfl, p3, rfl, _, rfl, _, _, rfl, rfl, _, rfl, ?_⟩
          rw [le_nat]
          exact q2 I9 H9 (Gr.refl g9.s)
        rw [map_same] at mu9
        have g79 := gs8.trans g9
        have mm9 := mm.up g79
        have gg9 := gg7.trans g79
        have fl := List.length_filter_le (fun t => decide (mkOf G t ≤ most)) (tsOf G y)
        refine ⟨pm', p9, _, _, rfl, rfl, mm9.h, mu9.h, line_le (by rw [len_nat, len_nat]; omega), fun pn npn => ?_⟩
        have gn := Gr.mut (o := .lst (M.map vN ++ ((tsOf G y).filter fun t => decide (mkOf G t ≤ most)).map vN)) gg9.s npn
        have mn := Mu.new (o := .lst (M.map vN ++ ((tsOf G y).filter fun t => decide (mkOf G t ≤ most)).map vN)) gg9 npn
        rw [← List.map_append] at mn
        refine ⟨I9, gg9.trans gn, e6.trans (g7.i.trans g79.i), _, pn, M ++ (tsOf G y).filter fun t => decide (mkOf G t ≤ most), rfl, ?_, fun q => ?_, by rw [List.length_append]; omega⟩
        · rw [← List.map_append]; exact mn
        · rw [List.mem_append, hM q, List.take_add_one, hy, List.mem_filter, decide_eq_true_iff]
          constructor
          · rintro ((z | ⟨u, hu, z⟩) | z)
            · exact .inl z
            · exact .inr ⟨u, List.mem_append_left _ hu, z⟩
            · exact .inr ⟨y, by simp, z⟩
          · rintro (z | ⟨u, hu, z⟩)
            · exact .inl (.inl z)
            · rcases List.mem_append.mp hu with v | v
              · exact .inl (.inr ⟨u, v, z⟩)
              · rw [List.mem_singleton.mp v] at z; exact .inr z
      · rintro σ2 I6 H6 g6 e6 ⟨z6', pm', M, rfl, mm, hM, ml⟩
        rw [List.take_length] at hM
        have Mlt : ∀ q ∈ M, q < G.length := fun q hq => ((hM q).mp hq).elim (rd.lt q) fun ⟨y, _, h1, _⟩ => hw.ed h1
        refine ⟨_, rfl, pm', M, G.length, rfl, sqH mm.h, by omega, Mlt, fun pa c npa hc => ?_⟩
        have g7 := g6.trans (Gr.mut (o := SetO w pa (fun j => decide (j ∈ M.map fun n : Nat => (n : Int))) c) g6.s npa)
        refine ⟨pa, _, c, rfl, upd_same, by omega, fun ns pn hpw hmem hnl npn => ?_⟩
        have ens : ns.map V.int = (ns.map Int.toNat).map vN := by
          rw [List.map_map]
          refine List.map_congr_left fun k hk => ?_
          obtain ⟨n, _, e⟩ := List.mem_map.mp (of_decide_eq_true ((hmem k).mp hk))
          show V.int k = V.int ((k.toNat : Nat) : Int)
          congr 1
          omega
        rw [ens]
        have g8 := g7.trans (Gr.imm (o := .lst ((ns.map Int.toNat).map vN)) g7.s npn)
        refine ⟨_, g8, (g4.i.trans e6 |> fun z => e3.trans z).trans (Same.new (g7.s.free npn)), _, _, _, pn, ns.map Int.toNat, rfl, upd_same, rd.next hw (fun q => ?_) (by rw [List.length_map, hnl]; omega)⟩
        rw [← hM q]
        constructor
        · intro hq
          obtain ⟨k, hk, e⟩ := List.mem_map.mp hq
          obtain ⟨n, hn, e'⟩ := List.mem_map.mp (of_decide_eq_true ((hmem k).mp hk))
          have : q = n := by omega
          rw [this]; exact hn
        · intro hq
          exact List.mem_map.mpr ⟨(q : Int), (hmem _).mpr (decide_eq_true (List.mem_map.mpr ⟨q, hq, rfl⟩)), by omega⟩
    · rintro σ1 I3 H3 g3 e3 ⟨z4, z5, z6, ps, S, rfl, hps, rd⟩
      rw [List.length_range, xlen] at rd
      exact ⟨_, rfl, q (.ref ps) I3 H3 S g3 ⟨ps, rfl, hps⟩ rd.fin rd.len⟩
end
end OC
namespace OC
open PySem PySem.Spec PyProof.Rows L2
/-! ### two lists of whole numbers compared -/
def dQ (z : Int) : PyData := .tuple [.int z, .int 1]
section
variable {K : PySem.W.Frag} {I H : Hp}
theorem dp_Qs (s : Same I H) : ∀ {zs : List Int} {xs : List V}, Paired (fun z x => (rQ K).rel z x I) zs xs → DpAll K H xs (zs.map dQ)
  | _, _, .nil => .nil
  | _, _, .cons ⟨a, e, h⟩ t => by
    subst e
    exact .cons (dp_Q _ (rdT h s)) (dp_Qs s t)
theorem eqv_Qs : ∀ zs ws : List Int, PyData.eqvAll (zs.map dQ) (ws.map dQ) = decide (zs = ws)
  | [], [] => rfl
  | [], _ :: _ => rfl
  | _ :: _, [] => rfl
  | a :: l, b :: m => by
    have ih := eqv_Qs l m
    show (PyData.eqv (dQ a) (dQ b) && PyData.eqvAll (l.map dQ) (m.map dQ)) = _
    rw [ih, show PyData.eqv (dQ a) (dQ b) = decide (a = b) from eqv_Q]
    by_cases h1 : a = b <;> by_cases h2 : l = m <;> simp [h1, h2]
theorem shaped_Qs (l : List Int) : SeqAt.shaped (.list (l.map dQ)) = true := by
  have h : ∀ l : List Int, PyData.canLayAll0 (l.map dQ) = true ∧ PyData.depthAll (l.map dQ) ≤ 2 := by
    intro l
    induction l with
    | nil => exact ⟨rfl, by decide⟩
    | cons a l ih => exact ⟨ih.1, Nat.max_le.mpr ⟨by simp [dQ, PyData.depth, PyData.depthAll], ih.2⟩⟩
  have h := h l
  show (PyData.canLayAll0 (l.map dQ) && decide (PyData.depthAll (l.map dQ) + 1 ≤ 64)) = true
  rw [h.1, decide_eq_true (by omega)]
  rfl
def rEqQs (K : PySem.W.Frag) : R2 := fun x y H Q => ∃ (p q : Addr) (xs ys : List V) (zs ws : List Int), x = .ref p ∧ y = .ref q ∧ SqL K H p xs ∧ SqL K H q ys ∧ DpAll K H xs (zs.map dQ) ∧ DpAll K H ys (ws.map dQ) ∧ Q (.bl (decide (zs = ws))) H
theorem op_eqQs {X : Cx} (K : PySem.W.Frag) (hu : X.A.units + 64 < cLine) (h : X.K = K := by rfl) : OpR X (compareOp .Eq) (rEqQs K) := h ▸ OpR.imp (op_eqD hu) fun x y H Q ⟨p, r, xs, ys, zs, ws, e1, e2, h1, h2, d1, d2, q⟩ => by
  subst e1 e2
  refine ⟨_, _, .lst h1 d1, .lst h2 d2, shaped_Qs zs, shaped_Qs ws, ?_⟩
  have e : PyData.eqv (.list (zs.map dQ)) (.list (ws.map dQ)) = PyData.eqvAll (zs.map dQ) (ws.map dQ) := by simp only [PyData.eqv]
  rw [e, eqv_Qs]
  exact q
end
/-! ### a comprehension that picks -/
theorem upd_id {H : Hp} {p : Addr} {o : HO} (h : H p = some o) : upd H p o = H := funext fun b => by
  by_cases c : b = p
  · rw [c, upd_same, h]
  · rw [upd_ne c]
theorem upd_two {H : Hp} {p D : Addr} {a b c d : HO} (ne : p ≠ D) : upd (upd (upd (upd H p a) D b) p c) D d = upd (upd H p c) D d := funext fun q => by
  by_cases c1 : q = D
  · rw [c1, upd_same, upd_same]
  · rw [upd_ne c1, upd_ne c1]
    by_cases c2 : q = p
    · rw [c2, upd_same, upd_same]
    · rw [upd_ne c2, upd_ne c1, upd_ne c2, upd_ne c2]
theorem lc_pick {j n many : Nat} {p : Addr} {c : Int} {xs : List Int} {te : TE} {vs : List Nat} {σ : L2.St} {H : Hp} {Qd : Addr → Hp → Prop} (hn : n ≤ 100) (hp : H p = some (.lst (.int c :: xs.map V.int))) (hw : ∀ x, wipe ((wipe σ vs).set j (some x)) vs = wipe σ vs)
    (ht : ∀ x H2 c2 Q, H2 p = some (.lst (.int c2 :: xs.map V.int)) → (∀ (r : Nat) (c' : Int), r < many → Q (vN r) (upd H2 p (.lst (.int c' :: xs.map V.int)))) → te ((wipe σ vs).set j (some x)) H2 Q)
    (q : ∀ D c' (rs : List Nat), H D = none → rs.length = n → (∀ r ∈ rs, r < many) → Qd D (upd (upd H p (.lst (.int c' :: xs.map V.int))) D (.lst (rs.map vN)))) : LcW (Itr 0 n) (gName j) tYes te vs σ H Qd := by
  intro D hD
  have ne : p ≠ D := ne_of_none hp hD
  refine ⟨fun i k H' => k = n - i ∧ i ≤ n ∧ ∃ (c' : Int) (rs : List Nat), H' = upd (upd H p (.lst (.int c' :: xs.map V.int))) D (.lst (rs.map vN)) ∧ rs.length = i ∧ ∀ r ∈ rs, r < many, ⟨n, rfl, Nat.zero_le _, c, [], by rw [upd_id hp]; rfl, rfl, fun r hr => absurd hr (by simp)⟩, ?_⟩
  rintro i k H1 ⟨rfl, hi, c', rs, rfl, hl, hr⟩
  by_cases hlt : i < n
  · refine .inr ⟨hlt, fun H' => ∃ (c' : Int) (rs : List Nat), H' = upd (upd H p (.lst (.int c' :: xs.map V.int))) D (.lst (rs.map vN)) ∧ rs.length = i + 1 ∧ ∀ r ∈ rs, r < many, fun H' h => ⟨n - (i + 1), by omega, rfl, hlt, h⟩, ?_⟩
    rintro x H' ⟨rfl, hx⟩
    have yes : ∀ (Q : Bool → Hp → Prop) (σ : L2.St) (H : Hp), Q true H → tYes σ H Q := fun _ _ _ h => h
    refine ⟨hw x, yes _ _ _ ?_⟩
    refine (if_pos rfl).mpr ?_
    refine ht x _ c' _ (by rw [upd_ne ne, upd_same]) fun r c2 hrm => ⟨rs.map vN, by rw [upd_ne ne.symm, upd_same], line_lt (by rw [len_nat]; omega), c2, rs ++ [r], ?_, by rw [List.length_append, hl]; rfl, fun y hy => ?_⟩
    · rw [upd_two ne, List.map_append]; rfl
    · rcases List.mem_append.mp hy with z | z
      · exact hr y z
      · rw [List.mem_singleton.mp z]; exact hrm
  · have ei : i = n := by omega
    subst ei
    exact .inl ⟨Nat.le_refl _, q D c' rs hD hl hr⟩
theorem orVj {c : Bool} {te : TE} {σ : L2.St} {I H : Hp} {Q : VK} {P : Bool → Prop} (s : Same I H) (h1 : c = true → P true) (h2 : c = false → Ev te σ I H fun v _ => ∃ b, v = .bl b ∧ P b) (q : ∀ b I' H', Gr I H I' H' → P b → Q (.bl b) H') : if c = true then Q (.bl true) H else te σ H Q := by
  cases c with
  | true => exact q true I H (Gr.refl s) (h1 rfl)
  | false => exact h2 rfl Q fun v I' H' g ⟨b, e, hb⟩ => by subst e; exact q b I' H' g hb
/-! ### the plain law -/
def wv (sd : Kd) : Nat := if sd = .theirs then 1 else 0
/-- a game of the law: only one side has a choice -/
structure LGm (G : Gm) (sd : Kd) : Prop where
  wf : Wf G
  nd : NoDraw G
  one : ∀ p, p < G.length → kdOf G p = sd ∨ (tsOf G p).length = 1
open Classical in
noncomputable def dueV (G : Gm) (sd : Kd) (p : Nat) : Int := if (Comes (Ed G) (mkOf G) (wv sd) p ↔ sd = .ours) then 1 else 0
theorem one_step {G : Gm} {p a b : Nat} (h : (tsOf G p).length = 1) (ha : Ed G p a) (hb : Ed G p b) : a = b := by
  unfold Ed at ha hb
  match hts : tsOf G p, h with
  | [z], _ => rw [hts] at ha hb; rw [List.mem_singleton.mp ha, List.mem_singleton.mp hb]
theorem law_plain {G : Gm} {sd : Kd} {s : List (Option Nat)} (hsd : sd ≠ .draw) (l : LGm G sd) (f : Fin G s) : (List.range G.length).map (nOf G s) = (List.range G.length).map (dueV G sd) := by
  refine List.map_congr_left (fun p hp => ?_)
  have hp := List.mem_range.mp hp
  have key : ∀ {c d : Prop}, (ZeroS G s p ↔ c) → ((Comes (Ed G) (mkOf G) (wv sd) p ↔ sd = .ours) ↔ ¬ c) → nOf G s p = dueV G sd p := fun {c d} h1 h2 => by
    by_cases z : ZeroS G s p
    · rw [(nOf_0 f.st).mpr z]
      unfold dueV
      rw [if_neg (fun y => h2.mp y (h1.mp z))]
    · rw [(nOf_1 f.st).mpr z]
      unfold dueV
      rw [if_pos (h2.mpr fun y => z (h1.mpr y))]
  cases sd with
  | draw => exact absurd rfl hsd
  | ours =>
    obtain ⟨sg, hk⟩ := f.keep
    have eo : own G .theirs = fun p => ¬ own G .ours p := funext fun p => propext (own_oth (sd := .ours) (fun z => by cases z) p)
    rw [eo] at hk
    have e := end_ours (own := own G .ours) (E := Ed G) (mk := mkOf G) (tau := tgOf G s) (n := G.length) (fun p q _ e => l.wf.ed e) (fun p hp o => (f.st.at hp (own_ours.mp o)).2.2) (fun p hp => by
      have := (l.wf.some p hp).1
      obtain ⟨t, ht⟩ := List.exists_mem_of_length_pos (l := tsOf G p) (by omega)
      exact ⟨t, ht⟩) (fun p hp ho a b ha hb => one_step ((l.one p hp).resolve_left fun z => ho (own_ours.mpr z)) ha hb) f.no hk hp
    refine key (d := True) e ?_
    show (Comes (Ed G) (mkOf G) 0 p ↔ Kd.ours = Kd.ours) ↔ ¬ ¬ Comes (Ed G) (mkOf G) 0 p
    simp
  | theirs =>
    have e := end_theirs (own := own G .ours) (E := Ed G) (mk := mkOf G) (tau := tgOf G s) (p := p) (fun p o => (f.st.at (own_lt o) (own_ours.mp o)).2.2) fun p o a b ha hb => one_step ((l.one p (own_lt o)).resolve_left fun z => by rw [own_ours.mp o] at z; cases z) ha hb
    refine key (d := True) e ?_
    show (Comes (Ed G) (mkOf G) 1 p ↔ Kd.theirs = Kd.ours) ↔ ¬ Comes (Ed G) (mkOf G) 1 p
    have : ¬ Kd.theirs = Kd.ours := fun z => by cases z
    simp [this]
end OC
namespace OC
open PySem PySem.Spec PyProof.Rows L2
section
variable {P : Program} {w : World} {K : PySem.W.Frag} {mg : Str → Option Value} {base : Heap} {k : Nat}
def spLaw (K : PySem.W.Frag) : Sp := fun vs H Q _ => ∃ (a : Addr) (ns : List Int), vs = [.ref a] ∧ SqL K H a (ns.map V.int) ∧ ∀ H', Q (.bl true) H'
theorem six_at {r : Nat} (h : r < 6) : ∃ n : Nat, 1 ≤ n ∧ n ≤ 5 ∧ ([.int 1, .int 2, .int 2, .int 3, .int 1, .int 5] : List V)[r]? = some (vN n) := by
  match r, h with
  | 0, _ => exact ⟨1, by decide, by decide, rfl⟩
  | 1, _ => exact ⟨2, by decide, by decide, rfl⟩
  | 2, _ => exact ⟨2, by decide, by decide, rfl⟩
  | 3, _ => exact ⟨3, by decide, by decide, rfl⟩
  | 4, _ => exact ⟨1, by decide, by decide, rfl⟩
  | 5, _ => exact ⟨5, by decide, by decide, rfl⟩
theorem two_at {r : Nat} (h : r < 2) : ∃ kd : Kd, kd ≠ .draw ∧ ([.str "ours", .str "theirs"] : List V)[r]? = some (.str (kS kd)) := by
  match r, h with
  | 0, _ => exact ⟨.ours, (fun z => by cases z), rfl⟩
  | 1, _ => exact ⟨.theirs, (fun z => by cases z), rfl⟩
def PlOk (m : Nat) (sd : Kd) (pl : Pl) : Prop := pl.mark ≤ 9 ∧ pl.kd ≠ .draw ∧ 1 ≤ pl.ts.length ∧ pl.ts.length ≤ 6 ∧ (∀ t ∈ pl.ts, t < m) ∧ (pl.kd = sd ∨ pl.ts.length = 1)
def iGa (K : PySem.W.Frag) (H : Hp) (m : Nat) (sd : Kd) (x : V) (pp pg : Addr) (xs : List Int) (i : Nat) (σ : L2.St) (I1 H1 : Hp) : Prop :=
  ∃ (z5 z6 z7 : Option V) (c : Int) (Gl : Gm) (ys : List V), σ = [some x, some (.ref pp), some (vN m), some (.str (kS sd)), some (.ref pg), z5, z6, z7, none, none, none, none, none, none] ∧ Mu H I1 H1 pp (.lst (.int c :: xs.map V.int)) ∧ Mu H I1 H1 pg (.lst ys) ∧
    Paired (fun pl v => (rP K).rel pl v I1) Gl ys ∧ Gl.length = i ∧ ∀ pl ∈ Gl, PlOk m sd pl
def iWh (H : Hp) (G : Gm) (m : Nat) (sd : Kd) (x wz : V) (pp pg pw : Addr) (z6 z7 : Option V) (i : Nat) (σ : L2.St) (I1 H1 : Hp) : Prop :=
  ∃ (z5 : Option V) (W : List Nat), σ = [some x, some (.ref pp), some (vN m), some (.str (kS sd)), some (.ref pg), z5, z6, z7, some wz, some (.ref pw), none, none, none, none] ∧ Mu H I1 H1 pw (.lst (W.map vN)) ∧
    (∀ q, q ∈ W ↔ q < i ∧ mkOf G q % 2 = wv sd ∧ Wheel (Ed G) (mkOf G) q) ∧ W.length ≤ i
def iDu (K : PySem.W.Frag) (H : Hp) (G : Gm) (m : Nat) (sd : Kd) (x wz : V) (pp pg pw pd : Addr) (z6 z7 : Option V) (i : Nat) (σ : L2.St) (I1 H1 : Hp) : Prop :=
  ∃ (z5 z11 : Option V) (ys : List V), σ = [some x, some (.ref pp), some (vN m), some (.str (kS sd)), some (.ref pg), z5, z6, z7, some wz, some (.ref pw), some (.ref pd), z11, none, none] ∧ Mu H I1 H1 pd (.lst ys) ∧ Paired (fun z v => (rQ K).rel z v I1) ((List.range i).map (dueV G sd)) ys
theorem wv_int {sd : Kd} (hsd : sd ≠ .draw) : (if decide (V.str (kS sd) = V.str "theirs") = true then (1 : Int) else 0) = (wv sd : Int) := by
  cases sd with
  | draw => exact absurd rfl hsd
  | ours => decide +kernel
  | theirs => decide +kernel
theorem par_wv {G : Gm} {p : Nat} {sd : Kd} : decide (V.int ((mkOf G p : Int) % 2) = V.int (wv sd : Int)) = decide (mkOf G p % 2 = wv sd) := decide_eq_decide.mpr ⟨fun z => by injection z with z; omega, fun z => by congr 1; omega⟩
theorem due_int {G : Gm} {p : Nat} {sd : Kd} (hsd : sd ≠ .draw) {b : Bool} (h : b = true ↔ Comes (Ed G) (mkOf G) (wv sd) p) : (if decide (V.bl b = V.bl (decide (V.str (kS sd) = V.str "ours"))) = true then (1 : Int) else 0) = dueV G sd p := by
  have e1 : decide (V.str (kS sd) = V.str "ours") = decide (sd = .ours) := kS_inj (b := .ours)
  rw [e1]
  unfold dueV
  rw [← h]
  cases b with
  | true =>
    by_cases c : sd = .ours
    · simp [c]
    · simp [c]
  | false =>
    by_cases c : sd = .ours
    · simp [c]
    · simp [c]
theorem game_ok {m : Nat} {sd : Kd} {G : Gm} (hm : G.length = m) (h24 : m ≤ 24) (h : ∀ pl ∈ G, PlOk m sd pl) : LGm G sd := by
  have at_ : ∀ p, p < G.length → ∃ pl, G[p]? = some pl ∧ PlOk m sd pl := fun p hp => by
    obtain ⟨pl, e⟩ := pl_at hp
    exact ⟨pl, e, h pl (List.mem_of_getElem? e)⟩
  refine ⟨⟨by omega, fun p hp => ?_, fun p hp => ?_, fun p hp t ht => ?_, fun p hp hd => ?_⟩, fun p hp => ?_, fun p hp => ?_⟩
  · obtain ⟨pl, e, h1, h2, h3, h4, h5, h6⟩ := at_ p hp
    rw [mk_at e]; exact h1
  · obtain ⟨pl, e, h1, h2, h3, h4, h5, h6⟩ := at_ p hp
    rw [ts_at e]; exact ⟨h3, h4⟩
  · obtain ⟨pl, e, h1, h2, h3, h4, h5, h6⟩ := at_ p hp
    rw [ts_at e] at ht; rw [hm]; exact h5 t ht
  · obtain ⟨pl, e, h1, h2, h3, h4, h5, h6⟩ := at_ p hp
    rw [kd_at e] at hd; exact absurd hd h2
  · obtain ⟨pl, e, h1, h2, h3, h4, h5, h6⟩ := at_ p hp
    rw [kd_at e]; exact h2
  · obtain ⟨pl, e, h1, h2, h3, h4, h5, h6⟩ := at_ p hp
    rw [kd_at e, ts_at e]; exact h6
/-- it comes to a wheel that the law has found -/
theorem comes_law {G : Gm} {sd : Kd} {W S : List Nat} {p : Nat} (w : Wf G) (hp : p < G.length) (hW : ∀ q, q ∈ W ↔ q < G.length ∧ mkOf G q % 2 = wv sd ∧ Wheel (Ed G) (mkOf G) q) (hS : ∀ q, q ∈ S ↔ Pt (Ed G) (fun v => mkOf G v ≤ 9) p q) :
    ((S.map fun t => decide (t ∈ W)).any id = true ∨ p ∈ W) ↔ Comes (Ed G) (mkOf G) (wv sd) p := by
  have lt : ∀ {q}, Pt (Ed G) Any p q → q < G.length := fun a => a.stays (T := fun y => y < G.length) hp fun x y _ r _ => w.ed r
  constructor
  · rintro (h | h)
    · obtain ⟨b, hb, e⟩ := List.any_eq_true.mp h
      obtain ⟨t, ht, rfl⟩ := List.mem_map.mp hb
      have ht2 := (hW t).mp (of_decide_eq_true e)
      exact ⟨t, .inr (((hS t).mp ht).mono (fun _ _ h => h) fun _ _ => trivial), ht2.2.1, ht2.2.2⟩
    · have := (hW p).mp h
      exact ⟨p, .inl rfl, this.2.1, this.2.2⟩
  · rintro ⟨q, e, m, wh⟩
    rcases e with rfl | e
    · exact .inr ((hW q).mpr ⟨hp, m, wh⟩)
    · refine .inl (List.any_eq_true.mpr ⟨true, List.mem_map.mpr ⟨q, (hS q).mpr ?_, decide_eq_true ((hW q).mpr ⟨lt e, m, wh⟩)⟩, rfl⟩)
      have : Pt (Ed G) (fun y => Any y ∧ y < G.length) p q := Pt.within (T := fun y => y < G.length) e hp fun x y hx r _ => ⟨w.ed r, r⟩
      exact this.mono (fun _ _ h => h) fun v hv => w.mark v hv.2
abbrev s_law : Stmt := topS 63
theorem sc_law : FnScope ["_law_script", "_law_pool_here", "_law_many", "_law_side", "_law_game", "_law_k", "_law_aims", "_law_kind", "_law_wanted", "_law_wheels", "_law_due", "_law_comes", "_law_n", "_law_x"] ["_law_script"] (defScope s_law) := ⟨rfl, rfl, rfl, by decide +kernel, rfl, by decide +kernel, by decide +kernel⟩
theorem c_law {f : Addr} {fd : FuncData} (F : Fun K "law" "law" s_law f fd) (m_range : mg "range" = none) (m_len : mg "len" = none) (m_int : mg "int" = none) (m_any : mg "any" = none) (c__law_stream : Cal P w K mg base "_law_stream" k (spStream K)) (c__law_pick : Cal P w K mg base "_law_pick" k spPick) (c__law_ways : Cal P w K mg base "_law_ways" k (spWays K)) (c_values : Cal P w K mg base "values" k (spValues K)) :
    FnOk P w K mg base CX0 (k + 1) f fd ["_law_script"] (spLaw K) := by
  refine F.ok sc_law (fun vs H Q E h => ?_) (fun cdv A outer s H vs Q E hr h => ?_)
  · obtain ⟨a, ns, rfl, _⟩ := h
    rfl
  · obtain ⟨a, ns, rfl, hS, q⟩ := h
    refine ⟨_, (pss_cons (ps_set (i := 1) sc_law.nd rfl (Or.inr rfl) (pe_c c__law_stream hr (by rfl) (pa_cons (pv 0) pa_nil)))
      (pss_cons (ps_set (i := 2) sc_law.nd rfl (Or.inr rfl) (pe_op op_add pe_int (pe_c c__law_pick hr (by rfl) (pa_cons (pv 1) (pa_cons pe_int pa_nil)))))
      (pss_cons (ps_set (i := 3) sc_law.nd rfl (Or.inl rfl) (pe_ix (ix_N K) (pe_lst (pa_cons pe_str (pa_cons pe_str pa_nil))) (pe_c c__law_pick hr (by rfl) (pa_cons (pv 1) (pa_cons pe_int pa_nil))) (fun _ _ => rfl)))
      (pss_cons (ps_set (i := 4) sc_law.nd rfl (Or.inl rfl) (pe_lst pa_nil))
      (pss_cons (ps_for PassesOwn.never rfl (pi_range1 (by rfl) m_range (pa_cons (pv 2) pa_nil)) (pg_name (i := 5) sc_law.nd rfl (Or.inl rfl))
      (pss_cons (ps_setLc (i := 6) (own := [("_law_n", 12)]) (g := gName 12) (by rfl) sc_law.nd rfl rfl (sw_true rfl rfl rfl (by decide +kernel)) (pi_range1 (by rfl) m_range (pa_cons (pe_ix (ix_N K) (pe_lst (pa_cons pe_int (pa_cons pe_int (pa_cons pe_int (pa_cons pe_int (pa_cons pe_int (pa_cons pe_int pa_nil))))))) (pe_c c__law_pick hr (by rfl) (pa_cons (pv 1) (pa_cons pe_int pa_nil))) (fun _ _ => rfl)) pa_nil)) (blkOk_by (own := [("_law_n", 12)]) (N := ["_law_script", "_law_pool_here", "_law_many", "_law_side", "_law_game", "_law_k", "_law_aims", "_law_kind", "_law_wanted", "_law_wheels", "_law_due", "_law_comes", "_law_n", "_law_x"]) (sc := defScope s_law) (by decide +kernel)) (fun _ _ _ _ _ => (pg_name (i := 12) sc_law.nd rfl (Or.inl rfl))) (fun _ _ _ _ _ => pts_nil) (fun _ _ _ _ _ => (pe_c c__law_pick hr (by rfl) (pa_cons (pv 1) (pa_cons (pv 2) pa_nil)))))
      (pss_cons (ps_set (i := 7) sc_law.nd rfl (Or.inl rfl) (pv 3))
      (pss_cons (ps_if (pt_cmpR op_eq (pe_callB call_len_seq (by rfl) m_len PySem.boot_len (pa_cons (pv 6) pa_nil)) pe_int (nomark _))
      (pss_one (ps_set (i := 7) sc_law.nd rfl (Or.inl rfl) (pe_ix (ix_N K) (pe_lst (pa_cons pe_str (pa_cons pe_str pa_nil))) (pe_c c__law_pick hr (by rfl) (pa_cons (pv 1) (pa_cons pe_int pa_nil))) (fun _ _ => rfl)))) pss_nil)
      (pss_one (ps_expr (pe_bm PySem.F.plainAttrs_list PySem.F.slot_list_append PySem.F.type_list_append mt_append (pv 4) (pa_cons (pe_tup (pa_cons (pe_c c__law_pick hr (by rfl) (pa_cons (pv 1) (pa_cons pe_int pa_nil))) (pa_cons (pv 7) (pa_cons (pv 6) pa_nil)))) pa_nil))))))))
      (pss_cons (ps_set (i := 8) sc_law.nd rfl (Or.inl rfl) (pe_callTy call_int1 (by rfl) m_int (by decide +kernel) (pa_cons (pe_cmpR op_eq (pv 3) pe_str (nomark _)) pa_nil)))
      (pss_cons (ps_set (i := 9) sc_law.nd rfl (Or.inr rfl) (pe_lst pa_nil))
      (pss_cons (ps_for PassesOwn.never rfl (pi_range1 (by rfl) m_range (pa_cons (pv 2) pa_nil)) (pg_name (i := 5) sc_law.nd rfl (Or.inl rfl))
      (pss_one (ps_if (PW.pt (pw_and (pt_cmpR op_eq (pe_op op_mod (pe_callTy call_int1 (by rfl) m_int (by decide +kernel) (pa_cons (pe_ix (ix_tupK K) (pe_ix (ix_N K) (pv 4) (pv 5) (fun _ _ => rfl)) pe_int (fun _ _ => rfl)) pa_nil)) pe_int) (pv 8) (nomark _)) (pw_and1 (pt_cmpR (op_inN K) (pv 5) (pe_c c__law_ways hr (by rfl) (pa_cons (pv 4) (pa_cons (pv 5) (pa_cons (pe_ix (ix_tupK K) (pe_ix (ix_N K) (pv 4) (pv 5) (fun _ _ => rfl)) pe_int (fun _ _ => rfl)) pa_nil)))) (by rfl)))))
      (pss_one (ps_expr (pe_bm PySem.F.plainAttrs_list PySem.F.slot_list_append PySem.F.type_list_append mt_appN (pv 9) (pa_cons (pv 5) pa_nil)))) pss_nil)))
      (pss_cons (ps_set (i := 10) sc_law.nd rfl (Or.inl rfl) (pe_lst pa_nil))
      (pss_cons (ps_for PassesOwn.never rfl (pi_range1 (by rfl) m_range (pa_cons (pv 2) pa_nil)) (pg_name (i := 5) sc_law.nd rfl (Or.inl rfl))
      (pss_cons (ps_set (i := 11) sc_law.nd rfl (Or.inl rfl) (pe_or (pe_cmpR (op_inN K) (pv 5) (pv 9) (by rfl)) (pe_one (pe_callB (cr_any rfl) (by rfl) m_any (by decide +kernel) (pa_cons (pe_lc (own := [("_law_x", 13)]) (g := gName 13) rfl sc_law.nd (pi_list (pe_c c__law_ways hr (by rfl) (pa_cons (pv 4) (pa_cons (pv 5) (pa_cons pe_int pa_nil))))) (blkOk_by (own := [("_law_x", 13)]) (N := ["_law_script", "_law_pool_here", "_law_many", "_law_side", "_law_game", "_law_k", "_law_aims", "_law_kind", "_law_wanted", "_law_wheels", "_law_due", "_law_comes", "_law_n", "_law_x"]) (sc := defScope s_law) (by decide +kernel)) (fun _ _ _ _ _ => (pg_name (i := 13) sc_law.nd rfl (Or.inl rfl))) (fun _ _ _ _ _ => pts_nil) (fun _ _ _ _ _ => (pe_cmpR (op_inN K) (pv 13) (pv 9) (by rfl)))) pa_nil)))))
      (pss_one (ps_expr (pe_bm PySem.F.plainAttrs_list PySem.F.slot_list_append PySem.F.type_list_append mt_append (pv 10) (pa_cons (pe_tup (pa_cons (pe_callTy call_int1 (by rfl) m_int (by decide +kernel) (pa_cons (pe_cmpR op_eq (pv 11) (pe_cmpR op_eq (pv 3) pe_str (nomark _)) (nomark _)) pa_nil)) (pa_cons pe_int pa_nil))) pa_nil))))))
      (pss_one (ps_ret (pe_cmpR (op_eqQs K hr.units) (pe_c c_values hr (by rfl) (pa_cons (pv 4) pa_nil)) (pv 10) (nomark _)))))))))))))), ?_⟩
    have s0 : Same H H := Same.refl H
    refine ⟨_, rfl, H, a, ns, s0, rfl, hS, fun pp I1 H1 c xs g1 mp x1 x2 => ?_⟩
    have x1 : 1 ≤ xs.length := by omega
    -- many
    refine ⟨_, rfl, pp, c, xs, 14, rfl, mp.h, x1, x2, by decide, fun r1 c1 hr1 => ⟨_, _, rfl, rfl, ?_⟩⟩
    have em : V.int (3 + (r1 : Int)) = vN (3 + r1) := by
      show V.int _ = V.int _
      congr 1
    have g2 := g1.put (u := .lst (.int c1 :: xs.map V.int)) mp
    have mp := mp.set (u := .lst (.int c1 :: xs.map V.int))
    -- side
    refine ⟨by show 2 ≤ sizeLine; decide, fun l nl => ?_⟩
    have b3 := Gr.mut (o := .lst [.str "ours", .str "theirs"]) g2.s nl
    have g3 := g2.trans b3
    have lpp : pp ≠ l := mp.ne nl
    have mp := mp.up b3
    refine ⟨_, rfl, pp, c1, xs, 2, rfl, mp.h, x1, x2, by decide, fun r2 c2 hr2 => ?_⟩
    obtain ⟨sd, hsd, hget⟩ := two_at hr2
    have g4 := g3.put (u := .lst (.int c2 :: xs.map V.int)) mp
    have mp := mp.set (u := .lst (.int c2 :: xs.map V.int))
    refine ⟨l, _, r2, _, rfl, rfl, sqH (by rw [upd_ne lpp.symm]; exact upd_same), hget, ?_⟩
    -- game
    refine ⟨Nat.zero_le _, fun pg npg => ?_⟩
    have b5 := Gr.mut (o := .lst []) g4.s npg
    have g5 := g4.trans b5
    have mg' := Mu.new (o := .lst []) g4 npg
    have nsw : pp ≠ pg := mp.ne npg
    have mp := mp.up b5
    have hm3 : 3 + r1 ≤ 16 := by omega
    have hm1 : 1 ≤ 3 + r1 := by omega
    refine ⟨_, rfl, _, rfl, by omega, by omega, for_src (iGa K H (3 + r1) sd (.ref a) pp pg xs) (src_rng (n := (3 + r1))) g5 ⟨none, none, none, c2, [], [], rfl, mp, mg', .nil, rfl, fun pl hpl => absurd hpl (by simp)⟩ ?_ ?_⟩
    · clear mp mg' g5 b5 npg g4 hget lpp nl g3 b3 g2
      rintro i e xv σ1 I3 H3 I4 H4 he g3 e3 ⟨z5, z6, z7, c, Gl, ys, rfl, mp, mg', pr, gl, hg⟩ g4 re
      have re : xv = vN e := re
      subst re
      obtain ⟨him, ei⟩ : i < (3 + r1) ∧ e = i := by
        have h1 := (List.getElem?_eq_some_iff.mp he).1
        rw [List.length_range] at h1
        rw [List.getElem?_range h1] at he
        exact ⟨h1, (Option.some.inj he).symm⟩
      subst ei
      have mp := mp.up g4
      have mg' := mg'.up g4
      have gg := g3.trans g4
      have e4 := e3.trans g4.i
      -- how many aims
      refine ⟨by show 6 ≤ sizeLine; decide, fun l nl => ?_⟩
      have b5 := Gr.mut (o := .lst [.int 1, .int 2, .int 2, .int 3, .int 1, .int 5]) gg.s nl
      have g5 := gg.trans b5
      have lpp : pp ≠ l := mp.ne nl
      have mp := mp.up b5
      have mg' := mg'.up b5
      refine ⟨_, rfl, pp, c, xs, 6, rfl, mp.h, x1, x2, by decide, fun r2 c2 hr2 => ?_⟩
      obtain ⟨cnt, n1, n5, hget⟩ := six_at hr2
      have g6 := g5.put (u := .lst (.int c2 :: xs.map V.int)) mp
      have mg6 := mg'.other (u := .lst (.int c2 :: xs.map V.int)) nsw.symm
      have mp6 := mp.set (u := .lst (.int c2 :: xs.map V.int))
      refine ⟨l, _, r2, _, rfl, rfl, sqH (by rw [upd_ne lpp.symm]; exact upd_same), hget, _, rfl, by omega, by omega, lc_pick (j := 12) (n := cnt) (many := (3 + r1)) (by omega) mp6.h (fun x => rfl) (fun x H2 c3 Q2 hH2 hq2 => ⟨_, rfl, _, rfl, pp, c3, xs, (3 + r1), rfl, hH2, x1, x2, hm1, hq2⟩) fun D c3 rs nD hrl hrs => ?_⟩
      have g7 := g6.put (u := .lst (.int c3 :: xs.map V.int)) mp6
      have ppD : pp ≠ D := mp6.ne nD
      have nD' : (upd (upd (upd H4 l (.lst [.int 1, .int 2, .int 2, .int 3, .int 1, .int 5])) pp (.lst (.int c2 :: xs.map V.int))) pp (.lst (.int c3 :: xs.map V.int))) D = none := by rw [upd_ne ppD.symm]; exact nD
      have mp7 := mp6.set (u := .lst (.int c3 :: xs.map V.int))
      have mg7 := mg6.other (u := .lst (.int c3 :: xs.map V.int)) nsw.symm
      have b8 := Gr.imm (o := .lst (rs.map vN)) g7.s nD'
      have g8 := g7.trans b8
      have mp8 := mp7.up b8
      have mg8 := mg7.up b8
      have e8 := e4.trans b8.i
      have hD8 : (upd I4 D (.lst (rs.map vN))) D = some (.lst (rs.map vN)) := upd_same
      have yl : ys.length ≤ 24 := by rw [paired_len pr]; omega
      have fin : ∀ (kd : Kd) (c9 : Int) (H9 : Hp), kd ≠ .draw → (kd = sd ∨ rs.length = 1) → Gr H H (upd I4 D (.lst (rs.map vN))) H9 → Mu H (upd I4 D (.lst (rs.map vN))) H9 pp (.lst (.int c9 :: xs.map V.int)) → Mu H (upd I4 D (.lst (rs.map vN))) H9 pg (.lst ys) → ∀ (r10 : Nat) (c10 : Int) (tt : Addr), r10 < 10 →
          (upd H9 pp (.lst (.int c10 :: xs.map V.int))) tt = none → (upd (upd H9 pp (.lst (.int c10 :: xs.map V.int))) tt (.tup [vN r10, .str (kS kd), .ref D])) pg = some (.lst ys) ∧ Nx H H I1 (iGa K H (3 + r1) sd (.ref a) pp pg xs (e + 1)) [some (.ref a), some (.ref pp), some (vN (3 + r1)), some (.str (kS sd)), some (.ref pg), some (vN e), some (.ref D), some (.str (kS kd)), none, none, none, none, none, none]
            (upd (upd (upd H9 pp (.lst (.int c10 :: xs.map V.int))) tt (.tup [vN r10, .str (kS kd), .ref D])) pg (.lst (ys ++ [.ref tt]))) := fun kd c9 H9 hkd hsg g9 mp9 mg9 r10 c10 tt hr10 ntt => by
        have g10 := g9.put (u := .lst (.int c10 :: xs.map V.int)) mp9
        have mp10 := mp9.set (u := .lst (.int c10 :: xs.map V.int))
        have mg10 := mg9.other (u := .lst (.int c10 :: xs.map V.int)) nsw.symm
        have b11 := Gr.imm (o := .tup [vN r10, .str (kS kd), .ref D]) g10.s ntt
        have g11 := g10.trans b11
        have mp11 := mp10.up b11
        have mg11 := mg10.up b11
        refine ⟨mg11.h, _, g11.put mg11, e8.trans b11.i, _, _, _, c10, Gl ++ [⟨r10, kd, rs⟩], ys ++ [.ref tt], rfl, mp11.other nsw, mg11.set, paired_snoc (paired_up pr (g4.i.trans (b8.i.trans b11.i))) ⟨tt, .ref D, rfl, .inl (.inl upd_same), ?_⟩, by rw [List.length_append, gl]; rfl, fun pl hpl => ?_⟩
        · rw [rTs_side hkd]
          exact ⟨D, rfl, b11.i _ _ hD8⟩
        · rcases List.mem_append.mp hpl with z | z
          · exact hg pl z
          · have one := List.mem_singleton.mp z
            rw [one]
            exact ⟨by show r10 ≤ 9; omega, hkd, by show 1 ≤ rs.length; omega, by show rs.length ≤ 6; omega, hrs, hsg⟩
      have pr := paired_up pr g4.i
      refine ⟨_, rfl, _, rfl, D, _, rfl, .inl (sqH (b8.s _ _ hD8)), rfl, _, rfl, ite2 (fun c1 => ?_) (fun c1 => ?_)⟩
      · have c1 : rs.length = 1 := by
          have z := of_decide_eq_true c1
          injection z with z
          rw [len_nat] at z
          omega
        refine ⟨by show 2 ≤ sizeLine; decide, fun l2 nl2 => ?_⟩
        have b9 := Gr.mut (o := .lst [.str "ours", .str "theirs"]) g8.s nl2
        have g9 := g8.trans b9
        have lpp2 : pp ≠ l2 := mp8.ne nl2
        have mp9 := mp8.up b9
        have mg9 := mg8.up b9
        refine ⟨_, rfl, pp, c3, xs, 2, rfl, mp9.h, x1, x2, by decide, fun r5 c5 hr5 => ?_⟩
        obtain ⟨kd, hkd, hget2⟩ := two_at hr5
        have g10 := g9.put (u := .lst (.int c5 :: xs.map V.int)) mp9
        have mg10 := mg9.other (u := .lst (.int c5 :: xs.map V.int)) nsw.symm
        have mp10 := mp9.set (u := .lst (.int c5 :: xs.map V.int))
        refine ⟨l2, _, r5, _, rfl, rfl, sqH (by rw [upd_ne lpp2.symm]; exact upd_same), hget2, _, rfl, .inl ⟨rfl, _, sqH mg10.h⟩, _, rfl, pp, c5, xs, 10, rfl, mp10.h, x1, x2, by decide, fun r10 c10 hr10 => ⟨_, rfl, _, rfl, by show 3 ≤ sizeLine; decide, fun tt ntt => ?_⟩⟩
        obtain ⟨f1, f2⟩ := fin kd c5 _ hkd (.inr c1) g10 mp10 mg10 r10 c10 tt hr10 ntt
        exact ⟨pg, ys, .ref tt, rfl, rfl, f1, line_lt (by omega), f2⟩
      · refine ⟨_, rfl, .inl ⟨rfl, _, sqH mg8.h⟩, _, rfl, pp, c3, xs, 10, rfl, mp8.h, x1, x2, by decide, fun r10 c10 hr10 => ⟨_, rfl, _, rfl, by show 3 ≤ sizeLine; decide, fun tt ntt => ?_⟩⟩
        obtain ⟨f1, f2⟩ := fin sd c3 _ hsd (.inl rfl) g8 mp8 mg8 r10 c10 tt hr10 ntt
        exact ⟨pg, ys, .ref tt, rfl, rfl, f1, line_lt (by omega), f2⟩
    · clear mp mg' g5 b5 npg g4 hget lpp nl g3 b3 g2
      rintro σ1 I3 H3 g3 e3 ⟨z5, z6, z7, c, G, ys, rfl, mp, mg', pr, gl, hg⟩
      rw [List.length_range] at gl
      have lg := game_ok gl (by omega) hg
      have gs := g3.stop mg'
      have hGm : (rG K).rel G (.ref pg) (upd I3 pg (.lst ys)) := ⟨pg, ys, rfl, upd_same, paired_up pr (Same.new mg'.i)⟩
      generalize hI : upd I3 pg (.lst ys) = I4 at gs hGm
      have hG : ∀ {I'}, Same I4 I' → (rG K).rel G (.ref pg) I' := fun e => (rG K).up hGm e
      clear hI mp mg' pr g3 hg
      refine ⟨_, rfl, rfl, .inr ⟨_, rfl, Nat.zero_le _, fun pw npw => ?_⟩⟩
      have ew := wv_int hsd
      have b5 := Gr.mut (o := .lst []) gs.s npw
      have g5 := gs.trans b5
      have mw := Mu.new (o := .lst []) gs npw
      refine ⟨_, rfl, _, rfl, by omega, by omega, for_src (iWh H G (3 + r1) sd (.ref a) _ pp pg pw z6 z7) (src_rng (n := (3 + r1))) g5 ⟨z5, [], rfl, mw, fun q => ⟨fun z => absurd z (by simp), fun z => absurd z.1 (Nat.not_lt_zero q)⟩, Nat.le_refl _⟩ ?_ ?_⟩
      · rintro i e xv σ1 I6 H6 I7 H7 he g6 e6 ⟨z5', W, rfl, mw, hW, wl⟩ g7 re
        have re : xv = vN e := re
        subst re
        obtain ⟨him, ei⟩ : i < (3 + r1) ∧ e = i := by
          have h1 := (List.getElem?_eq_some_iff.mp he).1
          rw [List.length_range] at h1
          rw [List.getElem?_range h1] at he
          exact ⟨h1, (Option.some.inj he).symm⟩
        subst ei
        have mw := mw.up g7
        have gg := g6.trans g7
        have e7 := e6.trans g7.i
        have hen : e < G.length := by omega
        have skip : ¬ (mkOf G e % 2 = wv sd ∧ Wheel (Ed G) (mkOf G) e) → ∀ I8 H8, Gr I7 H7 I8 H8 → Nx H H I4 (iWh H G (3 + r1) sd (.ref a) (V.int (if decide (V.str (kS sd) = V.str "theirs") = true then (1 : Int) else 0)) pp pg pw z6 z7 (e + 1)) [some (.ref a), some (.ref pp), some (vN (3 + r1)), some (.str (kS sd)), some (.ref pg), some (vN e), z6, z7, some (V.int (if decide (V.str (kS sd) = V.str "theirs") = true then (1 : Int) else 0)), some (.ref pw), none, none, none, none] H8 := fun hn I8 H8 g8 =>
          ⟨I8, gg.trans g8, e7.trans g8.i, _, W, rfl, mw.up g8, fun q => (hW q).trans ⟨fun z => ⟨by omega, z.2⟩, fun z => ⟨by
            by_cases c : q = e
            · subst c; exact absurd z.2 hn
            · omega, z.2⟩⟩, by omega⟩
        obtain ⟨a', xs', d, cc, ea, p1, p2, p3, _⟩ := place_at (hG e7) g7.s hen
        cases ea
        refine ⟨_, rfl, _, rfl, pg, xs', e, _, rfl, rfl, p1, p2, d, _, 0, _, rfl, rfl, p3, rfl, .inl ⟨_, rfl, _, _, rfl, rfl, (show (0 : Int) < 2 by decide), _, rfl, rfl, _, rfl, ?_⟩⟩
        have ec : decide (V.int ((mkOf G e : Int) % 2) = V.int (if decide (V.str (kS sd) = V.str "theirs") = true then (1 : Int) else 0)) = decide (mkOf G e % 2 = wv sd) := by rw [ew]; exact par_wv
        by_cases cp : mkOf G e % 2 = wv sd
        · have : decide (V.int ((mkOf G e : Int) % 2) = V.int (if decide (V.str (kS sd) = V.str "theirs") = true then (1 : Int) else 0)) = true := by rw [ec]; exact decide_eq_true cp
          refine (if_pos this).mpr ⟨_, rfl, _, rfl, _, rfl, _, rfl, _, rfl, pg, xs', e, _, rfl, rfl, p1, p2, d, _, 0, _, rfl, rfl, p3, rfl, I7, G, e, mkOf G e, _, g7.s, rfl, hG e7, lg.wf, lg.nd, hen, fun v I8 H8 S g8 ⟨ps, es, hps⟩ hS sl => ?_⟩
          subst es
          refine ⟨ps, S, e, rfl, rfl, sqH (g8.s _ _ hps), _, rfl, ite2 (fun cs => ?_) (fun cs => ?_)⟩
          · have wh : Wheel (Ed G) (mkOf G) e := (hS e).mp (of_decide_eq_true cs)
            have mw8 := mw.up g8
            refine ⟨_, rfl, .inl ⟨rfl, _, sqH mw8.h⟩, _, rfl, pw, W, e, rfl, rfl, mw8.h, by omega, I8, (gg.trans g8).put mw8, e7.trans g8.i, _, W ++ [e], rfl, mw8.set, fun q => ?_, by rw [List.length_append]; show W.length + 1 ≤ e + 1; omega⟩
            rw [List.mem_append, hW q, List.mem_singleton]
            constructor
            · rintro (z | z)
              · exact ⟨by omega, z.2⟩
              · subst z; exact ⟨by omega, cp, wh⟩
            · intro z
              by_cases c : q = e
              · exact .inr c
              · exact .inl ⟨by omega, z.2⟩
          · exact skip (fun z => cs (decide_eq_true ((hS e).mpr z.2))) I8 H8 g8
        · have : decide (V.int ((mkOf G e : Int) % 2) = V.int (if decide (V.str (kS sd) = V.str "theirs") = true then (1 : Int) else 0)) = false := by rw [ec]; exact decide_eq_false cp
          exact (if_neg (by rw [this]; exact Bool.false_ne_true)).mpr (iteF (skip (fun z => cp z.1) I7 H7 (Gr.refl g7.s)))
      · rintro σ1 I6 H6 g6 e6 ⟨z5', W, rfl, mw, hW, wl⟩
        rw [List.length_range] at hW
        rw [← gl] at hW
        have gs6 := g6.stop mw
        have hw4 : (upd I6 pw (.lst (W.map vN))) pw = some (.lst (W.map vN)) := upd_same
        have e6' := e6.trans (Same.new (o := .lst (W.map vN)) mw.i)
        generalize upd I6 pw (.lst (W.map vN)) = I5 at gs6 hw4 e6'
        clear mw g6 e6
        refine ⟨Nat.zero_le _, fun pd npd => ?_⟩
        have b7 := Gr.mut (o := .lst []) gs6.s npd
        have g7 := gs6.trans b7
        have md := Mu.new (o := .lst []) gs6 npd
        refine ⟨_, rfl, _, rfl, by omega, by omega, for_src (iDu K H G (3 + r1) sd (.ref a) _ pp pg pw pd z6 z7) (src_rng (n := (3 + r1))) g7 ⟨z5', none, [], rfl, md, .nil⟩ ?_ ?_⟩
        · rintro i e xv σ1 I8 H8 I9 H9 he g8 e8 ⟨z5'', z11, ys', rfl, md, pr⟩ g9 re
          have re : xv = vN e := re
          subst re
          obtain ⟨him, ei⟩ : i < (3 + r1) ∧ e = i := by
            have h1 := (List.getElem?_eq_some_iff.mp he).1
            rw [List.length_range] at h1
            rw [List.getElem?_range h1] at he
            exact ⟨h1, (Option.some.inj he).symm⟩
          subst ei
          have md := md.up g9
          have gg := g8.trans g9
          have e9 := e8.trans g9.i
          have hen : e < G.length := by omega
          have yl : ys'.length ≤ 24 := by rw [paired_len pr, List.length_map, List.length_range]; omega
          refine ⟨_, rfl, _, rfl, pw, W, e, rfl, rfl, sqH (g9.s _ _ (e9 _ _ hw4)), _, rfl, orVj (I := I9) (P := fun b => b = true ↔ Comes (Ed G) (mkOf G) (wv sd) e) g9.s (fun c => ?_) (fun c => ?_) (fun b Ia Ha ga hb => ?_)⟩
          · have c : e ∈ W := of_decide_eq_true c
            have := (hW e).mp c
            exact ⟨fun _ => ⟨e, .inl rfl, this.2.1, this.2.2⟩, fun _ => rfl⟩
          · have c : e ∉ W := of_decide_eq_false c
            refine fun Q2 q2 => ⟨_, rfl, _, rfl, I9, G, e, 9, _, g9.s, rfl, hG (e6'.trans e9), lg.wf, lg.nd, hen, fun v Ia Ha S ga ⟨ps, es, hps⟩ hS sl => ?_⟩
            subst es
            refine ⟨ps, rfl, ⟨_, sqH (ga.s _ _ hps)⟩, lc_flat (v := V.bl) (f := fun _ => true) (m := fun t => decide (t ∈ W)) (src_listF hps) ga.s (by omega) (fun t xt Ib Hb ht rt gb Qg kk => ?_) (fun Db Ib Hb gb mb => ?_)⟩
            · have rt : xt = vN t := rt
              subst rt
              exact kk _ rfl (evYes gb.s) (fun Ic Hc gc _ Q3 q3 => ⟨_, rfl, _, rfl, pw, W, t, rfl, rfl, sqH (gc.s _ _ ((e9.trans ((ga.i.trans gb.i).trans gc.i)) _ _ hw4)), q3 _ Ic Hc (Gr.refl gc.s) rfl⟩)
            · rw [filter_yes] at mb
              refine ⟨Db, _, rfl, sqH mb.h, q2 _ Ib Hb (ga.trans gb) ⟨_, rfl, ?_⟩⟩
              rw [← comes_law lg.wf hen hW hS]
              exact ⟨.inl, fun z => z.resolve_right c⟩
          · have mda := md.up ga
            have ed := due_int (G := G) (p := e) hsd hb
            refine ⟨_, rfl, .inl ⟨rfl, _, sqH mda.h⟩, _, rfl, _, rfl, rfl, rfl, .inr ⟨_, rfl, by show 2 ≤ sizeLine; decide, fun tt ntt => ?_⟩⟩
            have bt := Gr.imm (o := .tup [.int (if decide (V.bl b = V.bl (decide (V.str (kS sd) = V.str "ours"))) = true then (1 : Int) else 0), .int 1]) ga.s ntt
            have gt := (gg.trans ga).trans bt
            have mdt := mda.up bt
            refine ⟨pd, ys', .ref tt, rfl, rfl, mdt.h, line_lt (by omega), _, gt.put mdt, e9.trans (ga.i.trans bt.i), _, _, _, rfl, mdt.set, ?_⟩
            rw [List.range_succ, List.map_append]
            refine paired_snoc (paired_up pr (g9.i.trans (ga.i.trans bt.i))) ⟨tt, rfl, ?_⟩
            rw [← ed]
            exact .inl (.inl upd_same)
        · rintro σ1 I8 H8 g8 e8 ⟨z5'', z11, ys', rfl, md, pr⟩
          rw [List.length_range] at pr
          refine ⟨_, rfl, I8, G, _, g8.s, rfl, hG (e6'.trans e8), lg.wf, lg.nd, fun y I9 H9 s9 g9 ⟨pn, xn, ey, hn1, hn2⟩ fin => ?_⟩
          subst ey
          have md9 := md.up g9
          refine ⟨_, rfl, pn, pd, xn, ys', _, _, rfl, rfl, sqH (g9.s _ _ hn1), sqH md9.h, dp_Qs g9.s hn2, dp_Qs g9.s (paired_up pr g9.i), ?_⟩
          have : (List.range G.length).map (nOf G s9) = (List.range (3 + r1)).map (dueV G sd) := by rw [law_plain hsd lg fin, gl]
          rw [decide_eq_true this]
          exact q _
end
end OC
namespace OC
open PySem PySem.Spec PyProof.Rows L2
/-- what the text has written -/
structure Txt (K : PySem.W.Frag) (w : World) (mg : Str → Option Value) : Prop where
  d_number : Dn K mg "number" s_number ["n", "d"]
  d_compare : Dn K mg "compare" s_compare ["a", "b"]
  d_plus : Dn K mg "plus" s_plus ["a", "b"]
  d_minus : Dn K mg "minus" s_minus ["a", "b"]
  d_times : Dn K mg "times" s_times ["a", "b"]
  d_divided : Dn K mg "divided" s_divided ["a", "b"]
  d_targets : Dn K mg "targets" s_targets ["game", "place"]
  d_places_of : Dn K mg "places_of" s_places_of ["game", "kind"]
  d_marks_of : Dn K mg "marks_of" s_marks_of ["game"]
  d_copy_of : Dn K mg "copy_of" s_copy_of ["place"]
  d_with_strategy : Dn K mg "with_strategy" s_with_strategy ["game", "side", "strategy"]
  d_reached : Dn K mg "reached" s_reached ["game", "place"]
  d_behind : Dn K mg "behind" s_behind ["game", "place", "inside"]
  d_without : Dn K mg "without" s_without ["row", "column", "other"]
  d_only_solution : Dn K mg "only_solution" s_only_solution ["rows"]
  d_greatest_mark : Dn K mg "greatest_mark" s_greatest_mark ["chain", "places"]
  d_closed_classes : Dn K mg "closed_classes" s_closed_classes ["chain"]
  d_means : Dn K mg "means" s_means ["chain", "known", "gain"]
  d_chances_into : Dn K mg "chances_into" s_chances_into ["chain", "marks"]
  d_winning_chances : Dn K mg "winning_chances" s_winning_chances ["chain"]
  d_fits : Dn K mg "fits" s_fits ["game", "place", "inside"]
  d_can_be_kept : Dn K mg "can_be_kept" s_can_be_kept ["game", "places"]
  d_rounds_out : Dn K mg "rounds_out" s_rounds_out ["game", "places"]
  d_staying : Dn K mg "staying" s_staying ["game", "places"]
  d_knots : Dn K mg "knots" s_knots ["game", "places"]
  d_greatest_companies : Dn K mg "greatest_companies" s_greatest_companies ["game", "places"]
  d_company_mark : Dn K mg "company_mark" s_company_mark ["game", "places"]
  d_topped : Dn K mg "topped" s_topped ["game", "places", "mark"]
  d_won_in : DnK K mg "won_in" s_won_in ["game", "places", "side"] 2 ["side"]
  d_distances : Dn K mg "distances" s_distances ["game", "places", "place"]
  d_return_to : Dn K mg "return_to" s_return_to ["game", "places", "place"]
  d_keeping : Dn K mg "keeping" s_keeping ["left", "side"]
  d_is_better : Dn K mg "is_better" s_is_better ["number", "other", "side"]
  d_switched : Dn K mg "switched" s_switched ["left", "side", "strategy", "numbers", "fixed"]
  d_best_against : Dn K mg "best_against" s_best_against ["left", "side"]
  d_least_against : Dn K mg "least_against" s_least_against ["game", "ours"]
  d_inside : Dn K mg "inside" s_inside ["game", "arena", "place"]
  d_pulled : Dn K mg "pulled" s_pulled ["game", "arena", "side", "goals"]
  d_won : Dn K mg "won" s_won ["game", "arena", "side", "home"]
  d_classes_by : Dn K mg "classes_by" s_classes_by ["numbers"]
  d_leaving : Dn K mg "leaving" s_leaving ["game", "places"]
  d_raised : Dn K mg "raised" s_raised ["game", "ours", "numbers"]
  d_holding : Dn K mg "holding" s_holding ["game", "numbers"]
  d_answer_of : Dn K mg "answer_of" s_answer_of ["game"]
  d_values : Dn K mg "values" s_values ["game"]
  d__law_goals : Dn K mg "_law_goals" s__law_goals ["_law_place"]
  d__law_pool : Dn K mg "_law_pool" s__law_pool ["_law_script"]
  d__law_stream : Dn K mg "_law_stream" s__law_stream ["_law_script"]
  d__law_pick : Dn K mg "_law_pick" s__law_pick ["_law_pool_here", "_law_many"]
  d__law_ways : Dn K mg "_law_ways" s__law_ways ["_law_game", "_law_begin", "_law_most"]
  m_int : mg "int" = none
  m_list : mg "list" = none
  m_enumerate : mg "enumerate" = none
  m_sorted : mg "sorted" = none
  m_zip : mg "zip" = none
  m_range : mg "range" = none
  m_len : mg "len" = none
  m_all : mg "all" = none
  m_any : mg "any" = none
  m_max : mg "max" = none
  m_min : mg "min" = none
  m_set : mg "set" = none
  m_gcd : mg "gcd" = some (.builtin "math.gcd")
  k_ONE_numbers : Cst K mg "ONE_numbers" 1
  k_NOUGHT : Cst K mg "NOUGHT" 0
  k_ONE_against : Cst K mg "ONE_against" 1
  ot : Oth K w mg
theorem law_ok {P : Program} {w : World} {K : PySem.W.Frag} {mg : Str → Option Value} {base : Heap} (T : Txt K w mg) {f : Addr} {fd : FuncData} (F : Fun K "law" "law" s_law f fd) : FnOk P w K mg base CX0 57 f fd ["_law_script"] (spLaw K) := by
  have C_number := c_number (P := P) (w := w) (K := K) (mg := mg) (base := base) (k := 0) T.d_number T.m_gcd
  have C_compare := c_compare (P := P) (w := w) (K := K) (mg := mg) (base := base) (k := 0) T.d_compare T.m_int
  have C_plus := c_plus (P := P) (w := w) (K := K) (mg := mg) (base := base) (k := 1) T.d_plus (C_number.mono (by decide))
  have C_minus := c_minus (P := P) (w := w) (K := K) (mg := mg) (base := base) (k := 1) T.d_minus (C_number.mono (by decide))
  have C_times := c_times (P := P) (w := w) (K := K) (mg := mg) (base := base) (k := 1) T.d_times (C_number.mono (by decide))
  have C_divided := c_divided (P := P) (w := w) (K := K) (mg := mg) (base := base) (k := 1) T.d_divided (C_number.mono (by decide))
  have C_targets := c_targets (P := P) (w := w) (K := K) (mg := mg) (base := base) (k := 0) T.d_targets T.m_list
  have C_places_of := c_places_of (P := P) (w := w) (K := K) (mg := mg) (base := base) (k := 0) T.d_places_of T.m_enumerate
  have C_marks_of := c_marks_of (P := P) (w := w) (K := K) (mg := mg) (base := base) (k := 0) T.d_marks_of T.m_sorted
  have C_copy_of := c_copy_of (P := P) (w := w) (K := K) (mg := mg) (base := base) (k := 0) T.d_copy_of T.m_list
  have C_with_strategy := c_with_strategy (P := P) (w := w) (K := K) (mg := mg) (base := base) (k := 1) T.d_with_strategy T.m_enumerate T.k_ONE_numbers (C_copy_of.mono (by decide))
  have C_reached := c_reached (P := P) (w := w) (K := K) (mg := mg) (base := base) (k := 1) T.d_reached T.m_sorted (C_targets.mono (by decide))
  have C_behind := c_behind (P := P) (w := w) (K := K) (mg := mg) (base := base) (k := 1) T.d_behind (C_targets.mono (by decide))
  have C_without := c_without (P := P) (w := w) (K := K) (mg := mg) (base := base) (k := 2) T.d_without T.m_zip T.k_NOUGHT (C_minus.mono (by decide)) (C_times.mono (by decide))
  have C_only_solution := c_only_solution (P := P) (w := w) (K := K) (mg := mg) (base := base) (k := 3) T.d_only_solution T.m_list T.m_range T.m_len T.k_NOUGHT T.k_ONE_numbers (C_divided.mono (by decide)) (C_times.mono (by decide)) (C_without.mono (by decide))
  have C_greatest_mark := c_greatest_mark (P := P) (w := w) (K := K) (mg := mg) (base := base) (k := 1) T.d_greatest_mark (C_marks_of.mono (by decide))
  have C_closed_classes := c_closed_classes (P := P) (w := w) (K := K) (mg := mg) (base := base) (k := 2) T.d_closed_classes T.m_range T.m_len T.m_enumerate T.m_all (C_reached.mono (by decide))
  have C_means := c_means (P := P) (w := w) (K := K) (mg := mg) (base := base) (k := 4) T.d_means T.m_range T.m_len T.k_NOUGHT T.k_ONE_numbers (C_plus.mono (by decide)) (C_minus.mono (by decide)) (C_times.mono (by decide)) (C_only_solution.mono (by decide))
  have C_chances_into := c_chances_into (P := P) (w := w) (K := K) (mg := mg) (base := base) (k := 5) T.d_chances_into T.k_NOUGHT T.k_ONE_numbers (C_closed_classes.mono (by decide)) (C_greatest_mark.mono (by decide)) (C_means.mono (by decide))
  have C_winning_chances := c_winning_chances (P := P) (w := w) (K := K) (mg := mg) (base := base) (k := 6) T.d_winning_chances (C_chances_into.mono (by decide))
  have C_fits := c_fits (P := P) (w := w) (K := K) (mg := mg) (base := base) (k := 1) T.d_fits T.m_all T.m_any (C_targets.mono (by decide))
  have C_can_be_kept := c_can_be_kept (P := P) (w := w) (K := K) (mg := mg) (base := base) (k := 2) T.d_can_be_kept T.m_all (C_fits.mono (by decide))
  have C_rounds_out := c_rounds_out (P := P) (w := w) (K := K) (mg := mg) (base := base) (k := 2) T.d_rounds_out T.m_list (C_fits.mono (by decide))
  have C_staying := c_staying (P := P) (w := w) (K := K) (mg := mg) (base := base) (k := 3) T.d_staying (C_rounds_out.mono (by decide))
  have C_knots := c_knots (P := P) (w := w) (K := K) (mg := mg) (base := base) (k := 2) T.d_knots (C_behind.mono (by decide))
  have C_greatest_companies := c_greatest_companies (P := P) (w := w) (K := K) (mg := mg) (base := base) (k := 4) T.d_greatest_companies T.m_sorted (C_knots.mono (by decide)) (C_staying.mono (by decide)) (C_can_be_kept.mono (by decide))
  have C_company_mark := c_company_mark (P := P) (w := w) (K := K) (mg := mg) (base := base) (k := 0) T.d_company_mark T.m_max
  have C_topped := c_topped (P := P) (w := w) (K := K) (mg := mg) (base := base) (k := 5) T.d_topped (C_greatest_companies.mono (by decide)) (C_company_mark.mono (by decide))
  have C_won_in := c_won_in (P := P) (w := w) (K := K) (mg := mg) (base := base) (k := 6) T.d_won_in T.m_range T.m_sorted (C_topped.mono (by decide))
  have C_distances := c_distances (P := P) (w := w) (K := K) (mg := mg) (base := base) (k := 1) T.d_distances (C_targets.mono (by decide))
  have C_return_to := c_return_to (P := P) (w := w) (K := K) (mg := mg) (base := base) (k := 2) T.d_return_to T.m_enumerate (C_distances.mono (by decide)) (C_targets.mono (by decide))
  have C_keeping := c_keeping (P := P) (w := w) (K := K) (mg := mg) (base := base) (k := 5) T.d_keeping T.m_range T.m_list T.m_len (C_greatest_companies.mono (by decide)) (C_return_to.mono (by decide))
  have C_is_better := c_is_better (P := P) (w := w) (K := K) (mg := mg) (base := base) (k := 1) T.d_is_better (C_compare.mono (by decide))
  have C_switched := c_switched (P := P) (w := w) (K := K) (mg := mg) (base := base) (k := 2) T.d_switched T.m_list T.m_enumerate (C_places_of.mono (by decide)) (C_is_better.mono (by decide))
  have C_best_against := c_best_against (P := P) (w := w) (K := K) (mg := mg) (base := base) (k := 7) T.d_best_against T.m_range T.m_list T.m_len (C_won_in.mono (by decide)) (C_keeping.mono (by decide)) (C_places_of.mono (by decide)) (C_with_strategy.mono (by decide)) (C_winning_chances.mono (by decide)) (C_switched.mono (by decide))
  have C_least_against := c_least_against (P := P) (w := w) (K := K) (mg := mg) (base := base) (k := 8) T.d_least_against (C_with_strategy.mono (by decide)) (C_best_against.mono (by decide))
  have C_inside := c_inside (P := P) (w := w) (K := K) (mg := mg) (base := base) (k := 1) T.d_inside (C_targets.mono (by decide))
  have C_pulled := c_pulled (P := P) (w := w) (K := K) (mg := mg) (base := base) (k := 1) T.d_pulled T.m_list T.m_all T.m_any T.ot (C_targets.mono (by decide))
  have C_won : ∀ M, Cal P w K mg base "won" (2 + 1 + M) (spWon K M) := fun M => by
    induction M with
    | zero => exact c_won0 (k := 2) T.d_won
    | succ M ih =>
      have := c_won1 (k := 2 + 1 + M) (M := M) T.d_won T.m_list T.m_len T.m_max T.ot (C_pulled.mono (by omega)) (C_inside.mono (by omega)) ih
      exact this
  have C_won := C_won 50
  have C_classes_by := c_classes_by (P := P) (w := w) (K := K) (mg := mg) (base := base) (k := 1) T.d_classes_by T.m_enumerate T.m_len (C_compare.mono (by decide))
  have C_leaving := c_leaving (P := P) (w := w) (K := K) (mg := mg) (base := base) (k := 1) T.d_leaving T.m_all (C_targets.mono (by decide))
  have C_raised := c_raised (P := P) (w := w) (K := K) (mg := mg) (base := base) (k := 53) T.d_raised T.m_list T.k_ONE_against (C_classes_by.mono (by decide)) (C_pulled.mono (by decide)) (C_leaving.mono (by decide)) (C_won.mono (by decide))
  have C_holding := c_holding (P := P) (w := w) (K := K) (mg := mg) (base := base) (k := 53) T.d_holding T.k_ONE_against (C_classes_by.mono (by decide)) (C_leaving.mono (by decide)) (C_won.mono (by decide))
  have C_answer_of := c_answer_of (P := P) (w := w) (K := K) (mg := mg) (base := base) (k := 54) T.d_answer_of (C_least_against.mono (by decide)) (C_switched.mono (by decide)) (C_raised.mono (by decide)) (C_holding.mono (by decide))
  have C_values := c_values (P := P) (w := w) (K := K) (mg := mg) (base := base) (k := 55) T.d_values (C_answer_of.mono (by decide))
  have C__law_goals := c__law_goals (P := P) (w := w) (K := K) (mg := mg) (base := base) (k := 0) T.d__law_goals T.m_list
  have C__law_pool := c__law_pool (P := P) (w := w) (K := K) (mg := mg) (base := base) (k := 0) T.d__law_pool T.m_range T.m_len T.m_min T.m_int
  have C__law_stream := c__law_stream (P := P) (w := w) (K := K) (mg := mg) (base := base) (k := 1) T.d__law_stream (C__law_pool.mono (by decide))
  have C__law_pick := c__law_pick (P := P) (w := w) (K := K) (mg := mg) (base := base) (k := 0) T.d__law_pick T.m_len T.m_int
  have C__law_ways := c__law_ways (P := P) (w := w) (K := K) (mg := mg) (base := base) (k := 1) T.d__law_ways T.m_range T.m_len T.m_list T.m_sorted T.m_set (C__law_goals.mono (by decide))
  exact c_law (k := 56) F T.m_range T.m_len T.m_int T.m_any (C__law_stream.mono (by decide)) (C__law_pick.mono (by decide)) (C__law_ways.mono (by decide)) (C_values.mono (by decide))
end OC
namespace OC
open PySem PySem.Spec PyProof.Rows L2
/-! ### what the top has written -/
def DefAt (K : PySem.W.Frag) (x : Str) (st : Stmt) : Prop := ∃ (f : Addr) (oc : Value) (od : Option Addr) (sl : Array (Option Value)) (kV dc pm : Value) (an : Option Addr) (cd ct : Value),
  PySem.W.nsIn K mainGlobals x = some (some (.ref f)) ∧ K.lookup f = some ⟨oc, od, .func (PySem.W.fnOf x x (defArgs st) (defBody st) (defScope st) .none kV dc pm an cd ct), sl⟩ ∧ PySem.W.codeIn K cd x = true ∧ PySem.W.keepIn K (.ref f) = true
theorem DefAt.mk {K : PySem.W.Frag} {x : Str} {st : Stmt} {f : Addr} {oc : Value} {od : Option Addr} {sl : Array (Option Value)} {kV dc pm : Value} {an : Option Addr} {cd ct : Value} (a : PySem.W.nsIn K mainGlobals x = some (some (.ref f)))
    (l : K.lookup f = some ⟨oc, od, .func (PySem.W.fnOf x x (defArgs st) (defBody st) (defScope st) .none kV dc pm an cd ct), sl⟩) (c : PySem.W.codeIn K cd x = true) (k : PySem.W.keepIn K (.ref f) = true) : DefAt K x st := ⟨f, oc, od, sl, kV, dc, pm, an, cd, ct, a, l, c, k⟩
def TupAt (K : PySem.W.Frag) (x : Str) (z : Int) : Prop := ∃ (a : Addr) (o : Obj) (its : Array Value) (n : Nat), PySem.W.nsIn K mainGlobals x = some (some (.ref a)) ∧ K.lookup a = some o ∧ o.cls = .type "tuple" ∧ o.data = .seq its n ∧ its.size ≤ 2 ∧ Vals [.int z, .int 1] its.toList
section
variable {K : PySem.W.Frag} {h : Heap} {mg : Str → Option Value} {w : World}
theorem dn_of {x : Str} {st : Stmt} {ps : List Str} (X : K.In h) (G : h.Ns mainGlobals mg) (d : DefAt K x st) (hb : ∀ (kV dc pm : Value) (an : Option Addr) (cd ct : Value) (us : List Value), us.length = ps.length → bindArgs (PySem.W.fnOf x x (defArgs st) (defBody st) (defScope st) .none kV dc pm an cd ct) ⟨us, []⟩ = pure (ps.zip us)) : Dn K mg x st ps := by
  obtain ⟨f, oc, od, sl, kV, dc, pm, an, cd, ct, a, l, c, k⟩ := d
  exact ⟨f, _, fun_mk (st := st) l c k, PySem.W.mg_of X G a, (fun_mk (st := st) l c k).binds hb⟩
theorem dnk_of {x : Str} {st : Stmt} {ps ks : List Str} {n : Nat} (X : K.In h) (G : h.Ns mainGlobals mg) (d : DefAt K x st) (hb : ∀ (kV dc pm : Value) (an : Option Addr) (cd ct : Value) (us ws : List Value), us.length = n → ws.length = ks.length → bindArgs (PySem.W.fnOf x x (defArgs st) (defBody st) (defScope st) .none kV dc pm an cd ct) ⟨us, ks.zip ws⟩ = pure (ps.zip (us ++ ws))) :
    DnK K mg x st ps n ks := by
  obtain ⟨f, oc, od, sl, kV, dc, pm, an, cd, ct, a, l, c, k⟩ := d
  exact ⟨f, _, fun_mk (st := st) l c k, PySem.W.mg_of X G a, ⟨fun s us ws _ l1 l2 => .of_eq (hb kV dc pm an cd ct us ws l1 l2), fun r1 r2 => r1.append r2⟩⟩
theorem cst_of {x : Str} {z : Int} (X : K.In h) (G : h.Ns mainGlobals mg) (d : TupAt K x z) : Cst K mg x z := by
  obtain ⟨a, o, its, n, h1, h2, h3, h4, h5, h6⟩ := d
  exact ⟨a, PySem.W.mg_of X G h1, fun I => .inr ⟨o, its, n, h2, h3, h4, Nat.le_trans h5 (by decide), h6⟩⟩
end
theorem walk {l : PySem.W.OpenLaw} {q : Program} {loose : List Str} {XP : (Str → Option Value) → Heap → Prop} {YP : World → Heap → Prop} {d : DefRec} {K : Params → PySem.W.Frag} (hn : l.most = some 63) (hdf : d.params.defaults = [])
    (hY : ∀ (w : World) (h : Heap), YP w h → (K w.params).In h)
    (F : ∀ (w : World) (mg : Str → Option Value) (fa : Addr) (h : Heap), (K w.params).In h → h.Ns mainGlobals mg → mg d.name = some (.ref fa) →
      ∃ fd : FuncData, (∀ (s : Shared) (u : Value), BindsTo s fd ⟨[u], []⟩ [("_law_script", u)]) ∧ ∀ base : Heap, (K w.params).In base → base.Ns mainGlobals mg → FnOk l.prog w (K w.params) mg base CX0 57 fa fd ["_law_script"] (spLaw (K w.params))) :
    PySem.W.WalkO q loose XP YP l.row.toRowW d [] (fun f vs => PySem.call f vs) :=
  L2.walk_of (n := 63) (k := 57) (x := "_law_script") (CX := fun _ => CX0) (sp := fun w => spLaw (K w.params)) hn (by decide) hdf ⟨rfl, by decide, by decide⟩ hY F (fun _ _ a ns _ _ hS => ⟨a, ns, rfl, hS, fun _ => rfl⟩) fun _ _ _ _ _ z => z
end OC
namespace OC
open PySem PySem.Spec PyProof.Rows L2
def OthAt (K : PySem.W.Frag) (w : World) : Prop := ∃ a, PySem.W.nsIn K mainGlobals "OTHER" = some (some (.ref a)) ∧ KDct K w a "ours" (.str "theirs") ∧ KDct K w a "theirs" (.str "ours")
theorem OthAt.mk {K : PySem.W.Frag} {w : World} {a : Addr} {es : Array DictEntry} {n : Nat} {t1 t2 : Tok} (h : PySem.W.nsIn K mainGlobals "OTHER" = some (some (.ref a))) (l : K.lookup a = some ⟨.type "dict", none, .dict es n, #[]⟩) (k : PySem.W.KeysLit w.params es.toList)
    (h1 : PySem.W.nsIn K a "ours" = some (some (.str "theirs" t1))) (h2 : PySem.W.nsIn K a "theirs" = some (some (.str "ours" t2))) : OthAt K w := ⟨a, h, ⟨es, n, _, l, k, h1, ⟨t1, rfl⟩⟩, ⟨es, n, _, l, k, h2, ⟨t2, rfl⟩⟩⟩
theorem TupAt.mk {K : PySem.W.Frag} {x : Str} {z : Int} {a : Addr} {od : Option Addr} {t1 t2 : Tok} {n : Nat} {sl : Array (Option Value)} (h : PySem.W.nsIn K mainGlobals x = some (some (.ref a))) (l : K.lookup a = some ⟨.type "tuple", od, .seq #[.int z t1, .int 1 t2] n, sl⟩) : TupAt K x z := ⟨a, _, _, n, h, l, rfl, rfl, Nat.le_refl _, .cons ⟨t1, rfl⟩ (.cons ⟨t2, rfl⟩ .nil)⟩
structure Facts (K : PySem.W.Frag) (w : World) : Prop where
  d_number : DefAt K "number" s_number
  d_compare : DefAt K "compare" s_compare
  d_plus : DefAt K "plus" s_plus
  d_minus : DefAt K "minus" s_minus
  d_times : DefAt K "times" s_times
  d_divided : DefAt K "divided" s_divided
  d_targets : DefAt K "targets" s_targets
  d_places_of : DefAt K "places_of" s_places_of
  d_marks_of : DefAt K "marks_of" s_marks_of
  d_copy_of : DefAt K "copy_of" s_copy_of
  d_with_strategy : DefAt K "with_strategy" s_with_strategy
  d_reached : DefAt K "reached" s_reached
  d_behind : DefAt K "behind" s_behind
  d_without : DefAt K "without" s_without
  d_only_solution : DefAt K "only_solution" s_only_solution
  d_greatest_mark : DefAt K "greatest_mark" s_greatest_mark
  d_closed_classes : DefAt K "closed_classes" s_closed_classes
  d_means : DefAt K "means" s_means
  d_chances_into : DefAt K "chances_into" s_chances_into
  d_winning_chances : DefAt K "winning_chances" s_winning_chances
  d_fits : DefAt K "fits" s_fits
  d_can_be_kept : DefAt K "can_be_kept" s_can_be_kept
  d_rounds_out : DefAt K "rounds_out" s_rounds_out
  d_staying : DefAt K "staying" s_staying
  d_knots : DefAt K "knots" s_knots
  d_greatest_companies : DefAt K "greatest_companies" s_greatest_companies
  d_company_mark : DefAt K "company_mark" s_company_mark
  d_topped : DefAt K "topped" s_topped
  d_won_in : DefAt K "won_in" s_won_in
  d_distances : DefAt K "distances" s_distances
  d_return_to : DefAt K "return_to" s_return_to
  d_keeping : DefAt K "keeping" s_keeping
  d_is_better : DefAt K "is_better" s_is_better
  d_switched : DefAt K "switched" s_switched
  d_best_against : DefAt K "best_against" s_best_against
  d_least_against : DefAt K "least_against" s_least_against
  d_inside : DefAt K "inside" s_inside
  d_pulled : DefAt K "pulled" s_pulled
  d_won : DefAt K "won" s_won
  d_classes_by : DefAt K "classes_by" s_classes_by
  d_leaving : DefAt K "leaving" s_leaving
  d_raised : DefAt K "raised" s_raised
  d_holding : DefAt K "holding" s_holding
  d_answer_of : DefAt K "answer_of" s_answer_of
  d_values : DefAt K "values" s_values
  d__law_goals : DefAt K "_law_goals" s__law_goals
  d__law_pool : DefAt K "_law_pool" s__law_pool
  d__law_stream : DefAt K "_law_stream" s__law_stream
  d__law_pick : DefAt K "_law_pick" s__law_pick
  d__law_ways : DefAt K "_law_ways" s__law_ways
  d_law : DefAt K "law" s_law
  m_int : PySem.W.nsIn K mainGlobals "int" = some none
  m_list : PySem.W.nsIn K mainGlobals "list" = some none
  m_enumerate : PySem.W.nsIn K mainGlobals "enumerate" = some none
  m_sorted : PySem.W.nsIn K mainGlobals "sorted" = some none
  m_zip : PySem.W.nsIn K mainGlobals "zip" = some none
  m_range : PySem.W.nsIn K mainGlobals "range" = some none
  m_len : PySem.W.nsIn K mainGlobals "len" = some none
  m_all : PySem.W.nsIn K mainGlobals "all" = some none
  m_any : PySem.W.nsIn K mainGlobals "any" = some none
  m_max : PySem.W.nsIn K mainGlobals "max" = some none
  m_min : PySem.W.nsIn K mainGlobals "min" = some none
  m_set : PySem.W.nsIn K mainGlobals "set" = some none
  m_gcd : PySem.W.nsIn K mainGlobals "gcd" = some (some (.builtin "math.gcd"))
  k_ONE_numbers : TupAt K "ONE_numbers" 1
  k_NOUGHT : TupAt K "NOUGHT" 0
  k_ONE_against : TupAt K "ONE_against" 1
  ot : OthAt K w
theorem Facts.txt {K : PySem.W.Frag} {w : World} {mg : Str → Option Value} {h : Heap} (X : K.In h) (G : h.Ns mainGlobals mg) (T : Facts K w) : Txt K w mg where
  d_number := dn_of (ps := ["n", "d"]) X G T.d_number fun _ _ _ _ _ _ us hl => match us, hl with | [_, _], _ => rfl
  d_compare := dn_of (ps := ["a", "b"]) X G T.d_compare fun _ _ _ _ _ _ us hl => match us, hl with | [_, _], _ => rfl
  d_plus := dn_of (ps := ["a", "b"]) X G T.d_plus fun _ _ _ _ _ _ us hl => match us, hl with | [_, _], _ => rfl
  d_minus := dn_of (ps := ["a", "b"]) X G T.d_minus fun _ _ _ _ _ _ us hl => match us, hl with | [_, _], _ => rfl
  d_times := dn_of (ps := ["a", "b"]) X G T.d_times fun _ _ _ _ _ _ us hl => match us, hl with | [_, _], _ => rfl
  d_divided := dn_of (ps := ["a", "b"]) X G T.d_divided fun _ _ _ _ _ _ us hl => match us, hl with | [_, _], _ => rfl
  d_targets := dn_of (ps := ["game", "place"]) X G T.d_targets fun _ _ _ _ _ _ us hl => match us, hl with | [_, _], _ => rfl
  d_places_of := dn_of (ps := ["game", "kind"]) X G T.d_places_of fun _ _ _ _ _ _ us hl => match us, hl with | [_, _], _ => rfl
  d_marks_of := dn_of (ps := ["game"]) X G T.d_marks_of fun _ _ _ _ _ _ us hl => match us, hl with | [_], _ => rfl
  d_copy_of := dn_of (ps := ["place"]) X G T.d_copy_of fun _ _ _ _ _ _ us hl => match us, hl with | [_], _ => rfl
  d_with_strategy := dn_of (ps := ["game", "side", "strategy"]) X G T.d_with_strategy fun _ _ _ _ _ _ us hl => match us, hl with | [_, _, _], _ => rfl
  d_reached := dn_of (ps := ["game", "place"]) X G T.d_reached fun _ _ _ _ _ _ us hl => match us, hl with | [_, _], _ => rfl
  d_behind := dn_of (ps := ["game", "place", "inside"]) X G T.d_behind fun _ _ _ _ _ _ us hl => match us, hl with | [_, _, _], _ => rfl
  d_without := dn_of (ps := ["row", "column", "other"]) X G T.d_without fun _ _ _ _ _ _ us hl => match us, hl with | [_, _, _], _ => rfl
  d_only_solution := dn_of (ps := ["rows"]) X G T.d_only_solution fun _ _ _ _ _ _ us hl => match us, hl with | [_], _ => rfl
  d_greatest_mark := dn_of (ps := ["chain", "places"]) X G T.d_greatest_mark fun _ _ _ _ _ _ us hl => match us, hl with | [_, _], _ => rfl
  d_closed_classes := dn_of (ps := ["chain"]) X G T.d_closed_classes fun _ _ _ _ _ _ us hl => match us, hl with | [_], _ => rfl
  d_means := dn_of (ps := ["chain", "known", "gain"]) X G T.d_means fun _ _ _ _ _ _ us hl => match us, hl with | [_, _, _], _ => rfl
  d_chances_into := dn_of (ps := ["chain", "marks"]) X G T.d_chances_into fun _ _ _ _ _ _ us hl => match us, hl with | [_, _], _ => rfl
  d_winning_chances := dn_of (ps := ["chain"]) X G T.d_winning_chances fun _ _ _ _ _ _ us hl => match us, hl with | [_], _ => rfl
  d_fits := dn_of (ps := ["game", "place", "inside"]) X G T.d_fits fun _ _ _ _ _ _ us hl => match us, hl with | [_, _, _], _ => rfl
  d_can_be_kept := dn_of (ps := ["game", "places"]) X G T.d_can_be_kept fun _ _ _ _ _ _ us hl => match us, hl with | [_, _], _ => rfl
  d_rounds_out := dn_of (ps := ["game", "places"]) X G T.d_rounds_out fun _ _ _ _ _ _ us hl => match us, hl with | [_, _], _ => rfl
  d_staying := dn_of (ps := ["game", "places"]) X G T.d_staying fun _ _ _ _ _ _ us hl => match us, hl with | [_, _], _ => rfl
  d_knots := dn_of (ps := ["game", "places"]) X G T.d_knots fun _ _ _ _ _ _ us hl => match us, hl with | [_, _], _ => rfl
  d_greatest_companies := dn_of (ps := ["game", "places"]) X G T.d_greatest_companies fun _ _ _ _ _ _ us hl => match us, hl with | [_, _], _ => rfl
  d_company_mark := dn_of (ps := ["game", "places"]) X G T.d_company_mark fun _ _ _ _ _ _ us hl => match us, hl with | [_, _], _ => rfl
  d_topped := dn_of (ps := ["game", "places", "mark"]) X G T.d_topped fun _ _ _ _ _ _ us hl => match us, hl with | [_, _, _], _ => rfl
  d_won_in := dnk_of (ps := ["game", "places", "side"]) (n := 2) (ks := ["side"]) X G T.d_won_in fun _ _ _ _ _ _ us ws hl hw => match us, ws, hl, hw with | [_, _], [_], _, _ => rfl
  d_distances := dn_of (ps := ["game", "places", "place"]) X G T.d_distances fun _ _ _ _ _ _ us hl => match us, hl with | [_, _, _], _ => rfl
  d_return_to := dn_of (ps := ["game", "places", "place"]) X G T.d_return_to fun _ _ _ _ _ _ us hl => match us, hl with | [_, _, _], _ => rfl
  d_keeping := dn_of (ps := ["left", "side"]) X G T.d_keeping fun _ _ _ _ _ _ us hl => match us, hl with | [_, _], _ => rfl
  d_is_better := dn_of (ps := ["number", "other", "side"]) X G T.d_is_better fun _ _ _ _ _ _ us hl => match us, hl with | [_, _, _], _ => rfl
  d_switched := dn_of (ps := ["left", "side", "strategy", "numbers", "fixed"]) X G T.d_switched fun _ _ _ _ _ _ us hl => match us, hl with | [_, _, _, _, _], _ => rfl
  d_best_against := dn_of (ps := ["left", "side"]) X G T.d_best_against fun _ _ _ _ _ _ us hl => match us, hl with | [_, _], _ => rfl
  d_least_against := dn_of (ps := ["game", "ours"]) X G T.d_least_against fun _ _ _ _ _ _ us hl => match us, hl with | [_, _], _ => rfl
  d_inside := dn_of (ps := ["game", "arena", "place"]) X G T.d_inside fun _ _ _ _ _ _ us hl => match us, hl with | [_, _, _], _ => rfl
  d_pulled := dn_of (ps := ["game", "arena", "side", "goals"]) X G T.d_pulled fun _ _ _ _ _ _ us hl => match us, hl with | [_, _, _, _], _ => rfl
  d_won := dn_of (ps := ["game", "arena", "side", "home"]) X G T.d_won fun _ _ _ _ _ _ us hl => match us, hl with | [_, _, _, _], _ => rfl
  d_classes_by := dn_of (ps := ["numbers"]) X G T.d_classes_by fun _ _ _ _ _ _ us hl => match us, hl with | [_], _ => rfl
  d_leaving := dn_of (ps := ["game", "places"]) X G T.d_leaving fun _ _ _ _ _ _ us hl => match us, hl with | [_, _], _ => rfl
  d_raised := dn_of (ps := ["game", "ours", "numbers"]) X G T.d_raised fun _ _ _ _ _ _ us hl => match us, hl with | [_, _, _], _ => rfl
  d_holding := dn_of (ps := ["game", "numbers"]) X G T.d_holding fun _ _ _ _ _ _ us hl => match us, hl with | [_, _], _ => rfl
  d_answer_of := dn_of (ps := ["game"]) X G T.d_answer_of fun _ _ _ _ _ _ us hl => match us, hl with | [_], _ => rfl
  d_values := dn_of (ps := ["game"]) X G T.d_values fun _ _ _ _ _ _ us hl => match us, hl with | [_], _ => rfl
  d__law_goals := dn_of (ps := ["_law_place"]) X G T.d__law_goals fun _ _ _ _ _ _ us hl => match us, hl with | [_], _ => rfl
  d__law_pool := dn_of (ps := ["_law_script"]) X G T.d__law_pool fun _ _ _ _ _ _ us hl => match us, hl with | [_], _ => rfl
  d__law_stream := dn_of (ps := ["_law_script"]) X G T.d__law_stream fun _ _ _ _ _ _ us hl => match us, hl with | [_], _ => rfl
  d__law_pick := dn_of (ps := ["_law_pool_here", "_law_many"]) X G T.d__law_pick fun _ _ _ _ _ _ us hl => match us, hl with | [_, _], _ => rfl
  d__law_ways := dn_of (ps := ["_law_game", "_law_begin", "_law_most"]) X G T.d__law_ways fun _ _ _ _ _ _ us hl => match us, hl with | [_, _, _], _ => rfl
  m_int := PySem.W.mg_none_of X G T.m_int
  m_list := PySem.W.mg_none_of X G T.m_list
  m_enumerate := PySem.W.mg_none_of X G T.m_enumerate
  m_sorted := PySem.W.mg_none_of X G T.m_sorted
  m_zip := PySem.W.mg_none_of X G T.m_zip
  m_range := PySem.W.mg_none_of X G T.m_range
  m_len := PySem.W.mg_none_of X G T.m_len
  m_all := PySem.W.mg_none_of X G T.m_all
  m_any := PySem.W.mg_none_of X G T.m_any
  m_max := PySem.W.mg_none_of X G T.m_max
  m_min := PySem.W.mg_none_of X G T.m_min
  m_set := PySem.W.mg_none_of X G T.m_set
  m_gcd := PySem.W.mg_of X G T.m_gcd
  k_ONE_numbers := cst_of X G T.k_ONE_numbers
  k_NOUGHT := cst_of X G T.k_NOUGHT
  k_ONE_against := cst_of X G T.k_ONE_against
  ot := let ⟨a, h1, h2, h3⟩ := T.ot; ⟨a, PySem.W.mg_of X G h1, h2, h3⟩
theorem last {P : Program} {w : World} {K : PySem.W.Frag} {mg : Str → Option Value} {h : Heap} {fa : Addr} (X : K.In h) (G : h.Ns mainGlobals mg) (hm : mg "law" = some (.ref fa)) (T : Facts K w) :
    ∃ fd : FuncData, (∀ (s : Shared) (u : Value), BindsTo s fd ⟨[u], []⟩ [("_law_script", u)]) ∧ ∀ base : Heap, K.In base → base.Ns mainGlobals mg → FnOk P w K mg base CX0 57 fa fd ["_law_script"] (spLaw K) := by
  obtain ⟨f, oc, od, sl, kV, dc, pm, an, cd, ct, a, l, c, k⟩ := T.d_law
  have e := hm.symm.trans (PySem.W.mg_of X G a)
  cases e
  exact ⟨_, fun s v => .of_eq rfl, fun base _ _ => law_ok (T.txt X G) (fun_mk (st := s_law) l c k)⟩
end OC
open PySem PySem.W PyProof.Rows in
set_option maxRecDepth 100000 in
set_option maxHeartbeats 0 in
theorem PySem.Challenge.cw_oddcrown_k53_whole_games_without_chance_holds : PySem.Challenge.rw_oddcrown_k53_whole_games_without_chance.Holds := by
  w_on; o_law; k_head; (case hw => w_witness2)
  k_fill
  refine OC.walk (l := PySem.Challenge.rw_oddcrown_k53_whole_games_without_chance) rfl rfl (fun w h Y => PySem.W.kIn_of Y) ?F
  case F =>
    intro w mg fa h KX G hmg
    have hm : mg ("law" : PySem.Str) = some (.ref fa) := hmg
    clear hmg
    refine OC.last KX G hm ?_
    refine OC.Facts.mk ?_ ?_ ?_ ?_ ?_ ?_ ?_ ?_ ?_ ?_ ?_ ?_ ?_ ?_ ?_ ?_ ?_ ?_ ?_ ?_ ?_ ?_ ?_ ?_ ?_ ?_ ?_ ?_ ?_ ?_ ?_ ?_ ?_ ?_ ?_ ?_ ?_ ?_ ?_ ?_ ?_ ?_ ?_ ?_ ?_ ?_ ?_ ?_ ?_ ?_ ?_ ?_ ?_ ?_ ?_ ?_ ?_ ?_ ?_ ?_ ?_ ?_ ?_ ?_ ?_ ?_ ?_ ?_
    · refine' OC.DefAt.mk ?a ?l ?c ?k
      (case a => k_is)
      (case l => k_is)
      (case c => k_is)
      (case k => k_is)
    · refine' OC.DefAt.mk ?a ?l ?c ?k
      (case a => k_is)
      (case l => k_is)
      (case c => k_is)
      (case k => k_is)
    · refine' OC.DefAt.mk ?a ?l ?c ?k
      (case a => k_is)
      (case l => k_is)
      (case c => k_is)
      (case k => k_is)
    · refine' OC.DefAt.mk ?a ?l ?c ?k
      (case a => k_is)
      (case l => k_is)
      (case c => k_is)
      (case k => k_is)
    · refine' OC.DefAt.mk ?a ?l ?c ?k
      (case a => k_is)
      (case l => k_is)
      (case c => k_is)
      (case k => k_is)
    · refine' OC.DefAt.mk ?a ?l ?c ?k
      (case a => k_is)
      (case l => k_is)
      (case c => k_is)
      (case k => k_is)
    · refine' OC.DefAt.mk ?a ?l ?c ?k
      (case a => k_is)
      (case l => k_is)
      (case c => k_is)
      (case k => k_is)
    · refine' OC.DefAt.mk ?a ?l ?c ?k
      (case a => k_is)
      (case l => k_is)
      (case c => k_is)
      (case k => k_is)
    · refine' OC.DefAt.mk ?a ?l ?c ?k
      (case a => k_is)
      (case l => k_is)
      (case c => k_is)
      (case k => k_is)
    · refine' OC.DefAt.mk ?a ?l ?c ?k
      (case a => k_is)
      (case l => k_is)
      (case c => k_is)
      (case k => k_is)
    · refine' OC.DefAt.mk ?a ?l ?c ?k
      (case a => k_is)
      (case l => k_is)
      (case c => k_is)
      (case k => k_is)
    · refine' OC.DefAt.mk ?a ?l ?c ?k
      (case a => k_is)
      (case l => k_is)
      (case c => k_is)
      (case k => k_is)
    · refine' OC.DefAt.mk ?a ?l ?c ?k
      (case a => k_is)
      (case l => k_is)
      (case c => k_is)
      (case k => k_is)
    · refine' OC.DefAt.mk ?a ?l ?c ?k
      (case a => k_is)
      (case l => k_is)
      (case c => k_is)
      (case k => k_is)
    · refine' OC.DefAt.mk ?a ?l ?c ?k
      (case a => k_is)
      (case l => k_is)
      (case c => k_is)
      (case k => k_is)
    · refine' OC.DefAt.mk ?a ?l ?c ?k
      (case a => k_is)
      (case l => k_is)
      (case c => k_is)
      (case k => k_is)
    · refine' OC.DefAt.mk ?a ?l ?c ?k
      (case a => k_is)
      (case l => k_is)
      (case c => k_is)
      (case k => k_is)
    · refine' OC.DefAt.mk ?a ?l ?c ?k
      (case a => k_is)
      (case l => k_is)
      (case c => k_is)
      (case k => k_is)
    · refine' OC.DefAt.mk ?a ?l ?c ?k
      (case a => k_is)
      (case l => k_is)
      (case c => k_is)
      (case k => k_is)
    · refine' OC.DefAt.mk ?a ?l ?c ?k
      (case a => k_is)
      (case l => k_is)
      (case c => k_is)
      (case k => k_is)
    · refine' OC.DefAt.mk ?a ?l ?c ?k
      (case a => k_is)
      (case l => k_is)
      (case c => k_is)
      (case k => k_is)
    · refine' OC.DefAt.mk ?a ?l ?c ?k
      (case a => k_is)
      (case l => k_is)
      (case c => k_is)
      (case k => k_is)
    · refine' OC.DefAt.mk ?a ?l ?c ?k
      (case a => k_is)
      (case l => k_is)
      (case c => k_is)
      (case k => k_is)
    · refine' OC.DefAt.mk ?a ?l ?c ?k
      (case a => k_is)
      (case l => k_is)
      (case c => k_is)
      (case k => k_is)
    · refine' OC.DefAt.mk ?a ?l ?c ?k
      (case a => k_is)
      (case l => k_is)
      (case c => k_is)
      (case k => k_is)
    · refine' OC.DefAt.mk ?a ?l ?c ?k
      (case a => k_is)
      (case l => k_is)
      (case c => k_is)
      (case k => k_is)
    · refine' OC.DefAt.mk ?a ?l ?c ?k
      (case a => k_is)
      (case l => k_is)
      (case c => k_is)
      (case k => k_is)
    · refine' OC.DefAt.mk ?a ?l ?c ?k
      (case a => k_is)
      (case l => k_is)
      (case c => k_is)
      (case k => k_is)
    · refine' OC.DefAt.mk ?a ?l ?c ?k
      (case a => k_is)
      (case l => k_is)
      (case c => k_is)
      (case k => k_is)
    · refine' OC.DefAt.mk ?a ?l ?c ?k
      (case a => k_is)
      (case l => k_is)
      (case c => k_is)
      (case k => k_is)
    · refine' OC.DefAt.mk ?a ?l ?c ?k
      (case a => k_is)
      (case l => k_is)
      (case c => k_is)
      (case k => k_is)
    · refine' OC.DefAt.mk ?a ?l ?c ?k
      (case a => k_is)
      (case l => k_is)
      (case c => k_is)
      (case k => k_is)
    · refine' OC.DefAt.mk ?a ?l ?c ?k
      (case a => k_is)
      (case l => k_is)
      (case c => k_is)
      (case k => k_is)
    · refine' OC.DefAt.mk ?a ?l ?c ?k
      (case a => k_is)
      (case l => k_is)
      (case c => k_is)
      (case k => k_is)
    · refine' OC.DefAt.mk ?a ?l ?c ?k
      (case a => k_is)
      (case l => k_is)
      (case c => k_is)
      (case k => k_is)
    · refine' OC.DefAt.mk ?a ?l ?c ?k
      (case a => k_is)
      (case l => k_is)
      (case c => k_is)
      (case k => k_is)
    · refine' OC.DefAt.mk ?a ?l ?c ?k
      (case a => k_is)
      (case l => k_is)
      (case c => k_is)
      (case k => k_is)
    · refine' OC.DefAt.mk ?a ?l ?c ?k
      (case a => k_is)
      (case l => k_is)
      (case c => k_is)
      (case k => k_is)
    · refine' OC.DefAt.mk ?a ?l ?c ?k
      (case a => k_is)
      (case l => k_is)
      (case c => k_is)
      (case k => k_is)
    · refine' OC.DefAt.mk ?a ?l ?c ?k
      (case a => k_is)
      (case l => k_is)
      (case c => k_is)
      (case k => k_is)
    · refine' OC.DefAt.mk ?a ?l ?c ?k
      (case a => k_is)
      (case l => k_is)
      (case c => k_is)
      (case k => k_is)
    · refine' OC.DefAt.mk ?a ?l ?c ?k
      (case a => k_is)
      (case l => k_is)
      (case c => k_is)
      (case k => k_is)
    · refine' OC.DefAt.mk ?a ?l ?c ?k
      (case a => k_is)
      (case l => k_is)
      (case c => k_is)
      (case k => k_is)
    · refine' OC.DefAt.mk ?a ?l ?c ?k
      (case a => k_is)
      (case l => k_is)
      (case c => k_is)
      (case k => k_is)
    · refine' OC.DefAt.mk ?a ?l ?c ?k
      (case a => k_is)
      (case l => k_is)
      (case c => k_is)
      (case k => k_is)
    · refine' OC.DefAt.mk ?a ?l ?c ?k
      (case a => k_is)
      (case l => k_is)
      (case c => k_is)
      (case k => k_is)
    · refine' OC.DefAt.mk ?a ?l ?c ?k
      (case a => k_is)
      (case l => k_is)
      (case c => k_is)
      (case k => k_is)
    · refine' OC.DefAt.mk ?a ?l ?c ?k
      (case a => k_is)
      (case l => k_is)
      (case c => k_is)
      (case k => k_is)
    · refine' OC.DefAt.mk ?a ?l ?c ?k
      (case a => k_is)
      (case l => k_is)
      (case c => k_is)
      (case k => k_is)
    · refine' OC.DefAt.mk ?a ?l ?c ?k
      (case a => k_is)
      (case l => k_is)
      (case c => k_is)
      (case k => k_is)
    · refine' OC.DefAt.mk ?a ?l ?c ?k
      (case a => k_is)
      (case l => k_is)
      (case c => k_is)
      (case k => k_is)
    · k_is
    · k_is
    · k_is
    · k_is
    · k_is
    · k_is
    · k_is
    · k_is
    · k_is
    · k_is
    · k_is
    · k_is
    · k_is
    · refine' OC.TupAt.mk ?th0 ?tl0
      (case th0 => k_is)
      (case tl0 => k_is)
    · refine' OC.TupAt.mk ?th1 ?tl1
      (case th1 => k_is)
      (case tl1 => k_is)
    · refine' OC.TupAt.mk ?th2 ?tl2
      (case th2 => k_is)
      (case tl2 => k_is)
    · refine' OC.OthAt.mk ?oh ?ol ?ok ?o1 ?o2
      (case oh => k_is)
      (case ol => k_is)
      (case ok => exact ⟨⟨_, _, rfl, rfl⟩, ⟨_, _, rfl, rfl⟩, trivial⟩)
      (case o1 => k_is)
      (case o2 => k_is)
