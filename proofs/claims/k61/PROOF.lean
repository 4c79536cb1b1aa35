import PyProof.Rows.All
import Wide.All
import OpenK.AllK
import Wide.FinOn
import HandS.ForMost
import HandS.Flow
import HandS.Defaults
import HandS.Style
import HandS.Exc
import HandS.TryOnly
import HandS.ExcOwn
import HandS.WordsExc
import HandS.TryMany
import HandS.HeadHook1
import HandS.HeadHook2
import HandS.Head0
import HandS.Head1
import HandS.Head2
import HandS.HeadEnd
import HandS.ExcIs
import HandS.IsInst
import KE.KStateDown
import Lean
import HandS.Base
import HandS.Call
import HandS.Ends
import HandS.More
import HandS.Words
import HandS.HeadHook3
import HandS.HeadHook4
import PySem.Challenge.RW_plinth_k61_planted_images_are_known
set_option Elab.async false
set_option linter.all false
set_option maxRecDepth 100000
set_option maxHeartbeats 4000000
/-! Z1: a separation layer over the hand layer: a frozen part of the heap (data), owned parts (slots). -/
namespace Z
open PySem L2
/-! ### footprints, assertions -/
abbrev Fp := Addr → Prop
def Fp.un (a b : Fp) : Fp := fun x => a x ∨ b x
def Sub (a b : Fp) : Prop := ∀ x, a x → b x
def Dj (a b : Fp) : Prop := ∀ x, a x → b x → False
def Fp.no : Fp := fun _ => False
theorem Sub.refl (a : Fp) : Sub a a := fun _ h => h
theorem Sub.trans {a b c : Fp} (h : Sub a b) (k : Sub b c) : Sub a c := fun x q => k x (h x q)
theorem Sub.l {a b : Fp} : Sub a (a.un b) := fun _ h => .inl h
theorem Sub.r {a b : Fp} : Sub b (a.un b) := fun _ h => .inr h
theorem Sub.un {a b c : Fp} (h : Sub a c) (k : Sub b c) : Sub (a.un b) c := fun x q => q.elim (h x) (k x)
theorem Sub.mono {a b c d : Fp} (h : Sub a c) (k : Sub b d) : Sub (a.un b) (c.un d) := fun x q => q.imp (h x) (k x)
theorem Sub.no {a : Fp} : Sub Fp.no a := fun _ h => h.elim
theorem Dj.symm {a b : Fp} (h : Dj a b) : Dj b a := fun x p q => h x q p
theorem Dj.sub {a b c d : Fp} (h : Dj a b) (p : Sub c a) (q : Sub d b) : Dj c d := fun x u v => h x (p x u) (q x v)
theorem Dj.unr {a b c : Fp} (h : Dj a b) (k : Dj a c) : Dj a (b.un c) := fun x u v => v.elim (h x u) (k x u)
theorem Dj.unl {a b c : Fp} (h : Dj a c) (k : Dj b c) : Dj (a.un b) c := fun x u v => u.elim (fun u => h x u v) (fun u => k x u v)
theorem Dj.no {a : Fp} : Dj Fp.no a := fun _ h => h.elim
def Ex (H H' : Hp) : Prop := ∀ a o, H a = some o → H' a = some o
theorem Ex.refl (H : Hp) : Ex H H := fun _ _ h => h
theorem Ex.trans {H H1 H2 : Hp} (a : Ex H H1) (b : Ex H1 H2) : Ex H H2 := fun x o h => b x o (a x o h)
theorem Ex.back {H H' : Hp} (e : Ex H H') {p : Addr} (h : H' p = none) : H p = none := by
  cases q : H p with
  | none => rfl
  | some o => rw [e p o q] at h; cases h
theorem Ex.new {H : Hp} {p : Addr} {o : HO} (h : H p = none) : Ex H (upd H p o) := fun a u e => by
  rw [upd_ne (ne_of_none e h)]; exact e
/-- frozen part, heap, footprint -/
abbrev As := Hp → Hp → Fp → Prop
structure Stb (P : As) : Prop where
  up : ∀ {F H : Hp} {T T' : Fp}, P F H T → Sub T T' → P F H T'
  st : ∀ {F H F' H' : Hp} {T : Fp}, P F H T → Ex F F' → (∀ b, T b → H' b = H b) → P F' H' T
def emp : As := fun _ _ _ => True
def sep (P Q : As) : As := fun F H T => ∃ T1 T2, Dj T1 T2 ∧ Sub T1 T ∧ Sub T2 T ∧ P F H T1 ∧ Q F H T2
theorem Stb.emp : Stb emp := ⟨fun _ _ => trivial, fun _ _ _ => trivial⟩
theorem Stb.sep {P Q : As} (p : Stb P) (q : Stb Q) : Stb (sep P Q) where
  up := fun ⟨T1, T2, d, a, b, x, y⟩ s => ⟨T1, T2, d, a.trans s, b.trans s, x, y⟩
  st := fun ⟨T1, T2, d, a, b, x, y⟩ e k => ⟨T1, T2, d, a, b, p.st x e fun c h => k c (a c h), q.st y e fun c h => k c (b c h)⟩
/-- entailment -/
def Im (P Q : As) : Prop := ∀ F H T, P F H T → Q F H T
theorem Im.refl (P : As) : Im P P := fun _ _ _ h => h
theorem Im.trans {P Q R : As} (a : Im P Q) (b : Im Q R) : Im P R := fun F H T h => b F H T (a F H T h)
section
variable {P Q R S : As}
theorem sep_mono (a : Im P R) (b : Im Q S) : Im (sep P Q) (sep R S) := fun F H _ ⟨T1, T2, d, p, q, x, y⟩ => ⟨T1, T2, d, p, q, a F H T1 x, b F H T2 y⟩
theorem sep_comm : Im (sep P Q) (sep Q P) := fun _ _ _ ⟨T1, T2, d, p, q, x, y⟩ => ⟨T2, T1, d.symm, q, p, y, x⟩
theorem sep_assoc : Im (sep (sep P Q) R) (sep P (sep Q R)) := fun _ _ _ ⟨T1, T2, d, p, q, ⟨T3, T4, d', p', q', x, y⟩, z⟩ =>
  ⟨T3, T4.un T2, d'.unr (d.sub p' (Sub.refl _)), p'.trans p, (q'.trans p).un q, x, T4, T2, d.sub q' (Sub.refl _), Sub.l, Sub.r, y, z⟩
theorem sep_assoc' : Im (sep P (sep Q R)) (sep (sep P Q) R) := fun _ _ _ ⟨T1, T2, d, p, q, x, ⟨T3, T4, d', p', q', y, z⟩⟩ =>
  ⟨T1.un T3, T4, (d.sub (Sub.refl _) q').unl d', p.un (p'.trans q), q'.trans q, ⟨T1, T3, d.sub (Sub.refl _) p', Sub.l, Sub.r, x, y⟩, z⟩
theorem sep_left (hp : Stb P) : Im (sep P Q) P := fun _ _ _ ⟨_, _, _, p, _, x, _⟩ => hp.up x p
theorem sep_right (hq : Stb Q) : Im (sep P Q) Q := fun _ _ _ ⟨_, _, _, _, q, _, y⟩ => hq.up y q
theorem sep_emp : Im P (sep emp P) := fun _ _ T h => ⟨Fp.no, T, Dj.no, Sub.no, Sub.refl _, trivial, h⟩
/-- swap the two first of three -/
theorem sep_swap : Im (sep P (sep Q R)) (sep Q (sep P R)) := sep_assoc'.trans ((sep_mono sep_comm (Im.refl _)).trans sep_assoc)
end
/-- what holds without a footprint -/
def pureA (p : Hp → Prop) : As := fun F _ _ => p F
/-! ### the course of a def: its base, where it stands -/
structure Base where
  F : Hp
  H : Hp
  T : Fp
structure St (B : Base) (F H : Hp) (T : Fp) : Prop where
  exF : Ex B.F F
  ex : Ex F H
  own : ∀ b, T b → F b = none ∧ H b ≠ none
  keep : ∀ b o, B.H b = some o → ¬ B.T b → H b = some o
  dom : ∀ b, B.H b ≠ none → H b ≠ none
  new : ∀ b, B.H b ≠ none → ¬ B.T b → ¬ T b
  nof : ∀ b, B.H b ≠ none → ¬ B.T b → B.F b = none → F b = none
structure WF (F H : Hp) (T : Fp) : Prop where
  ex : Ex F H
  own : ∀ b, T b → F b = none ∧ H b ≠ none
theorem WF.st {F H : Hp} {T : Fp} (w : WF F H T) : St ⟨F, H, T⟩ F H T := ⟨Ex.refl _, w.ex, w.own, fun _ _ h _ => h, fun _ h => h, fun _ _ h => h, fun _ _ _ h => h⟩
section
variable {B : Base} {F H F' H' : Hp} {T T' T1 T2 R : Fp}
theorem St.wf (s : St B F H T) : WF F H T := ⟨s.ex, s.own⟩
theorem St.less (s : St B F H T) (h : Sub T' T) : St B F H T' := ⟨s.exF, s.ex, fun b q => s.own b (h b q), s.keep, s.dom, fun b p q r => s.new b p q (h b r), s.nof⟩
theorem WF.less (s : WF F H T) (h : Sub T' T) : WF F H T' := ⟨s.ex, fun b q => s.own b (h b q)⟩
/-- a part of the state goes its own course: T1 is given to it, T2 stays aside -/
theorem St.call (s : St B F H (T1.un T2)) (d : Dj T1 T2) (c : St ⟨F, H, T1⟩ F' H' T') : St B F' H' (T'.un T2) ∧ Dj T' T2 ∧ (∀ b, T2 b → H' b = H b) ∧ Ex F F' := by
  have keep2 : ∀ b, T2 b → H' b = H b := fun b h => by
    have n : ¬ T1 b := fun q => d b q h
    have q := (s.own b (.inr h)).2
    cases e : H b with
    | none => exact absurd e q
    | some o => exact c.keep b o e n
  refine ⟨⟨s.exF.trans c.exF, c.ex, fun b h => ?_, fun b o h n => c.keep b o (s.keep b o h n) fun q => s.new b (by rw [h]; simp) n (.inl q), fun b h => c.dom b (s.dom b h), fun b h n => ?_, fun b h n f => c.nof b (s.dom b h) (fun q => s.new b h n (.inl q)) (s.nof b h n f)⟩, fun b h k => ?_, keep2, c.exF⟩
  · rcases h with h | h
    · exact c.own b h
    · have q := s.own b (.inr h)
      exact ⟨c.nof b q.2 (fun z => d b z h) q.1, by rw [keep2 b h]; exact q.2⟩
  · rintro (h' | h')
    · exact c.new b (s.dom b h) (fun q => s.new b h n (.inl q)) h'
    · exact s.new b h n (.inr h')
  · exact c.new b (s.own b (.inr k)).2 (fun q => d b q k) h
/-- a new object, owned -/
theorem St.alloc {p : Addr} {o : HO} (s : St B F H T) (hp : H p = none) : St B F (upd H p o) (T.un fun b => b = p) := by
  have k : ∀ b, H b ≠ none → b ≠ p := fun b h e => h (by rw [e]; exact hp)
  refine ⟨s.exF, s.ex.trans (Ex.new hp), fun b h => ?_, fun b u h n => Ex.new hp b u (s.keep b u h n), fun b h => ?_, fun b h n => ?_, s.nof⟩
  · rcases h with h | h
    · have q := s.own b h
      exact ⟨q.1, by rw [upd_ne (k b q.2)]; exact q.2⟩
    · subst h
      exact ⟨s.ex.back hp, by rw [upd_same]; simp⟩
  · have q := s.dom b h
    rw [upd_ne (k b q)]; exact q
  · rintro (h' | h')
    · exact s.new b h n h'
    · exact k b (s.dom b h) h'
/-- an owned object is written -/
theorem St.write {p : Addr} {o : HO} (s : St B F H T) (hp : T p) : St B F (upd H p o) T := by
  have q := s.own p hp
  refine ⟨s.exF, fun b u h => ?_, fun b h => ⟨(s.own b h).1, ?_⟩, fun b u h n => ?_, fun b h => ?_, s.new, s.nof⟩
  · rw [upd_ne (ne_of_none h q.1)]; exact s.ex b u h
  · by_cases e : b = p
    · subst e; rw [upd_same]; simp
    · rw [upd_ne e]; exact (s.own b h).2
  · by_cases e : b = p
    · subst e; exact absurd hp (s.new b (by rw [h]; simp) n)
    · rw [upd_ne e]; exact s.keep b u h n
  · by_cases e : b = p
    · subst e; rw [upd_same]; simp
    · rw [upd_ne e]; exact s.dom b h
/-- an owned object is frozen -/
theorem St.freeze {p : Addr} {o : HO} (s : St B F H (T.un fun b => b = p)) (hp : ¬ T p) (e : H p = some o) : St B (upd F p o) H T ∧ Ex F (upd F p o) := by
  have fp := (s.own p (.inr rfl)).1
  refine ⟨⟨s.exF.trans (Ex.new fp), fun b u h => ?_, fun b h => ?_, s.keep, s.dom, fun b h n q => s.new b h n (.inl q), fun b h n f => ?_⟩, Ex.new fp⟩
  · by_cases z : b = p
    · subst z; rw [upd_same] at h; cases h; exact e
    · rw [upd_ne z] at h; exact s.ex b u h
  · have z : b ≠ p := fun z => hp (z ▸ h)
    rw [upd_ne z]; exact s.own b (.inl h)
  · have z : b ≠ p := fun z => s.new b h n (.inr z)
    rw [upd_ne z]; exact s.nof b h n f
/-- a new object, frozen -/
theorem St.allocF {p : Addr} {o : HO} (s : St B F H T) (hp : H p = none) (hT : ∀ b, T b → b ≠ p := fun b h e => (s.own b h).2 (by rw [e]; exact hp)) : St B (upd F p o) (upd H p o) T ∧ Ex F (upd F p o) :=
  (s.alloc (o := o) hp).freeze (fun h => hT p h rfl) upd_same
end
/-! ### triples -/
/-- m from P: it ends with a, and Q a; what stands aside (R) is kept -/
def Ho (B : Base) {α : Type} (P : As) (m : Hp → (α → Hp → Prop) → Prop) (Q : α → As) : Prop :=
  ∀ F H T R, St B F H (T.un R) → Dj T R → P F H T → ∀ K : α → Hp → Prop,
    (∀ a F' H' T', St B F' H' (T'.un R) → Dj T' R → (∀ b, R b → H' b = H b) → Ex F F' → Q a F' H' T' → K a H') → m H K
section
variable {B : Base} {α β : Type} {P P' X : As} {m : Hp → (α → Hp → Prop) → Prop} {Q Q' : α → As}
theorem Ho.bind {n : α → Hp → (β → Hp → Prop) → Prop} {Q2 : β → As} (h : Ho B P m Q) (k : ∀ a, Ho B (Q a) (n a) Q2) : Ho B P (fun H K => m H fun a H1 => n a H1 K) Q2 :=
  fun F H T R s d p K hK => h F H T R s d p _ fun a F1 H1 T1 s1 d1 k1 e1 q1 => k a F1 H1 T1 R s1 d1 q1 K fun b F2 H2 T2 s2 d2 k2 e2 q2 =>
    hK b F2 H2 T2 s2 d2 (fun c hc => (k2 c hc).trans (k1 c hc)) (e1.trans e2) q2
theorem Ho.conseq (h : Ho B P m Q) (hp : Im P' P) (hq : ∀ a, Im (Q a) (Q' a)) : Ho B P' m Q' :=
  fun F H T R s d p K hK => h F H T R s d (hp F H T p) K fun a F1 H1 T1 s1 d1 k1 e1 q1 => hK a F1 H1 T1 s1 d1 k1 e1 (hq a F1 H1 T1 q1)
theorem Ho.frame (h : Ho B P m Q) (hx : Stb X) : Ho B (sep P X) m fun a => sep (Q a) X := by
  rintro F H T R s d ⟨T1, T2, d12, s1, s2, p, x⟩ K hK
  have d1 : Dj T1 (T2.un R) := d12.unr (d.sub s1 (Sub.refl _))
  refine h F H T1 (T2.un R) (s.less ((s1.trans Sub.l).un ((s2.trans Sub.l).un Sub.r))) d1 p K fun a F' H' T' s' d' k' e' q' => ?_
  refine hK a F' H' (T'.un T2) (s'.less ((Sub.l.un (Sub.l.trans Sub.r)).un (Sub.r.trans Sub.r))) ((d'.sub (Sub.refl _) Sub.r).unl (d.sub s2 (Sub.refl _))) (fun b hb => k' b (.inr hb)) e' ?_
  exact ⟨T', T2, d'.sub (Sub.refl _) Sub.l, Sub.l, Sub.r, q', hx.st x e' fun b hb => k' b (.inl hb)⟩
theorem Ho.pre {p : Prop} (h : p → Ho B P m Q) : Ho B (fun F H T => p ∧ P F H T) m Q := fun F H T R s d x K hK => h x.1 F H T R s d x.2 K hK
theorem Ho.ret {a : α} (h : Im P (Q a)) : Ho B P (fun H K => K a H) Q := fun F H T R s d p K hK => hK a F H T s d (fun _ _ => rfl) (Ex.refl _) (h F H T p)
end
end Z
/-! Z2: slots, the environment, expressions. -/
namespace Z
open PySem L2
/-! ### data -/
end Z
namespace L2
open PySem Z
theorem Rd.ext {H H' : Hp} {a : Addr} {u : HO} (e : Ex H H') (h : Rd H a u) : Rd H' a u := h.elim (fun h => .inl (e a _ h)) fun ⟨o, h⟩ => .inr ⟨o, e a _ h⟩
theorem SqL.ext {K : PySem.W.Frag} {H H' : Hp} {a : Addr} {xs : List V} (e : Ex H H') (h : SqL K H a xs) : SqL K H' a xs := h.imp (Rd.ext e) id
theorem SqT.ext {K : PySem.W.Frag} {H H' : Hp} {a : Addr} {xs : List V} (e : Ex H H') (h : SqT K H a xs) : SqT K H' a xs := h.imp (Rd.ext e) id
mutual
inductive Dq (K : PySem.W.Frag) (F : Hp) : V → PyData → Prop
  | non : Dq K F .non .none
  | bl (b : Bool) : Dq K F (.bl b) (.bool b)
  | int (i : Int) : Dq K F (.int i) (.int i)
  | str (x : Str) : Dq K F (.str x) (.str x)
  | lst {a : Addr} {xs : List V} {ds : List PyData} : F a = some (.lst xs) → DqAll K F xs ds → Dq K F (.ref a) (.list ds)
  | tup {a : Addr} {xs : List V} {ds : List PyData} : SqT K F a xs → DqAll K F xs ds → Dq K F (.ref a) (.tuple ds)
inductive DqAll (K : PySem.W.Frag) (F : Hp) : List V → List PyData → Prop
  | nil : DqAll K F [] []
  | cons {v : V} {vs : List V} {d : PyData} {ds : List PyData} : Dq K F v d → DqAll K F vs ds → DqAll K F (v :: vs) (d :: ds)
end
mutual
theorem Dq.dp {K : PySem.W.Frag} {H : Hp} : ∀ {d : PyData} {v : V}, Dq K H v d → Dp K H v d
  | .none, _, h => by cases h; exact .non
  | .bool b, _, h => by cases h; exact .bl b
  | .int i, _, h => by cases h; exact .int i
  | .str x, _, h => by cases h; exact .str x
  | .list ds, _, h => by cases h with | lst q a => exact .lst (SqL.of q) (DqAll.dp a)
  | .tuple ds, _, h => by cases h with | tup q a => exact .tup q (DqAll.dp a)
  | .dict _, _, h => by cases h
theorem DqAll.dp {K : PySem.W.Frag} {H : Hp} : ∀ {ds : List PyData} {vs : List V}, DqAll K H vs ds → DpAll K H vs ds
  | [], _, h => by cases h; exact .nil
  | d :: ds, _, h => by cases h with | cons x y => exact .cons (Dq.dp x) (DqAll.dp y)
end
mutual
theorem Dq.ext {K : PySem.W.Frag} {H H' : Hp} (e : Ex H H') : ∀ {d : PyData} {v : V}, Dq K H v d → Dq K H' v d
  | .none, _, h => by cases h; exact .non
  | .bool b, _, h => by cases h; exact .bl b
  | .int i, _, h => by cases h; exact .int i
  | .str x, _, h => by cases h; exact .str x
  | .list ds, _, h => by cases h with | lst q a => exact .lst (e _ _ q) (DqAll.ext e a)
  | .tuple ds, _, h => by cases h with | tup q a => exact .tup (SqT.ext e q) (DqAll.ext e a)
  | .dict _, _, h => by cases h
theorem DqAll.ext {K : PySem.W.Frag} {H H' : Hp} (e : Ex H H') : ∀ {ds : List PyData} {vs : List V}, DqAll K H vs ds → DqAll K H' vs ds
  | [], _, h => by cases h; exact .nil
  | d :: ds, _, h => by cases h with | cons x y => exact .cons (Dq.ext e x) (DqAll.ext e y)
end
section
variable {K : PySem.W.Frag} {H H' : Hp} {vs ws : List V} {ds es : List PyData}
theorem DqAll.length : ∀ {vs : List V} {ds : List PyData}, DqAll K H vs ds → vs.length = ds.length
  | _, _, .nil => rfl
  | _, _, .cons _ h => congrArg Nat.succ (DqAll.length h)
theorem DqAll.append : ∀ {vs ws : List V} {ds es : List PyData}, DqAll K H vs ds → DqAll K H ws es → DqAll K H (vs ++ ws) (ds ++ es)
  | _, _, _, _, .nil, h => h
  | _, _, _, _, .cons x y, h => .cons x (DqAll.append y h)
theorem DqAll.get : ∀ {vs : List V} {ds : List PyData} {i : Nat} {v : V}, DqAll K H vs ds → vs[i]? = some v → ∃ d, ds[i]? = some d ∧ Dq K H v d
  | _, _, _, _, .nil, e => by simp at e
  | _, _, 0, _, .cons x _, e => by simp at e; subst e; exact ⟨_, rfl, x⟩
  | _, _, i + 1, v, .cons _ y, e => by
    obtain ⟨d, h1, h2⟩ := DqAll.get (i := i) (v := v) y (by simpa using e)
    exact ⟨d, by simpa using h1, h2⟩
theorem DqAll.get' : ∀ {vs : List V} {ds : List PyData} {i : Nat} {d : PyData}, DqAll K H vs ds → ds[i]? = some d → ∃ v, vs[i]? = some v ∧ Dq K H v d
  | _, _, _, _, .nil, e => by simp at e
  | _, _, 0, _, .cons x _, e => by simp at e; subst e; exact ⟨_, rfl, x⟩
  | _, _, i + 1, v, .cons _ y, e => by
    obtain ⟨d, h1, h2⟩ := DqAll.get' (i := i) (d := v) y (by simpa using e)
    exact ⟨d, by simpa using h1, h2⟩
theorem DqAll.take : ∀ {vs : List V} {ds : List PyData} (n : Nat), DqAll K H vs ds → DqAll K H (vs.take n) (ds.take n)
  | _, _, 0, _ => .nil
  | _, _, _ + 1, .nil => .nil
  | _, _, n + 1, .cons x y => .cons x (DqAll.take n y)
theorem DqAll.drop : ∀ {vs : List V} {ds : List PyData} (n : Nat), DqAll K H vs ds → DqAll K H (vs.drop n) (ds.drop n)
  | _, _, 0, h => h
  | _, _, _ + 1, .nil => .nil
  | _, _, n + 1, .cons _ y => DqAll.drop n y
theorem DqAll.set {v : V} {d : PyData} (q : Dq K H v d) : ∀ {vs : List V} {ds : List PyData} (n : Nat), DqAll K H vs ds → DqAll K H (vs.set n v) (ds.set n d)
  | _, _, _, .nil => .nil
  | _, _, 0, .cons _ y => .cons q y
  | _, _, n + 1, .cons x y => .cons x (DqAll.set q n y)
theorem DqAll.one {v : V} {d : PyData} (q : Dq K H v d) : DqAll K H [v] [d] := .cons q .nil
theorem DqAll.reverse : ∀ {vs : List V} {ds : List PyData}, DqAll K H vs ds → DqAll K H vs.reverse ds.reverse
  | _, _, .nil => .nil
  | _, _, .cons x y => by rw [List.reverse_cons, List.reverse_cons]; exact (DqAll.reverse y).append (.one x)
theorem DqAll.dropLast (h : DqAll K H vs ds) : DqAll K H vs.dropLast ds.dropLast := by
  rw [List.dropLast_eq_take, List.dropLast_eq_take, h.length]; exact h.take _
theorem DqAll.ints : ∀ (ns : List Int), DqAll K H (ns.map V.int) (ns.map PyData.int)
  | [] => .nil
  | n :: ns => .cons (.int n) (DqAll.ints ns)
theorem DqAll.ints_inv : ∀ {ns : List Int} {vs : List V}, DqAll K H vs (ns.map PyData.int) → vs = ns.map V.int
  | [], _, h => by cases h; rfl
  | n :: ns, _, h => by
    cases h with
    | cons x y => cases x; rw [DqAll.ints_inv y]; rfl
theorem DqAll.bools : ∀ (ns : List Bool), DqAll K H (ns.map V.bl) (ns.map PyData.bool)
  | [] => .nil
  | n :: ns => .cons (.bl n) (DqAll.bools ns)
theorem DqAll.bools_inv : ∀ {ns : List Bool} {vs : List V}, DqAll K H vs (ns.map PyData.bool) → vs = ns.map V.bl
  | [], _, h => by cases h; rfl
  | n :: ns, _, h => by
    cases h with
    | cons x y => cases x; rw [DqAll.bools_inv y]; rfl
end
end L2
namespace Z
open PySem L2
/-! ### slots -/
structure Sl where
  p : V → As
  s : ∀ v, Stb (p v)
section
variable (K : PySem.W.Frag)
def dat (d : PyData) : Sl := ⟨fun v F _ _ => Dq K F v d, fun v => ⟨fun h _ => h, fun h e _ => Dq.ext e h⟩⟩
/-- an owned list of data -/
def lst (ds : List PyData) : Sl := ⟨fun v F H T => ∃ a vs, v = .ref a ∧ T a ∧ H a = some (.lst vs) ∧ DqAll K F vs ds,
  fun v => ⟨fun ⟨a, vs, e, t, h, q⟩ s => ⟨a, vs, e, s a t, h, q⟩, fun ⟨a, vs, e, t, h, q⟩ x k => ⟨a, vs, e, t, (k a t).trans h, DqAll.ext x q⟩⟩⟩
abbrev dI (i : Int) : Sl := dat K (.int i)
abbrev dB (i : Bool) : Sl := dat K (.bool i)
abbrev dS (x : Str) : Sl := dat K (.str x)
abbrev dN : Sl := dat K .none
abbrev oL (ns : List Int) : Sl := lst K (ns.map PyData.int)
abbrev dL (ns : List Int) : Sl := dat K (.list (ns.map PyData.int))
end
/-- a known value -/
def val (v0 : V) : Sl := ⟨fun v _ _ _ => v = v0, fun v => ⟨fun h _ => h, fun h _ _ => h⟩⟩
abbrev Env := List (Option Sl)
def En : Env → L2.St → As
  | [], [] => emp
  | .none :: ρ, _ :: σ => En ρ σ
  | .some s :: ρ, .some v :: σ => sep (s.p v) (En ρ σ)
  | _, _ => fun _ _ _ => False
theorem En.stb : ∀ (ρ : Env) (σ : L2.St), Stb (En ρ σ)
  | [], [] => Stb.emp
  | .none :: ρ, _ :: σ => En.stb ρ σ
  | .some s :: ρ, .some v :: σ => Stb.sep (s.s v) (En.stb ρ σ)
  | [], _ :: _ => ⟨fun h => h.elim, fun h => h.elim⟩
  | .none :: _, [] => ⟨fun h => h.elim, fun h => h.elim⟩
  | .some _ :: _, [] => ⟨fun h => h.elim, fun h => h.elim⟩
  | .some _ :: _, .none :: _ => ⟨fun h => h.elim, fun h => h.elim⟩
section
variable {ρ ρ' : Env} {σ : L2.St} {i : Nat} {s : Sl} {v : V} {F H : Hp} {T : Fp}
theorem En.len : ∀ {ρ : Env} {σ : L2.St} {T : Fp}, En ρ σ F H T → σ.length = ρ.length
  | [], [], _, _ => rfl
  | .none :: ρ, _ :: σ, _, h => congrArg Nat.succ (En.len (ρ := ρ) (σ := σ) h)
  | .some s :: ρ, .some v :: σ, _, ⟨_, _, _, _, _, _, h⟩ => congrArg Nat.succ (En.len (ρ := ρ) (σ := σ) h)
  | [], _ :: _, _, h => h.elim
  | .none :: _, [], _, h => h.elim
  | .some _ :: _, [], _, h => h.elim
  | .some _ :: _, .none :: _, _, h => h.elim
/-- the slot i taken out -/
theorem En.split : ∀ {ρ : Env} {σ : L2.St} {i : Nat} {s : Sl} {T : Fp}, ρ[i]? = some (some s) → En ρ σ F H T → ∃ v, σ[i]? = some (some v) ∧ sep (s.p v) (En (ρ.set i none) σ) F H T
  | .none :: ρ, _ :: σ, i + 1, s, _, e, h => by
    obtain ⟨v, e1, h1⟩ := En.split (ρ := ρ) (σ := σ) (i := i) (s := s) (by simpa using e) h
    exact ⟨v, by simpa using e1, h1⟩
  | .some t :: ρ, .some u :: σ, 0, s, _, e, h => by
    have e' : t = s := by simpa using e
    subst e'
    exact ⟨u, rfl, h⟩
  | .some t :: ρ, .some u :: σ, i + 1, s, T, e, ⟨T1, T2, d, s1, s2, x, h⟩ => by
    obtain ⟨v, e1, h1⟩ := En.split (ρ := ρ) (σ := σ) (i := i) (s := s) (by simpa using e) h
    refine ⟨v, by simpa using e1, ?_⟩
    show sep (s.p v) (sep (t.p u) (En (ρ.set i none) σ)) F H T
    exact sep_swap F H T ⟨T1, T2, d, s1, s2, x, h1⟩
  | [], _, _, _, _, e, _ => by simp at e
  | .none :: ρ, [], _, _, _, _, h => h.elim
  | .none :: ρ, _ :: _, 0, _, _, e, _ => by simp at e
  | .some _ :: _, [], _, _, _, _, h => h.elim
  | .some _ :: _, .none :: _, _, _, _, _, h => h.elim
/-- a slot put in -/
theorem En.join : ∀ {ρ : Env} {σ : L2.St} {i : Nat} {s : Sl} {v : V} {T : Fp}, σ[i]? = some (some v) → ρ[i]? = some none → sep (s.p v) (En ρ σ) F H T → En (ρ.set i (some s)) σ F H T
  | .none :: ρ, x :: σ, 0, s, v, _, e, _, h => by
    have e' : x = some v := by simpa using e
    subst e'
    exact h
  | .none :: ρ, _ :: σ, i + 1, s, v, _, e, en, h => En.join (ρ := ρ) (σ := σ) (i := i) (by simpa using e) (by simpa using en) h
  | .some t :: ρ, .some u :: σ, i + 1, s, v, T, e, en, h => by
    show sep (t.p u) (En (ρ.set i (some s)) σ) F H T
    obtain ⟨T1, T2, d, s1, s2, x, h1⟩ := sep_swap F H T h
    exact ⟨T1, T2, d, s1, s2, x, En.join (ρ := ρ) (σ := σ) (i := i) (by simpa using e) (by simpa using en) h1⟩
  | [], _, _, _, _, _, _, en, _ => by simp at en
  | .none :: ρ, [], _, _, _, _, e, _, _ => by simp at e
  | .some _ :: _, _, 0, _, _, _, _, en, _ => by simp at en
  | .some _ :: _, [], _ + 1, _, _, _, e, _, _ => by simp at e
  | .some _ :: _, .none :: _, _ + 1, _, _, _, _, _, ⟨_, _, _, _, _, _, h⟩ => h.elim
/-- a name is stored -/
theorem En.store : ∀ {ρ : Env} {σ : L2.St} {i : Nat} {s : Sl} {v : V} {T : Fp}, i < ρ.length → sep (s.p v) (En ρ σ) F H T → En (ρ.set i (some s)) (σ.set i (some v)) F H T
  | .none :: ρ, _ :: σ, 0, s, v, _, _, h => h
  | .some t :: ρ, .some u :: σ, 0, s, v, T, _, h => by
    obtain ⟨T1, T2, d, s1, s2, x, h1⟩ := h
    exact ⟨T1, T2, d, s1, s2, x, sep_right (En.stb ρ σ) F H T2 h1⟩
  | .none :: ρ, _ :: σ, i + 1, s, v, _, l, h => En.store (ρ := ρ) (σ := σ) (i := i) (by simpa using l) h
  | .some t :: ρ, .some u :: σ, i + 1, s, v, T, l, h => by
    show sep (t.p u) (En (ρ.set i (some s)) (σ.set i (some v))) F H T
    obtain ⟨T1, T2, d, s1, s2, x, h1⟩ := sep_swap F H T h
    exact ⟨T1, T2, d, s1, s2, x, En.store (ρ := ρ) (σ := σ) (i := i) (by simpa using l) h1⟩
  | [], _, _, _, _, _, l, _ => by simp at l
  | .none :: ρ, [], _, _, _, _, _, ⟨_, _, _, _, _, _, h⟩ => h.elim
  | .some _ :: _, [], _, _, _, _, _, ⟨_, _, _, _, _, _, h⟩ => h.elim
  | .some _ :: _, .none :: _, _, _, _, _, _, ⟨_, _, _, _, _, _, h⟩ => h.elim
/-- what is known is forgotten -/
theorem En.drop : ∀ {ρ : Env} {σ : L2.St} (i : Nat) {T : Fp}, En ρ σ F H T → En (ρ.set i none) σ F H T
  | [], _, _, _, h => h
  | .none :: ρ, _ :: σ, 0, _, h => h
  | .some t :: ρ, .some u :: σ, 0, T, h => sep_right (En.stb ρ σ) F H T h
  | .none :: ρ, _ :: σ, i + 1, _, h => En.drop (ρ := ρ) (σ := σ) i h
  | .some t :: ρ, .some u :: σ, i + 1, T, ⟨T1, T2, d, s1, s2, x, h⟩ => ⟨T1, T2, d, s1, s2, x, En.drop (ρ := ρ) (σ := σ) i h⟩
  | .none :: ρ, [], _, _, h => h.elim
  | .some _ :: _, [], _, _, h => h.elim
  | .some _ :: _, .none :: _, _, _, h => h.elim
end
inductive EnLe : Env → Env → Prop
  | nil : EnLe [] []
  | same {s : Option Sl} {ρ ρ' : Env} : EnLe ρ ρ' → EnLe (s :: ρ) (s :: ρ')
  | less {s : Option Sl} {ρ ρ' : Env} : EnLe ρ ρ' → EnLe (s :: ρ) (.none :: ρ')
section
variable {ρ ρ' : Env} {σ : L2.St} {i : Nat} {s : Sl} {v : V} {F H : Hp} {T : Fp}
theorem EnLe.refl : ∀ (ρ : Env), EnLe ρ ρ
  | [] => .nil
  | _ :: ρ => .same (EnLe.refl ρ)
theorem En.le : ∀ {ρ ρ' : Env} {σ : L2.St} {T : Fp}, EnLe ρ ρ' → En ρ σ F H T → En ρ' σ F H T
  | _, _, σ, _, .nil, h => h
  | .none :: _, _, [], _, .same _, h => h.elim
  | .none :: _, _, x :: σ, _, .same l, h => En.le (σ := σ) l h
  | .some s :: _, _, .some v :: σ, _, .same l, ⟨T1, T2, d, s1, s2, x, h⟩ => ⟨T1, T2, d, s1, s2, x, En.le (σ := σ) l h⟩
  | .some s :: _, _, [], _, .same l, h => h.elim
  | .some s :: _, _, .none :: _, _, .same l, h => h.elim
  | .none :: _, _, [], _, .less l, h => h.elim
  | .none :: _, _, x :: σ, _, .less l, h => En.le (σ := σ) l h
  | .some s :: ρ, _, .some v :: σ, T, .less l, h => En.le (σ := σ) l (sep_right (En.stb ρ σ) F H T h)
  | .some s :: _, _, [], _, .less l, h => h.elim
  | .some s :: _, _, .none :: _, _, .less l, h => h.elim
end
/-! ### expressions -/
def Ev (B : Base) (te : TE) (ρ : Env) (s : Sl) (ρ' : Env) : Prop := ∀ σ, Ho B (En ρ σ) (te σ) fun v => sep (s.p v) (En ρ' σ)
/-- a test -/
def Et (B : Base) (tt : TT) (ρ : Env) (b : Bool) (ρ' : Env) : Prop := ∀ σ, Ho B (En ρ σ) (tt σ) fun c => fun F H T => c = b ∧ En ρ' σ F H T
/-- arguments, all data -/
def allD (K : PySem.W.Frag) (vs : List V) (ds : List PyData) : As := fun F _ _ => DqAll K F vs ds
theorem allD.stb {K : PySem.W.Frag} {vs : List V} {ds : List PyData} : Stb (allD K vs ds) := ⟨fun h _ => h, fun h e _ => DqAll.ext e h⟩
def Ed (K : PySem.W.Frag) (B : Base) (ta : TA) (ρ : Env) (ds : List PyData) (ρ' : Env) : Prop := ∀ σ, Ho B (En ρ σ) (ta σ) fun vs => sep (allD K vs ds) (En ρ' σ)
/-- arguments -/
inductive Arg where
  | sl (s : Sl) | bor (i : Nat)
def Ar (σ : L2.St) : List Arg → List V → As
  | [], [] => emp
  | .sl s :: as, v :: vs => sep (s.p v) (Ar σ as vs)
  | .bor i :: as, v :: vs => fun F H T => σ[i]? = some (some v) ∧ Ar σ as vs F H T
  | _, _ => fun _ _ _ => False
theorem Ar.stb (σ : L2.St) : ∀ (as : List Arg) (vs : List V), Stb (Ar σ as vs)
  | [], [] => Stb.emp
  | .sl s :: as, v :: vs => Stb.sep (s.s v) (Ar.stb σ as vs)
  | .bor i :: as, v :: vs => ⟨fun h s => ⟨h.1, (Ar.stb σ as vs).up h.2 s⟩, fun h e k => ⟨h.1, (Ar.stb σ as vs).st h.2 e k⟩⟩
  | [], _ :: _ => ⟨fun h => h.elim, fun h => h.elim⟩
  | .sl _ :: _, [] => ⟨fun h => h.elim, fun h => h.elim⟩
  | .bor _ :: _, [] => ⟨fun h => h.elim, fun h => h.elim⟩
def Ea (B : Base) (ta : TA) (ρ : Env) (as : List Arg) (ρ' : Env) : Prop := ∀ σ, Ho B (En ρ σ) (ta σ) fun vs => sep (Ar σ as vs) (En ρ' σ)
end Z
/-! Z3: rules for expressions. -/
namespace Z
open PySem L2
section
variable {B : Base} {te ta tb : TE} {ρ ρ1 ρ2 ρ' : Env} {s s1 s2 s3 : Sl} {K : PySem.W.Frag} {d e : PyData} {ds es : List PyData} {i j : Int} {b c : Bool} {tt tu : TT}
/-! ### the frame of a judgement -/
theorem Ev.with' (h : Ev B te ρ s ρ') (σ : L2.St) {X : As} (hx : Stb X) : Ho B (sep X (En ρ σ)) (te σ) fun v => sep (sep X (s.p v)) (En ρ' σ) :=
  ((h σ).frame hx).conseq sep_comm fun v => sep_comm.trans sep_assoc'
theorem Et.with' (h : Et B tt ρ b ρ') (σ : L2.St) {X : As} (hx : Stb X) : Ho B (sep X (En ρ σ)) (tt σ) fun c => fun F H T => c = b ∧ sep X (En ρ' σ) F H T :=
  ((h σ).frame hx).conseq sep_comm fun v F H T ⟨T1, T2, d, a, b, ⟨e, x⟩, y⟩ => ⟨e, T2, T1, d.symm, b, a, y, x⟩
theorem Ev.weak (h : Ev B te ρ s ρ') (l : EnLe ρ' ρ2) : Ev B te ρ s ρ2 := fun σ => (h σ).conseq (Im.refl _) fun v => sep_mono (Im.refl _) fun F H T => En.le l
/-- a two-place operation by values -/
def RR (r : R2) (s1 s2 s3 : Sl) : Prop := ∀ (B : Base) v1 v2, Ho B (sep (s1.p v1) (s2.p v2)) (r v1 v2) fun v => s3.p v
def RU (r : V → Hp → VK → Prop) (s1 s3 : Sl) : Prop := ∀ (B : Base) v1, Ho B (s1.p v1) (r v1) fun v => s3.p v
theorem ev_op {r : R2} (ha : Ev B ta ρ s1 ρ1) (hb : Ev B tb ρ1 s2 ρ2) (hr : RR r s1 s2 s3) : Ev B (tOp r ta tb) ρ s3 ρ2 := fun σ =>
  (ha σ).bind fun v1 => (hb.with' σ (s1.s v1)).bind fun v2 => (hr B v1 v2).frame (En.stb _ _)
theorem ev_un {r : V → Hp → VK → Prop} (ha : Ev B ta ρ s1 ρ1) (hr : RU r s1 s3) : Ev B (tUn r ta) ρ s3 ρ1 := fun σ =>
  (ha σ).bind fun v1 => (hr B v1).frame (En.stb _ _)
/-- an operation that needs no heap, and changes none -/
theorem RR.pure {r : R2} (h : ∀ F H v1 v2, (∃ T, s1.p v1 F H T) → (∃ T, s2.p v2 F H T) → ∃ v, (∀ T, s3.p v F H T) ∧ ∀ Q : VK, Q v H → r v1 v2 H Q) : RR r s1 s2 s3 := fun B v1 v2 F H T R s d ⟨T1, T2, _, _, _, p1, p2⟩ K hK => by
  obtain ⟨v, h1, h2⟩ := h F H v1 v2 ⟨_, p1⟩ ⟨_, p2⟩
  exact h2 _ (hK v F H T s d (fun _ _ => rfl) (Ex.refl _) (h1 T))
theorem RU.pure {r : V → Hp → VK → Prop} (h : ∀ F H v1, (∃ T, s1.p v1 F H T) → ∃ v, (∀ T, s3.p v F H T) ∧ ∀ Q : VK, Q v H → r v1 H Q) : RU r s1 s3 := fun B v1 F H T R s d p1 K hK => by
  obtain ⟨v, h1, h2⟩ := h F H v1 ⟨_, p1⟩
  exact h2 _ (hK v F H T s d (fun _ _ => rfl) (Ex.refl _) (h1 T))
theorem RR.or1 {r r' : R2} (h : RR r s1 s2 s3) : RR (fun x y H Q => r x y H Q ∨ r' x y H Q) s1 s2 s3 := fun B v1 v2 F H T R s d p K hK => .inl (h B v1 v2 F H T R s d p K hK)
theorem RR.or2 {r r' : R2} (h : RR r' s1 s2 s3) : RR (fun x y H Q => r x y H Q ∨ r' x y H Q) s1 s2 s3 := fun B v1 v2 F H T R s d p K hK => .inr (h B v1 v2 F H T R s d p K hK)
/-! ### names and constants -/
theorem ev_var {n : Nat} (h : ρ[n]? = some (some (dat K d))) : Ev B (tVar n) ρ (dat K d) ρ := fun σ F H T R st dj p k hk => by
  obtain ⟨v, e, T1, T2, _, _, _, x, _⟩ := En.split h p
  exact ⟨v, e, hk v F H T st dj (fun _ _ => rfl) (Ex.refl _) ⟨Fp.no, T, Dj.no, Sub.no, Sub.refl _, x, p⟩⟩
/-- the variable gives away what it holds -/
theorem ev_mv {n : Nat} (h : ρ[n]? = some (some s)) : Ev B (tVar n) ρ s (ρ.set n none) := fun σ F H T R st dj p k hk => by
  obtain ⟨v, e, x⟩ := En.split h p
  exact ⟨v, e, hk v F H T st dj (fun _ _ => rfl) (Ex.refl _) x⟩
theorem ev_c {v : V} (h : ∀ F H T, s.p v F H T) : Ev B (tC v) ρ s ρ := fun σ F H T R st dj p k hk =>
  hk v F H T st dj (fun _ _ => rfl) (Ex.refl _) ⟨Fp.no, T, Dj.no, Sub.no, Sub.refl _, h F H _, p⟩
theorem ev_int : Ev B (tC (.int i)) ρ (dI K i) ρ := ev_c fun _ _ _ => .int i
theorem ev_bl : Ev B (tC (.bl b)) ρ (dB K b) ρ := ev_c fun _ _ _ => .bl b
theorem ev_non : Ev B (tC .non) ρ (dN K) ρ := ev_c fun _ _ _ => .non
theorem ev_str {x : Str} : Ev B (tC (.str x)) ρ (dS K x) ρ := ev_c fun _ _ _ => .str x
/-! ### ints -/
theorem rr_I {C : Int → Int → Prop} {g : Int → Int → V} (hs : ∀ F H T, s3.p (g i j) F H T) (hc : C i j) : RR (rI C g) (dI K i) (dI K j) s3 := RR.pure fun F H v1 v2 ⟨_, h1⟩ ⟨_, h2⟩ => by
  cases h1; cases h2
  exact ⟨g i j, hs F H, fun Q q => ⟨i, j, rfl, rfl, hc, q⟩⟩
theorem rr_I0 {g : Int → Int → V} (hs : ∀ F H T, s3.p (g i j) F H T) : RR (rI0 g) (dI K i) (dI K j) s3 := RR.pure fun F H v1 v2 ⟨_, h1⟩ ⟨_, h2⟩ => by
  cases h1; cases h2
  exact ⟨g i j, hs F H, fun Q q => ⟨i, j, rfl, rfl, q⟩⟩
theorem rr_I0i {f : Int → Int → Int} : RR (rI0 fun i j => .int (f i j)) (dI K i) (dI K j) (dI K (f i j)) := rr_I0 fun _ _ _ => .int _
theorem rr_I0b {f : Int → Int → Bool} : RR (rI0 fun i j => .bl (f i j)) (dI K i) (dI K j) (dB K (f i j)) := rr_I0 fun _ _ _ => .bl _
theorem rr_Ii {C : Int → Int → Prop} {f : Int → Int → Int} (hc : C i j) : RR (rI C fun i j => .int (f i j)) (dI K i) (dI K j) (dI K (f i j)) := rr_I (fun _ _ _ => .int _) hc
theorem ru_i {f : Int → Int} : RU (rU fun i => .int (f i)) (dI K i) (dI K (f i)) := RU.pure fun F H v1 ⟨_, h1⟩ => by
  cases h1
  exact ⟨.int (f i), fun _ => .int _, fun Q q => ⟨i, rfl, q⟩⟩
/-- equality of scalars -/
theorem rr_eqI : RR rEq (dI K i) (dI K j) (dB K (decide (i = j))) := RR.pure fun F H v1 v2 ⟨_, h1⟩ ⟨_, h2⟩ => by
  cases h1; cases h2
  exact ⟨.bl (decide (V.int i = V.int j)), fun _ => by rw [show decide (V.int i = V.int j) = decide (i = j) from by rw [dec_int, Bool.beq_eq_decide_eq]]; exact .bl _, fun Q q => ⟨rfl, q⟩⟩
theorem rr_neI : RR rNe (dI K i) (dI K j) (dB K (!decide (i = j))) := RR.pure fun F H v1 v2 ⟨_, h1⟩ ⟨_, h2⟩ => by
  cases h1; cases h2
  exact ⟨.bl (!decide (V.int i = V.int j)), fun _ => by rw [show decide (V.int i = V.int j) = decide (i = j) from by rw [dec_int, Bool.beq_eq_decide_eq]]; exact .bl _, fun Q q => ⟨rfl, q⟩⟩
theorem rr_eqS {x y : Str} : RR rEq (dS K x) (dS K y) (dB K (decide (x = y))) := RR.pure fun F H v1 v2 ⟨_, h1⟩ ⟨_, h2⟩ => by
  cases h1; cases h2
  exact ⟨.bl (decide (V.str x = V.str y)), fun _ => by rw [show decide (V.str x = V.str y) = decide (x = y) from by rw [dec_str, Bool.beq_eq_decide_eq]]; exact .bl _, fun Q q => ⟨rfl, q⟩⟩
theorem rr_neS {x y : Str} : RR rNe (dS K x) (dS K y) (dB K (!decide (x = y))) := RR.pure fun F H v1 v2 ⟨_, h1⟩ ⟨_, h2⟩ => by
  cases h1; cases h2
  exact ⟨.bl (!decide (V.str x = V.str y)), fun _ => by rw [show decide (V.str x = V.str y) = decide (x = y) from by rw [dec_str, Bool.beq_eq_decide_eq]]; exact .bl _, fun Q q => ⟨rfl, q⟩⟩
theorem rr_eqB : RR rEq (dB K b) (dB K c) (dB K (b == c)) := RR.pure fun F H v1 v2 ⟨_, h1⟩ ⟨_, h2⟩ => by
  cases h1; cases h2
  exact ⟨.bl (decide (V.bl b = V.bl c)), fun _ => by rw [dec_bl]; exact .bl _, fun Q q => ⟨rfl, q⟩⟩
theorem rr_neB : RR rNe (dB K b) (dB K c) (dB K (!(b == c))) := RR.pure fun F H v1 v2 ⟨_, h1⟩ ⟨_, h2⟩ => by
  cases h1; cases h2
  exact ⟨.bl (!decide (V.bl b = V.bl c)), fun _ => by rw [dec_bl]; exact .bl _, fun Q q => ⟨rfl, q⟩⟩
/-- equality of data -/
theorem rr_eqD (hd : SeqAt.shaped d = true) (he : SeqAt.shaped e = true) : RR (rEqD K) (dat K d) (dat K e) (dB K (PyData.eqv d e)) := fun B v1 v2 F H T R st dj ⟨T1, T2, _, _, _, p1, p2⟩ k hk =>
  ⟨d, e, (Dq.ext st.ex p1).dp, (Dq.ext st.ex p2).dp, hd, he, hk _ F H T st dj (fun _ _ => rfl) (Ex.refl _) (.bl _)⟩
theorem rr_neD (hd : SeqAt.shaped d = true) (he : SeqAt.shaped e = true) : RR (rNeD K) (dat K d) (dat K e) (dB K (!PyData.eqv d e)) := fun B v1 v2 F H T R st dj ⟨T1, T2, _, _, _, p1, p2⟩ k hk =>
  ⟨d, e, (Dq.ext st.ex p1).dp, (Dq.ext st.ex p2).dp, hd, he, hk _ F H T st dj (fun _ _ => rfl) (Ex.refl _) (.bl _)⟩
/-! ### tests -/
theorem et_test (h : Ev B te ρ (dB K b) ρ') : Et B (tTest te) ρ b ρ' := fun σ => Ho.bind (h σ) (n := fun x H Q => ∃ k, x = .bl k ∧ Q k H) fun v F H T R st dj ⟨T1, T2, _, _, s2, p1, p2⟩ k hk => by
  cases p1
  exact ⟨b, rfl, hk b F H T st dj (fun _ _ => rfl) (Ex.refl _) ⟨rfl, (En.stb _ _).up p2 s2⟩⟩
theorem et_B (h : Ev B te ρ (dB K b) ρ') : Et B (tB te) ρ b ρ' := et_test h
/-- a value's truth -/
def tTruZ (K : PySem.W.Frag) (ta : TE) : TT := fun σ H Q => ta σ H fun x H' => ∃ k, TruV K x H' k ∧ Q k H'
def Tru (K : PySem.W.Frag) (s : Sl) (b : Bool) : Prop := ∀ v F H T, Ex F H → s.p v F H T → TruV K v H b
theorem et_tru (h : Ev B te ρ s ρ') (ht : Tru K s b) : Et B (tTruZ K te) ρ b ρ' := fun σ => Ho.bind (h σ) (n := fun x H Q => ∃ k, TruV K x H k ∧ Q k H) fun v F H T R st dj ⟨T1, T2, _, s1, s2, p1, p2⟩ k hk =>
  ⟨b, ht v F H T1 st.ex p1, hk b F H T st dj (fun _ _ => rfl) (Ex.refl _) ⟨rfl, (En.stb _ _).up p2 s2⟩⟩
theorem tru_bl : Tru K (dB K b) b := fun v F H T e p => by cases p; rfl
theorem tru_int : Tru K (dI K i) (i != 0) := fun v F H T e p => by cases p; rfl
theorem tru_non : Tru K (dN K) false := fun v F H T e p => by cases p; rfl
theorem tru_str {x : Str} (hx : x.length ≤ sizeLine) : Tru K (dS K x) ((x.length : Int) != 0) := fun v F H T e p => by cases p; exact ⟨hx, rfl⟩
theorem isEmpty_dp {H : Hp} {vs : List V} {ds : List PyData} (h : DqAll K H vs ds) : vs.isEmpty = ds.isEmpty := by cases h <;> rfl
theorem tru_list : Tru K (dat K (.list ds)) (!ds.isEmpty) := fun v F H T e p => by
  cases p with
  | lst q a => exact .inl ⟨_, SqL.of (e _ _ q), by rw [isEmpty_dp a]⟩
theorem tru_tup : Tru K (dat K (.tuple ds)) (!ds.isEmpty) := fun v F H T e p => by
  cases p with
  | tup q a => exact .inr (.inl ⟨_, SqT.ext e q, by rw [isEmpty_dp a]⟩)
theorem tru_lst : Tru K (lst K ds) (!ds.isEmpty) := fun v F H T e ⟨a, vs, ev, _, h, q⟩ => by
  subst ev
  exact .inl ⟨vs, SqL.of h, by rw [isEmpty_dp q]⟩
/-- the truth of a variable that owns a list -/
theorem et_truO {n : Nat} (h : ρ[n]? = some (some s)) (ht : Tru K s b) : Et B (tTruZ K (tVar n)) ρ b ρ := fun σ F H T R st dj p k hk => by
  obtain ⟨v, e, T1, T2, _, s1, _, x, _⟩ := En.split h p
  exact ⟨v, e, b, ht v F H T1 st.ex x, hk b F H T st dj (fun _ _ => rfl) (Ex.refl _) ⟨rfl, p⟩⟩
theorem et_not (h : Et B tt ρ b ρ') : Et B (tNot tt) ρ (!b) ρ' := fun σ F H T R st dj p k hk =>
  h σ F H T R st dj p _ fun c F1 H1 T1 s1 d1 k1 e1 ⟨ec, q1⟩ => hk (!c) F1 H1 T1 s1 d1 k1 e1 ⟨by rw [ec], q1⟩
/-- and, or: the second test is asked where the first one's answer leaves it open -/
theorem et_and {b2 : Bool} (h1 : Et B tt ρ b ρ1) (h2 : b = true → Et B tu ρ1 b2 ρ2) (h3 : b = false → EnLe ρ1 ρ2) : Et B (tAnd tt tu) ρ (b && b2) ρ2 := fun σ F H T R st dj p k hk =>
  h1 σ F H T R st dj p _ fun c F1 H1 T1 s1 d1 k1 e1 ⟨ec, q1⟩ => by
    subst ec
    cases c with
    | true => exact iteT (h2 rfl σ F1 H1 T1 R s1 d1 q1 k fun c2 F2 H2 T2 s2 d2 k2 e2 q2 => hk c2 F2 H2 T2 s2 d2 (fun x hx => (k2 x hx).trans (k1 x hx)) (e1.trans e2) q2)
    | false => exact iteF (hk false F1 H1 T1 s1 d1 k1 e1 ⟨rfl, En.le (h3 rfl) q1⟩)
theorem et_or {b2 : Bool} (h1 : Et B tt ρ b ρ1) (h2 : b = false → Et B tu ρ1 b2 ρ2) (h3 : b = true → EnLe ρ1 ρ2) : Et B (tOr tt tu) ρ (b || b2) ρ2 := fun σ F H T R st dj p k hk =>
  h1 σ F H T R st dj p _ fun c F1 H1 T1 s1 d1 k1 e1 ⟨ec, q1⟩ => by
    subst ec
    cases c with
    | false => exact iteF (h2 rfl σ F1 H1 T1 R s1 d1 q1 k fun c2 F2 H2 T2 s2 d2 k2 e2 q2 => hk c2 F2 H2 T2 s2 d2 (fun x hx => (k2 x hx).trans (k1 x hx)) (e1.trans e2) q2)
    | true => exact iteT (hk true F1 H1 T1 s1 d1 k1 e1 ⟨rfl, En.le (h3 rfl) q1⟩)
theorem Et.is (h : Et B tt ρ b ρ') (e : b = c) : Et B tt ρ c ρ' := e ▸ h
theorem Ev.is (h : Ev B te ρ s ρ') (e : s = s1) : Ev B te ρ s1 ρ' := e ▸ h
/-- .. as values -/
theorem ev_andV {b2 : Bool} (h1 : Ev B ta ρ (dB K b) ρ1) (h2 : b = true → Ev B tb ρ1 (dB K b2) ρ2) (h3 : b = false → EnLe ρ1 ρ2) : Ev B (tAndV ta tb) ρ (dB K (b && b2)) ρ2 := fun σ F H T R st dj p k hk =>
  h1 σ F H T R st dj p _ fun v F1 H1 T1 s1 d1 k1 e1 ⟨U1, U2, _, _, u2, x, q1⟩ => by
    cases x
    refine ⟨b, rfl, ?_⟩
    have q1' := (En.stb _ _).up q1 u2
    cases b with
    | true => exact iteT (h2 rfl σ F1 H1 T1 R s1 d1 q1' k fun c2 F2 H2 T2 s2 d2 k2 e2 q2 => hk c2 F2 H2 T2 s2 d2 (fun x hx => (k2 x hx).trans (k1 x hx)) (e1.trans e2) q2)
    | false => exact iteF (hk (.bl false) F1 H1 T1 s1 d1 k1 e1 ⟨Fp.no, T1, Dj.no, Sub.no, Sub.refl _, .bl false, En.le (h3 rfl) q1'⟩)
theorem ev_orV {b2 : Bool} (h1 : Ev B ta ρ (dB K b) ρ1) (h2 : b = false → Ev B tb ρ1 (dB K b2) ρ2) (h3 : b = true → EnLe ρ1 ρ2) : Ev B (tOrV ta tb) ρ (dB K (b || b2)) ρ2 := fun σ F H T R st dj p k hk =>
  h1 σ F H T R st dj p _ fun v F1 H1 T1 s1 d1 k1 e1 ⟨U1, U2, _, _, u2, x, q1⟩ => by
    cases x
    refine ⟨b, rfl, ?_⟩
    have q1' := (En.stb _ _).up q1 u2
    cases b with
    | false => exact iteF (h2 rfl σ F1 H1 T1 R s1 d1 q1' k fun c2 F2 H2 T2 s2 d2 k2 e2 q2 => hk c2 F2 H2 T2 s2 d2 (fun x hx => (k2 x hx).trans (k1 x hx)) (e1.trans e2) q2)
    | true => exact iteT (hk (.bl true) F1 H1 T1 s1 d1 k1 e1 ⟨Fp.no, T1, Dj.no, Sub.no, Sub.refl _, .bl true, En.le (h3 rfl) q1'⟩)
theorem ev_notV (h1 : Ev B ta ρ (dB K b) ρ1) : Ev B (tNotV ta) ρ (dB K (!b)) ρ1 := fun σ F H T R st dj p k hk =>
  h1 σ F H T R st dj p _ fun v F1 H1 T1 s1 d1 k1 e1 ⟨U1, U2, _, _, u2, x, q1⟩ => by
    cases x
    exact ⟨b, rfl, hk _ F1 H1 T1 s1 d1 k1 e1 ⟨Fp.no, T1, Dj.no, Sub.no, Sub.refl _, .bl _, (En.stb _ _).up q1 u2⟩⟩
theorem ev_if (ht : Et B tt ρ b ρ1) (h1 : b = true → Ev B ta ρ1 s ρ2) (h2 : b = false → Ev B tb ρ1 s ρ2) : Ev B (tIf tt ta tb) ρ s ρ2 := fun σ F H T R st dj p k hk =>
  ht σ F H T R st dj p _ fun c F1 H1 T1 s1 d1 k1 e1 ⟨ec, q1⟩ => by
    subst ec
    cases c with
    | true => exact iteT (h1 rfl σ F1 H1 T1 R s1 d1 q1 k fun c2 F2 H2 T2 s2 d2 k2 e2 q2 => hk c2 F2 H2 T2 s2 d2 (fun x hx => (k2 x hx).trans (k1 x hx)) (e1.trans e2) q2)
    | false => exact iteF (h2 rfl σ F1 H1 T1 R s1 d1 q1 k fun c2 F2 H2 T2 s2 d2 k2 e2 q2 => hk c2 F2 H2 T2 s2 d2 (fun x hx => (k2 x hx).trans (k1 x hx)) (e1.trans e2) q2)
/-- a < b < c, the middle one asked once: b an int -/
theorem ev_chain {r r' : R2} {tc : TE} (ha : Ev B ta ρ s1 ρ1) (hb : Ev B tb ρ1 s2 ρ2) (hdup : ∀ v F H T, s2.p v F H T → s2.p v F H Fp.no) (hr : RR r s1 s2 (dB K b)) {b2 : Bool}
    (hc : b = true → Ev B tc ρ2 s3 ρ') (hr' : b = true → RR r' s2 s3 (dB K b2)) (hl : b = false → EnLe ρ2 ρ') : Ev B (tChain r r' ta tb tc) ρ (dB K (b && b2)) ρ' := fun σ => by
  refine (ha σ).bind fun v1 => (hb.with' σ (s1.s v1)).bind fun v2 => ?_
  have hh : Ho B (sep (sep (s1.p v1) (s2.p v2)) (En ρ2 σ)) (r v1 v2) fun v => sep ((dB K b).p v) (sep (fun F H _ => s2.p v2 F H Fp.no) (En ρ2 σ)) := by
    have st2 : Stb (fun F H (_ : Fp) => s2.p v2 F H Fp.no) := ⟨fun h _ => h, fun h e k => (s2.s v2).st h e fun _ z => z.elim⟩
    refine ((hr B v1 v2).frame (Stb.sep st2 (En.stb ρ2 σ))).conseq (fun F H T ⟨T1, T2, d, u1, u2, ⟨T3, T4, d', u3, u4, p1, p2⟩, q⟩ => ?_) fun v => Im.refl _
    exact ⟨T1, T2, d, u1, u2, ⟨T3, T4, d', u3, u4, p1, p2⟩, Fp.no, T2, Dj.no, Sub.no, Sub.refl _, hdup _ _ _ _ p2, q⟩
  refine hh.bind fun v F H T R st dj ⟨T1, T2, d, u1, u2, p1, T3, T4, d', u3, u4, p2, q⟩ k hk => ?_
  cases p1
  refine ⟨b, rfl, ?_⟩
  have q' := (En.stb ρ2 σ).up q (u4.trans u2)
  cases b with
  | false => exact iteF (hk _ F H T st dj (fun _ _ => rfl) (Ex.refl _) ⟨Fp.no, T, Dj.no, Sub.no, Sub.refl _, .bl _, En.le (hl rfl) q'⟩)
  | true =>
    refine iteT ?_
    have hh2 := ((hc rfl).with' σ (s2.s v2)).bind fun v3 => ((hr' rfl B v2 v3).frame (En.stb ρ' σ))
    exact hh2 F H T R st dj ⟨Fp.no, T, Dj.no, Sub.no, Sub.refl _, p2, q'⟩ k hk
theorem dup_dat {v : V} {F H : Hp} {T : Fp} (h : (dat K d).p v F H T) : (dat K d).p v F H Fp.no := h
end
end Z
/-! Z4: lists, tuples, arguments, calls. -/
namespace Z
open PySem L2
section
variable {B : Base} {te ta tb : TE} {ρ ρ1 ρ2 ρ' : Env} {s s1 s2 s3 : Sl} {K : PySem.W.Frag} {d e : PyData} {ds es : List PyData} {i j : Int} {b c : Bool} {t tr : TA}
/-! ### data out of owned lists -/
/-- an owned list becomes data -/
theorem ev_fz (h : Ev B te ρ (lst K ds) ρ') : Ev B te ρ (dat K (.list ds)) ρ' := fun σ F H T R st dj p k hk =>
  h σ F H T R st dj p k fun v F1 H1 T1 s1 d1 k1 e1 ⟨U1, U2, du, u1, u2, ⟨a, vs, ev, ua, ha, q⟩, q2⟩ => by
    subst ev
    have na : ¬ (U2.un R) a := fun z => z.elim (fun z => du a ua z) fun z => d1 a (u1 a ua) z
    have s2 : St B F1 H1 ((U2.un R).un fun b => b = a) := s1.less (((u2.trans Sub.l).un Sub.r).un fun x hx => by subst hx; exact .inl (u1 _ ua))
    obtain ⟨s3, ee⟩ := s2.freeze na ha
    exact hk (.ref a) _ H1 U2 s3 (d1.sub u2 (Sub.refl _)) k1 (e1.trans ee) ⟨Fp.no, U2, Dj.no, Sub.no, Sub.refl _, .lst upd_same (DqAll.ext ee q), (En.stb _ _).st q2 ee fun _ _ => rfl⟩
/-- a slot that asks nothing of the frozen part -/
def Ind (s : Sl) : Prop := ∀ v F F' H T, s.p v F H T → s.p v F' H T
theorem ind_int : Ind (dI K i) := fun v F F' H T h => by cases h; exact .int i
theorem ind_bl : Ind (dB K b) := fun v F F' H T h => by cases h; exact .bl b
theorem ind_str {x : Str} : Ind (dS K x) := fun v F F' H T h => by cases h; exact .str x
theorem ind_non : Ind (dN K) := fun v F F' H T h => by cases h; exact .non
theorem ind_oL {ns : List Int} : Ind (oL K ns) := fun v F F' H T ⟨a, vs, e, t, h, q⟩ => ⟨a, vs, e, t, h, by rw [q.ints_inv]; exact .ints ns⟩
theorem Ind.up {s : Sl} (h : Ind s) {v : V} {F F' H : Hp} {T T' : Fp} (p : s.p v F H T) (u : Sub T T') : s.p v F' H T' := (s.s v).up (h v F F' H T p) u
/-- owned lists seen as data -/
def View (K : PySem.W.Frag) : Env → Env → Prop := fun ρ ρv => ∀ σ F H T, Ex F H → En ρ σ F H T → En ρv σ H H Fp.no
theorem View.nil : View K [] [] := fun σ F H T e h => by cases σ <;> exact h
theorem View.no {ρv : Env} {s : Option Sl} (h : View K ρ ρv) : View K (s :: ρ) (.none :: ρv) := fun σ F H T e p => by
  cases σ with
  | nil => cases s <;> exact p.elim
  | cons x σ =>
    cases s with
    | none => exact h σ F H T e p
    | some s =>
      cases x with
      | none => exact p.elim
      | some v =>
        obtain ⟨T1, T2, _, _, s2, _, q⟩ := p
        exact h σ F H T2 e q
theorem View.dat {ρv : Env} (h : View K ρ ρv) : View K (.some (dat K d) :: ρ) (.some (dat K d) :: ρv) := fun σ F H T e p => by
  cases σ with
  | nil => exact p.elim
  | cons x σ =>
    cases x with
    | none => exact p.elim
    | some v =>
      obtain ⟨T1, T2, _, _, s2, x, q⟩ := p
      exact ⟨Fp.no, Fp.no, Dj.no, Sub.no, Sub.no, Dq.ext e x, h σ F H T2 e q⟩
theorem View.lst {ρv : Env} (h : View K ρ ρv) : View K (.some (lst K ds) :: ρ) (.some (Z.dat K (.list ds)) :: ρv) := fun σ F H T e p => by
  cases σ with
  | nil => exact p.elim
  | cons x σ =>
    cases x with
    | none => exact p.elim
    | some v =>
      obtain ⟨T1, T2, _, _, s2, ⟨a, vs, ev, _, ha, q1⟩, q⟩ := p
      subst ev
      exact ⟨Fp.no, Fp.no, Dj.no, Sub.no, Sub.no, .lst ha (DqAll.ext e q1), h σ F H T2 e q⟩
/-- an expression that only reads: the owned lists are data meanwhile -/
theorem ev_loan {ρv : Env} (hv : View K ρ ρv) (h : ∀ B, Ev B te ρv s ρ2) (hs : Ind s) : Ev B te ρ s ρ := fun σ F H T R st dj p k hk => by
  have s0 : St ⟨H, H, Fp.no⟩ H H (Fp.no.un Fp.no) := ⟨Ex.refl _, Ex.refl _, fun b z => by rcases z with z | z <;> exact z.elim, fun _ _ q _ => q, fun _ q => q, fun b _ _ z => by rcases z with z | z <;> exact z.elim, fun b q _ z => absurd z q⟩
  refine h ⟨H, H, Fp.no⟩ σ H H Fp.no Fp.no s0 Dj.no (hv σ F H T st.ex p) k fun v F1 H1 T1 s1 d1 k1 e1 ⟨U1, U2, du, u1, u2, q1, _⟩ => ?_
  have keep : ∀ b, H b ≠ none → H1 b = H b := fun b hb => by
    cases e : H b with
    | none => exact absurd e hb
    | some o => exact s1.keep b o e fun z => z.elim
  have nU : ∀ b, U1 b → H b = none := fun b hb => by
    have q := (s1.own b (.inl (u1 b hb))).1
    cases e : H b with
    | none => rfl
    | some o => rw [s1.exF b o e] at q; cases q
  have eHH : Ex H H1 := fun b o e => by rw [keep b (by rw [e]; simp)]; exact e
  have st' : St B F H1 ((U1.un T).un R) := by
    refine ⟨st.exF, st.ex.trans eHH, fun b hb => ?_, fun b o e n => eHH b o (st.keep b o e n), fun b hb => ?_, fun b hb n => ?_, st.nof⟩
    · rcases hb with (hb | hb) | hb
      · refine ⟨?_, (s1.own b (.inl (u1 b hb))).2⟩
        cases e : F b with
        | none => rfl
        | some o => exact absurd (nU b hb) (by rw [st.ex b o e]; simp)
      · exact ⟨(st.own b (.inl hb)).1, by rw [keep b (st.own b (.inl hb)).2]; exact (st.own b (.inl hb)).2⟩
      · exact ⟨(st.own b (.inr hb)).1, by rw [keep b (st.own b (.inr hb)).2]; exact (st.own b (.inr hb)).2⟩
    · have q := st.dom b hb
      rw [keep b q]; exact q
    · rintro ((h' | h') | h')
      · exact st.dom b hb (nU b h')
      · exact st.new b hb n (.inl h')
      · exact st.new b hb n (.inr h')
  have djT : Dj U1 (T.un R) := fun b hb z => by
    have q := (st.own b z).2
    exact q (nU b hb)
  exact hk v F H1 (U1.un T) st' ((djT.sub (Sub.refl _) Sub.r).unl dj) (fun b hb => keep b (st.own b (.inr hb)).2) (Ex.refl _)
    ⟨U1, T, djT.sub (Sub.refl _) Sub.l, Sub.l, Sub.r, hs v F1 F H1 U1 q1, (En.stb _ _).st p (Ex.refl _) fun b hb => keep b (st.own b (.inl hb)).2⟩
/-! ### arguments that are all data; displays -/
theorem ed_nil : Ed K B tNil ρ [] ρ := fun σ F H T R st dj p k hk => hk [] F H T st dj (fun _ _ => rfl) (Ex.refl _) ⟨Fp.no, T, Dj.no, Sub.no, Sub.refl _, .nil, p⟩
theorem ed_cons (h : Ev B te ρ (dat K d) ρ1) (hr : Ed K B t ρ1 ds ρ2) : Ed K B (tCons te t) ρ (d :: ds) ρ2 := fun σ =>
  (h σ).bind fun v => (((hr σ).frame ((dat K d).s v)).conseq sep_comm fun _ => Im.refl _).bind (n := fun vs H Q => Q (v :: vs) H) fun vs =>
    Ho.ret fun F H T ⟨T1, T2, dj, u1, u2, ⟨T3, T4, d', u3, u4, x, y⟩, z⟩ => ⟨T3, T4, d', u3.trans u1, u4.trans u1, .cons z x, y⟩
theorem ev_tup (h : Ed K B t ρ ds ρ') (hl : ds.length ≤ sizeLine) : Ev B (tTup t) ρ (dat K (.tuple ds)) ρ' := fun σ F H T R st dj p k hk =>
  h σ F H T R st dj p _ fun vs F1 H1 T1 s1 d1 k1 e1 ⟨U1, U2, du, u1, u2, x, y⟩ => ⟨by rw [DqAll.length (show DqAll K F1 vs ds from x)]; exact hl, fun q hq => by
    have s2 := s1.less (Sub.mono u2 (Sub.refl R))
    obtain ⟨s3, ee⟩ := s2.allocF (o := HO.tup vs) hq
    have nq : ∀ b, H1 b ≠ none → upd H1 q (HO.tup vs) b = H1 b := fun b hb => upd_ne fun z => hb (by rw [z]; exact hq)
    exact hk (.ref q) _ _ U2 s3 (d1.sub u2 (Sub.refl _)) (fun b hb => (nq b (s1.own b (.inr hb)).2).trans (k1 b hb)) (e1.trans ee)
      ⟨Fp.no, U2, Dj.no, Sub.no, Sub.refl _, .tup (SqT.of upd_same) (DqAll.ext ee x), (En.stb _ _).st y ee fun b hb => nq b (s1.own b (.inl (u2 b hb))).2⟩⟩
theorem ev_lst (h : Ed K B t ρ ds ρ') (hl : ds.length ≤ sizeLine) : Ev B (tLst t) ρ (lst K ds) ρ' := fun σ F H T R st dj p k hk =>
  h σ F H T R st dj p _ fun vs F1 H1 T1 s1 d1 k1 e1 ⟨U1, U2, du, u1, u2, x, y⟩ => ⟨by rw [DqAll.length (show DqAll K F1 vs ds from x)]; exact hl, fun q hq => by
    have s2 := s1.less (Sub.mono u2 (Sub.refl R))
    have s3 := s2.alloc (o := HO.lst vs) hq
    have nq : ∀ b, H1 b ≠ none → upd H1 q (HO.lst vs) b = H1 b := fun b hb => upd_ne fun z => hb (by rw [z]; exact hq)
    have dq : Dj (fun b => b = q) (U2.un R) := fun b e z => (s2.own b z).2 (by rw [e]; exact hq)
    exact hk (.ref q) F1 _ (Fp.un (fun b => b = q) U2) (s3.less (((Sub.r).un (Sub.l.trans Sub.l)).un (Sub.r.trans Sub.l))) ((dq.sub (Sub.refl _) Sub.r).unl (d1.sub u2 (Sub.refl _))) (fun b hb => (nq b (s1.own b (.inr hb)).2).trans (k1 b hb)) e1
      ⟨_, U2, dq.sub (Sub.refl _) Sub.l, Sub.l, Sub.r, ⟨q, vs, rfl, rfl, upd_same, x⟩, (En.stb _ _).st y (Ex.refl _) fun b hb => nq b (s1.own b (.inl (u2 b hb))).2⟩⟩
/-- a new list is made, what stood stays -/
theorem Ho.newL {P : As} {m : Hp → (V → Hp → Prop) → Prop} (hP : Stb P) (h : ∀ F H T, Ex F H → P F H T → ∃ vs, DqAll K F vs ds ∧ ∀ Q : VK, (∀ p, H p = none → Q (.ref p) (upd H p (.lst vs))) → m H Q) : Ho B P m fun v => sep ((lst K ds).p v) P := fun F H T R st dj p k hk => by
  obtain ⟨vs, x, h2⟩ := h F H T st.ex p
  refine h2 k fun q hq => ?_
  have s3 := st.alloc (o := HO.lst vs) hq
  have dq : Dj (fun b => b = q) (T.un R) := fun b e z => (st.own b z).2 (by rw [e]; exact hq)
  have nq : ∀ b, (T.un R) b → upd H q (HO.lst vs) b = H b := fun b hb => upd_ne fun z => (st.own b hb).2 (by rw [z]; exact hq)
  exact hk (.ref q) F _ (Fp.un (fun b => b = q) T) (s3.less ((Sub.r.un (Sub.l.trans Sub.l)).un (Sub.r.trans Sub.l))) ((dq.sub (Sub.refl _) Sub.r).unl dj) (fun b hb => nq b (.inr hb)) (Ex.refl _)
    ⟨_, T, dq.sub (Sub.refl _) Sub.l, Sub.l, Sub.r, ⟨q, vs, rfl, rfl, upd_same, x⟩, hP.st p (Ex.refl _) fun b hb => nq b (.inl hb)⟩
theorem Ho.newT {P : As} {m : Hp → (V → Hp → Prop) → Prop} (hP : Stb P) (h : ∀ F H T, Ex F H → P F H T → ∃ vs, DqAll K F vs ds ∧ ∀ Q : VK, (∀ p, H p = none → Q (.ref p) (upd H p (.tup vs))) → m H Q) : Ho B P m fun v => sep ((dat K (.tuple ds)).p v) P := fun F H T R st dj p k hk => by
  obtain ⟨vs, x, h2⟩ := h F H T st.ex p
  refine h2 k fun q hq => ?_
  obtain ⟨s3, ee⟩ := st.allocF (o := HO.tup vs) hq
  have nq : ∀ b, (T.un R) b → upd H q (HO.tup vs) b = H b := fun b hb => upd_ne fun z => (st.own b hb).2 (by rw [z]; exact hq)
  exact hk (.ref q) _ _ T s3 dj (fun b hb => nq b (.inr hb)) ee ⟨Fp.no, T, Dj.no, Sub.no, Sub.refl _, .tup (SqT.of upd_same) (DqAll.ext ee x), hP.st p ee fun b hb => nq b (.inl hb)⟩
/-! ### items, lengths, slices, + -/
theorem ixN_dp {n m : Nat} (h : n = m) (i : Int) : ixN n i = ixN m i := by rw [h]
theorem atI_dp {H : Hp} {vs : List V} (h : DqAll K H vs ds) (e : atI ds i = some d) : ∃ v, atI vs i = some v ∧ Dq K H v d := by
  unfold atI at e ⊢
  rw [h.length]
  cases q : ixN ds.length i with
  | none => rw [q] at e; cases e
  | some k =>
    rw [q] at e
    exact h.get' e
theorem rr_ixL (e : atI ds i = some d) : RR (rIxL K) (dat K (.list ds)) (dI K i) (dat K d) := fun B v1 v2 F H T R st dj ⟨T1, T2, _, _, _, p1, p2⟩ k hk => by
  cases p2
  cases p1 with
  | lst q a =>
    obtain ⟨v, h1, h2⟩ := atI_dp a e
    exact ⟨_, _, _, v, rfl, rfl, SqL.of (st.ex _ _ q), h1, hk v F H T st dj (fun _ _ => rfl) (Ex.refl _) h2⟩
theorem rr_ixT (e : atI ds i = some d) : RR (rIxT K) (dat K (.tuple ds)) (dI K i) (dat K d) := fun B v1 v2 F H T R st dj ⟨T1, T2, _, _, _, p1, p2⟩ k hk => by
  cases p2
  cases p1 with
  | tup q a =>
    obtain ⟨v, h1, h2⟩ := atI_dp a e
    exact ⟨_, _, _, v, rfl, rfl, SqT.ext st.ex q, h1, hk v F H T st dj (fun _ _ => rfl) (Ex.refl _) h2⟩
theorem rr_ixS {x : Str} {n : Nat} (hx : x.length ≤ sizeLine) (e : atI x.cps.toList i = some n) : RR rIxS (dS K x) (dI K i) (dS K ⟨#[n]⟩) := RR.pure fun F H v1 v2 ⟨_, h1⟩ ⟨_, h2⟩ => by
  cases h1; cases h2
  exact ⟨.str ⟨#[n]⟩, fun _ => .str _, fun Q q => ⟨x, i, n, rfl, rfl, hx, e, q⟩⟩
theorem rr_ixL' (e : atI ds i = some d) : RR (rIx K) (dat K (.list ds)) (dI K i) (dat K d) := RR.or1 (rr_ixL e)
theorem rr_ixT' (e : atI ds i = some d) : RR (rIx K) (dat K (.tuple ds)) (dI K i) (dat K d) := RR.or2 (RR.or1 (rr_ixT e))
theorem rr_ixS' {x : Str} {n : Nat} (hx : x.length ≤ sizeLine) (e : atI x.cps.toList i = some n) : RR (rIx K) (dS K x) (dI K i) (dS K ⟨#[n]⟩) := RR.or2 (RR.or2 (rr_ixS hx e))
/-- xs[i], xs owned by a variable -/
theorem ev_ixO {n : Nat} {s0 : Sl} (h0 : ρ[n]? = some (some s0)) (h : Ev B tb ρ (dI K i) ρ') (h1 : ρ'[n]? = some (some (lst K ds))) (e : atI ds i = some d) : Ev B (tOp (rIx K) (tVar n) tb) ρ (dat K d) ρ' := fun σ F H T R st dj p k hk => by
  obtain ⟨v, ev, _⟩ := En.split h0 p
  refine ⟨v, ev, h σ F H T R st dj p _ fun w F1 H1 T1 s1 d1 k1 e1 ⟨U1, U2, du, u1, u2, x, y⟩ => ?_⟩
  cases x
  obtain ⟨v', ev', T3, T4, _, _, _, ⟨a, vs, ea, _, ha, q⟩, _⟩ := En.split h1 y
  rw [ev] at ev'
  cases ev'
  subst ea
  obtain ⟨z, h3, h4⟩ := atI_dp q e
  exact .inl ⟨a, vs, i, z, rfl, rfl, SqL.of ha, h3, hk z F1 H1 T1 s1 d1 k1 e1 ⟨Fp.no, T1, Dj.no, Sub.no, Sub.refl _, h4, (En.stb _ _).up y u2⟩⟩
def rLenZ (K : PySem.W.Frag) : List V → Hp → VK → Prop := fun xs H Q => ∃ x n, xs = [x] ∧ LenV K x H n ∧ Q (.int n) H
theorem call_lenZ {X : Cx} : CallR X (.builtin "len") (rLenZ X.K) := call_len
def Len (K : PySem.W.Frag) (s : Sl) (n : Nat) : Prop := ∀ v F H T, Ex F H → s.p v F H T → LenV K v H n
theorem len_list : Len K (dat K (.list ds)) ds.length := fun v F H T e p => by
  cases p with
  | lst q a => exact .inl ⟨_, SqL.of (e _ _ q), a.length.symm⟩
theorem len_tup : Len K (dat K (.tuple ds)) ds.length := fun v F H T e p => by
  cases p with
  | tup q a => exact .inr ⟨_, SqT.ext e q, a.length.symm⟩
theorem len_lst : Len K (lst K ds) ds.length := fun v F H T e ⟨a, vs, ev, _, h, q⟩ => by
  subst ev
  exact .inl ⟨vs, SqL.of h, q.length.symm⟩
theorem len_str {x : Str} (hx : x.length ≤ sizeLine) : Len K (dS K x) x.length := fun v F H T e p => by
  cases p
  exact ⟨hx, rfl⟩
theorem ev_len {n : Nat} (h : Ev B ta ρ s ρ') (hl : Len K s n) : Ev B (tCB (rLenZ K) (tCons ta tNil)) ρ (dI K (n : Int)) ρ' := fun σ F H T R st dj p k hk =>
  h σ F H T R st dj p _ fun v F1 H1 T1 s1 d1 k1 e1 ⟨U1, U2, du, u1, u2, x, y⟩ =>
    ⟨v, n, rfl, hl v F1 H1 U1 s1.ex x, hk _ F1 H1 T1 s1 d1 k1 e1 ⟨Fp.no, T1, Dj.no, Sub.no, Sub.refl _, .int _, (En.stb _ _).up y u2⟩⟩
theorem ev_lenO {m n : Nat} (h0 : ρ[m]? = some (some s)) (hl : Len K s n) : Ev B (tCB (rLenZ K) (tCons (tVar m) tNil)) ρ (dI K (n : Int)) ρ := fun σ F H T R st dj p k hk => by
  obtain ⟨v, ev, T1, T2, _, _, _, x, _⟩ := En.split h0 p
  exact ⟨v, ev, v, n, rfl, hl v F H T1 st.ex x, hk _ F H T st dj (fun _ _ => rfl) (Ex.refl _) ⟨Fp.no, T, Dj.no, Sub.no, Sub.refl _, .int _, p⟩⟩
/-- list(xs), tuple(xs) -/
def rListZ (K : PySem.W.Frag) : List V → Hp → VK → Prop := fun xs H Q => ∃ p ys, xs = [.ref p] ∧ (SqL K H p ys ∨ SqT K H p ys) ∧ ∀ l, H l = none → Q (.ref l) (upd H l (.lst ys))
theorem call_listZ {X : Cx} : CallR X (.type "list") (rListZ X.K) := call_list_of
def Seq (K : PySem.W.Frag) (s : Sl) (ds : List PyData) : Prop := ∀ v F H T, Ex F H → s.p v F H T → ∃ p ys, v = .ref p ∧ (SqL K H p ys ∨ SqT K H p ys) ∧ DqAll K F ys ds
theorem seq_list : Seq K (dat K (.list ds)) ds := fun v F H T e p => by
  cases p with
  | lst q a => exact ⟨_, _, rfl, .inl (SqL.of (e _ _ q)), a⟩
theorem seq_tup : Seq K (dat K (.tuple ds)) ds := fun v F H T e p => by
  cases p with
  | tup q a => exact ⟨_, _, rfl, .inr (SqT.ext e q), a⟩
theorem seq_lst : Seq K (lst K ds) ds := fun v F H T e ⟨a, vs, ev, _, h, q⟩ => ⟨a, vs, ev, .inl (SqL.of h), q⟩
/-- a call of a built-in on one value that makes a list (tuple) -/
theorem Ho.mid {P Q X : As} {m : Hp → (V → Hp → Prop) → Prop} {s : Sl} (h : Ho B (sep P X) m fun v => sep (s.p v) (sep P X)) (hX : Stb X) : Ho B (sep P X) m fun v => sep (s.p v) X :=
  h.conseq (Im.refl _) fun v => sep_mono (Im.refl _) (sep_right hX)
theorem ev_list (h : Ev B ta ρ s ρ') (hq : Seq K s ds) : Ev B (tCB (rListZ K) (tCons ta tNil)) ρ (lst K ds) ρ' := fun σ =>
  (h σ).bind (n := fun v H Q => rListZ K [v] H Q) fun v => (Ho.newL (Stb.sep (s.s v) (En.stb _ _)) fun F H T e ⟨U1, U2, du, u1, u2, x, y⟩ => by
    obtain ⟨p, ys, rfl, h1, h2⟩ := hq v F H U1 e x
    exact ⟨ys, h2, fun Q q => ⟨p, ys, rfl, h1, q⟩⟩).conseq (Im.refl _) fun u => sep_mono (Im.refl _) (sep_right (En.stb _ _))
theorem ev_listO {m : Nat} (h0 : ρ[m]? = some (some s)) (hq : Seq K s ds) : Ev B (tCB (rListZ K) (tCons (tVar m) tNil)) ρ (lst K ds) ρ := fun σ => Ho.newL (En.stb _ _) fun F H T e p => by
  obtain ⟨v, ev, T1, T2, _, _, _, x, _⟩ := En.split h0 p
  obtain ⟨q, ys, rfl, h1, h2⟩ := hq v F H T1 e x
  exact ⟨ys, h2, fun Q k => ⟨_, ev, q, ys, rfl, h1, k⟩⟩
def rTupZ (K : PySem.W.Frag) : List V → Hp → VK → Prop := fun xs H Q => ∃ p ys, xs = [.ref p] ∧ ((SqL K H p ys ∧ ∀ l, H l = none → Q (.ref l) (upd H l (.tup ys))) ∨ (SqT K H p ys ∧ Q (.ref p) H))
theorem call_tupZ {X : Cx} : CallR X (.type "tuple") (rTupZ X.K) := call_tuple_of
def SeqL (K : PySem.W.Frag) (s : Sl) (ds : List PyData) : Prop := ∀ v F H T, Ex F H → s.p v F H T → ∃ p ys, v = .ref p ∧ SqL K H p ys ∧ DqAll K F ys ds
theorem seqL_list : SeqL K (dat K (.list ds)) ds := fun v F H T e p => by
  cases p with
  | lst q a => exact ⟨_, _, rfl, SqL.of (e _ _ q), a⟩
theorem seqL_lst : SeqL K (lst K ds) ds := fun v F H T e ⟨a, vs, ev, _, h, q⟩ => ⟨a, vs, ev, SqL.of h, q⟩
theorem ev_tuple (h : Ev B ta ρ s ρ') (hq : SeqL K s ds) : Ev B (tCB (rTupZ K) (tCons ta tNil)) ρ (dat K (.tuple ds)) ρ' := fun σ =>
  (h σ).bind (n := fun v H Q => rTupZ K [v] H Q) fun v => (Ho.newT (Stb.sep (s.s v) (En.stb _ _)) fun F H T e ⟨U1, U2, du, u1, u2, x, y⟩ => by
    obtain ⟨p, ys, rfl, h1, h2⟩ := hq v F H U1 e x
    exact ⟨ys, h2, fun Q q => ⟨p, ys, rfl, .inl ⟨h1, q⟩⟩⟩).conseq (Im.refl _) fun u => sep_mono (Im.refl _) (sep_right (En.stb _ _))
theorem ev_tupleO {m : Nat} (h0 : ρ[m]? = some (some s)) (hq : SeqL K s ds) : Ev B (tCB (rTupZ K) (tCons (tVar m) tNil)) ρ (dat K (.tuple ds)) ρ := fun σ => Ho.newT (En.stb _ _) fun F H T e p => by
  obtain ⟨v, ev, T1, T2, _, _, _, x, _⟩ := En.split h0 p
  obtain ⟨q, ys, rfl, h1, h2⟩ := hq v F H T1 e x
  exact ⟨ys, h2, fun Q k => ⟨_, ev, q, ys, rfl, .inl ⟨h1, k⟩⟩⟩
/-- slices -/
def Eo (B : Base) (to : TO) (ρ : Env) (o : Option Int) (ρ' : Env) : Prop := ∀ σ, Ho B (En ρ σ) (to σ) fun c => fun F H T => c = o ∧ En ρ' σ F H T
theorem eo_none : Eo B tNoPart ρ none ρ := fun σ F H T R st dj p k hk => hk _ F H T st dj (fun _ _ => rfl) (Ex.refl _) ⟨rfl, p⟩
theorem eo_some (h : Ev B te ρ (dI K i) ρ') : Eo B (tPart te) ρ (some i) ρ' := fun σ => Ho.bind (h σ) (n := fun x H Q => ∃ i, x = .int i ∧ Q (some i) H) fun v F H T R st dj ⟨T1, T2, _, _, s2, p1, p2⟩ k hk => by
  cases p1
  exact ⟨i, rfl, hk _ F H T st dj (fun _ _ => rfl) (Ex.refl _) ⟨rfl, (En.stb _ _).up p2 s2⟩⟩
theorem Eo.with' {to : TO} {o : Option Int} (h : Eo B to ρ o ρ') (σ : L2.St) {X : As} (hx : Stb X) : Ho B (sep X (En ρ σ)) (to σ) fun c => fun F H T => c = o ∧ sep X (En ρ' σ) F H T :=
  ((h σ).frame hx).conseq sep_comm fun v F H T ⟨T1, T2, d, a, b, ⟨e, x⟩, y⟩ => ⟨e, T2, T1, d.symm, b, a, y, x⟩
def cutD (ds : List PyData) (lo hi : Option Int) : List PyData := (ds.drop (HT.sIx ds.length 0 lo)).take (HT.sIx ds.length ds.length hi - HT.sIx ds.length 0 lo)
theorem cut_dp {H : Hp} {vs : List V} {lo hi : Option Int} (h : DqAll K H vs ds) : DqAll K H (cutV vs lo hi) (cutD ds lo hi) := by
  unfold cutV cutD
  rw [h.length]
  exact (h.drop _).take _
theorem ev_slL {tl th : TO} {lo hi : Option Int} (h : Ev B te ρ s ρ1) (hl : Eo B tl ρ1 lo ρ2) (hh : Eo B th ρ2 hi ρ') (hq : SeqL K s ds) : Ev B (tSl (rSlL K) te tl th) ρ (lst K (cutD ds lo hi)) ρ' := fun σ =>
  (h σ).bind fun v => (hl.with' σ (s.s v)).bind fun c1 => Ho.pre fun ec1 => (hh.with' σ (s.s v)).bind fun c2 => Ho.pre fun ec2 => by
    subst ec1 ec2
    refine (Ho.newL (Stb.sep (s.s v) (En.stb _ _)) fun F H T e ⟨U1, U2, du, u1, u2, x, y⟩ => ?_).conseq (Im.refl _) fun u => sep_mono (Im.refl _) (sep_right (En.stb _ _))
    obtain ⟨p, ys, rfl, h1, h2⟩ := hq v F H U1 e x
    exact ⟨cutV ys c1 c2, cut_dp h2, fun Q q => ⟨p, ys, rfl, h1, q⟩⟩
/-- a slice of a list that a variable owns -/
theorem ev_slO {tl th : TO} {lo hi : Option Int} {m : Nat} (h0 : ρ[m]? = some (some (lst K ds))) (hl : Eo B tl ρ lo ρ) (hh : Eo B th ρ hi ρ) : Ev B (tSl (rSlL K) (tVar m) tl th) ρ (lst K (cutD ds lo hi)) ρ := fun σ F H T R st dj p k hk => by
  obtain ⟨v, ev, _⟩ := En.split h0 p
  refine ⟨v, ev, ?_⟩
  have hh' : Ho B (En ρ σ) (fun H Q => tl σ H fun l H2 => th σ H2 fun u H3 => rSlL K v l u H3 Q) fun u => sep ((lst K (cutD ds lo hi)).p u) (En ρ σ) :=
    (hl σ).bind fun c1 => Ho.pre fun ec1 => (hh σ).bind fun c2 => Ho.pre fun ec2 => by
      subst ec1 ec2
      refine Ho.newL (En.stb _ _) fun F H T e p => ?_
      obtain ⟨v', ev', T1, T2, _, _, _, ⟨a, vs, ea, _, ha, q⟩, _⟩ := En.split h0 p
      rw [ev] at ev'
      cases ev'
      exact ⟨cutV vs c1 c2, cut_dp q, fun Q k => ⟨a, vs, ea, SqL.of ha, k⟩⟩
  exact hh' F H T R st dj p k hk
/-- a list that stands in the heap -/
def Lst (K : PySem.W.Frag) (s : Sl) (ds : List PyData) : Prop := ∀ v F H T, Ex F H → s.p v F H T → ∃ p ys, v = .ref p ∧ H p = some (.lst ys) ∧ DqAll K F ys ds
theorem lst_list : Lst K (dat K (.list ds)) ds := fun v F H T e p => by
  cases p with
  | lst q a => exact ⟨_, _, rfl, e _ _ q, a⟩
theorem lst_lst : Lst K (lst K ds) ds := fun v F H T e ⟨a, vs, ev, _, h, q⟩ => ⟨a, vs, ev, h, q⟩
/-- xs + ys -/
theorem rr_cat (h1 : Lst K s1 ds) (h2 : Lst K s2 es) (h : ds.length + es.length ≤ sizeLine) : RR rCat s1 s2 (lst K (ds ++ es)) := fun B v1 v2 =>
  (Ho.newL (K := K) (Stb.sep (s1.s v1) (s2.s v2)) fun F H T e ⟨U1, U2, du, u1, u2, p1, p2⟩ => by
    obtain ⟨a, vs, ea, ha, qa⟩ := h1 v1 F H U1 e p1
    obtain ⟨b, ws, eb, hb, qb⟩ := h2 v2 F H U2 e p2
    exact ⟨vs ++ ws, qa.append qb, fun Q q => ⟨a, b, vs, ws, ea, eb, ha, hb, by rw [qa.length, qb.length]; exact h, q⟩⟩).conseq (Im.refl _) fun u => sep_left ((lst K (ds ++ es)).s u)
theorem ev_catO1 {m : Nat} (h0 : ρ[m]? = some (some (lst K ds))) (h : Ev B tb ρ s ρ) (hs : Lst K s es) (hl : ds.length + es.length ≤ sizeLine) : Ev B (tOp rCat (tVar m) tb) ρ (lst K (ds ++ es)) ρ := fun σ F H T R st dj p k hk => by
  obtain ⟨v, ev, _⟩ := En.split h0 p
  refine ⟨v, ev, ?_⟩
  have hh : Ho B (En ρ σ) (fun H Q => tb σ H fun y H2 => rCat v y H2 Q) fun u => sep ((lst K (ds ++ es)).p u) (En ρ σ) :=
    (h σ).bind fun w => (Ho.newL (K := K) (Stb.sep (s.s w) (En.stb ρ σ)) fun F H T e ⟨U1, U2, du, u1, u2, pw, p⟩ => by
      obtain ⟨b, ws, eb, hb, qb⟩ := hs w F H U1 e pw
      obtain ⟨v', ev', T1, T2, _, _, _, ⟨a, vs, ea, _, ha, qa⟩, _⟩ := En.split h0 p
      rw [ev] at ev'
      cases ev'
      exact ⟨vs ++ ws, qa.append qb, fun Q q => ⟨a, b, vs, ws, ea, eb, ha, hb, by rw [qa.length, qb.length]; exact hl, q⟩⟩).conseq (Im.refl _) fun u => sep_mono (Im.refl _) (sep_right (En.stb _ _))
  exact hh F H T R st dj p k hk
end
end Z
/-! Z5: calls, statements, defs. -/
namespace Z
open PySem L2
section
variable {B : Base} {te ta tb : TE} {ρ ρ1 ρ2 ρ' ρr ps ps' : Env} {s s1 s2 s3 s0 : Sl} {K : PySem.W.Frag} {d e : PyData} {ds es : List PyData} {i j : Int} {b c : Bool} {t tr : TA} {as : List Arg}
/-! ### arguments -/
theorem ea_nil : Ea B tNil ρ [] ρ := fun σ F H T R st dj p k hk => hk [] F H T st dj (fun _ _ => rfl) (Ex.refl _) ⟨Fp.no, T, Dj.no, Sub.no, Sub.refl _, trivial, p⟩
theorem ea_cons (h : Ev B te ρ s ρ1) (hr : Ea B t ρ1 as ρ2) : Ea B (tCons te t) ρ (.sl s :: as) ρ2 := fun σ =>
  (h σ).bind fun v => (((hr σ).frame (s.s v)).conseq sep_comm fun _ => Im.refl _).bind (n := fun vs H Q => Q (v :: vs) H) fun vs =>
    Ho.ret fun F H T ⟨T1, T2, dj, u1, u2, ⟨T3, T4, d', u3, u4, x, y⟩, z⟩ => ⟨T2.un T3, T4, (dj.symm.sub (Sub.refl _) u4).unl d', u2.un (u3.trans u1), u4.trans u1, ⟨T2, T3, dj.symm.sub (Sub.refl _) u3, Sub.l, Sub.r, z, x⟩, y⟩
theorem ea_bor {n : Nat} (h : ρ[n]? = some (some s)) (hr : Ea B t ρ as ρ2) : Ea B (tCons (tVar n) t) ρ (.bor n :: as) ρ2 := fun σ F H T R st dj p k hk => by
  obtain ⟨v, ev, _⟩ := En.split h p
  refine ⟨v, ev, hr σ F H T R st dj p _ fun vs F1 H1 T1 s1 d1 k1 e1 ⟨U1, U2, du, u1, u2, x, y⟩ => ?_⟩
  exact hk (v :: vs) F1 H1 T1 s1 d1 k1 e1 ⟨U1, U2, du, u1, u2, ⟨ev, x⟩, y⟩
def slotAt (ρ : Env) (i : Nat) : Option Sl := match ρ[i]? with
  | some (some s) => some s
  | _ => none
def gath : List Arg → Env → Env × Env
  | [], ρ => ([], ρ)
  | .sl s :: as, ρ => (some s :: (gath as ρ).1, (gath as ρ).2)
  | .bor i :: as, ρ => (slotAt ρ i :: (gath as (ρ.set i none)).1, (gath as (ρ.set i none)).2)
def scat : List Arg → Env → Env → Env
  | .sl _ :: as, _ :: ps, ρ => scat as ps ρ
  | .bor i :: as, .some s :: ps, ρ => (scat as ps ρ).set i (some s)
  | .bor _ :: as, .none :: ps, ρ => scat as ps ρ
  | _, _, ρ => ρ
def BorOk (σ : L2.St) : List Arg → List V → Prop
  | [], [] => True
  | .sl _ :: as, _ :: vs => BorOk σ as vs
  | .bor i :: as, v :: vs => σ[i]? = some (some v) ∧ BorOk σ as vs
  | _, _ => False
theorem En.put {F H : Hp} {T : Fp} {σ : L2.St} {n : Nat} {v : V} (hσ : σ[n]? = some (some v)) (h : sep (s.p v) (En ρ σ) F H T) : En (ρ.set n (some s)) σ F H T := by
  obtain ⟨T1, T2, d, s1, s2, x, y⟩ := h
  have hl : n < ρ.length := by
    rw [← En.len y]
    exact (List.getElem?_eq_some_iff.mp hσ).1
  have y' := En.drop n y
  have := En.join (ρ := ρ.set n none) (σ := σ) (i := n) (s := s) (v := v) hσ (by rw [List.getElem?_set_self hl]) ⟨T1, T2, d, s1, s2, x, y'⟩
  rw [List.set_set] at this
  exact this
theorem gath_ok {F H : Hp} {σ : L2.St} : ∀ {as : List Arg} {vs : List V} {ρ : Env} {T : Fp}, sep (Ar σ as vs) (En ρ σ) F H T → BorOk σ as vs ∧ sep (En (gath as ρ).1 (vs.map some)) (En (gath as ρ).2 σ) F H T
  | [], [], ρ, T, ⟨T1, T2, d, s1, s2, x, y⟩ => ⟨trivial, T1, T2, d, s1, s2, trivial, y⟩
  | .sl s :: as, v :: vs, ρ, T, h => by
    obtain ⟨T1, T2, d, s1, s2, x, y⟩ := sep_assoc F H T h
    obtain ⟨b, y'⟩ := gath_ok (as := as) (vs := vs) (ρ := ρ) y
    exact ⟨b, sep_assoc' F H T ⟨T1, T2, d, s1, s2, x, y'⟩⟩
  | .bor n :: as, v :: vs, ρ, T, ⟨T1, T2, d, s1, s2, ⟨e, x⟩, y⟩ => by
    cases q : slotAt ρ n with
    | none =>
      obtain ⟨b, y'⟩ := gath_ok (as := as) (vs := vs) (ρ := ρ.set n none) ⟨T1, T2, d, s1, s2, x, En.drop n y⟩
      refine ⟨⟨e, b⟩, ?_⟩
      show sep (En (slotAt ρ n :: (gath as (ρ.set n none)).1) (some v :: vs.map some)) _ F H T
      rw [q]
      exact y'
    | some s =>
      have e2 : ρ[n]? = some (some s) := by
        unfold slotAt at q
        split at q
        · rename_i u hu; cases q; exact hu
        · cases q
      obtain ⟨v', ev', z⟩ := En.split e2 y
      rw [e] at ev'
      cases ev'
      have h2 : sep (s.p v) (sep (Ar σ as vs) (En (ρ.set n none) σ)) F H T := sep_swap F H T ⟨T1, T2, d, s1, s2, x, z⟩
      obtain ⟨U1, U2, du, u1, u2, x2, y2⟩ := h2
      obtain ⟨b, y'⟩ := gath_ok (as := as) (vs := vs) (ρ := ρ.set n none) y2
      refine ⟨⟨e, b⟩, ?_⟩
      show sep (En (slotAt ρ n :: (gath as (ρ.set n none)).1) (some v :: vs.map some)) _ F H T
      rw [q]
      exact sep_assoc' F H T ⟨U1, U2, du, u1, u2, x2, y'⟩
  | [], _ :: _, _, _, ⟨_, _, _, _, _, x, _⟩ => x.elim
  | .sl _ :: _, [], _, _, ⟨_, _, _, _, _, x, _⟩ => x.elim
  | .bor _ :: _, [], _, _, ⟨_, _, _, _, _, x, _⟩ => x.elim
theorem scat_ok {F H : Hp} {σ : L2.St} : ∀ {as : List Arg} {vs : List V} {ps ρ : Env} {T : Fp}, BorOk σ as vs → sep (En ps (vs.map some)) (En ρ σ) F H T → En (scat as ps ρ) σ F H T
  | [], vs, ps, ρ, T, _, h => by
    have e : scat [] ps ρ = ρ := by unfold scat; rfl
    rw [e]; exact sep_right (En.stb _ _) F H T h
  | .sl s :: as, v :: vs, .none :: ps, ρ, T, b, ⟨T1, T2, d, s1, s2, x, y⟩ => scat_ok (as := as) (vs := vs) (ps := ps) b ⟨T1, T2, d, s1, s2, x, y⟩
  | .sl s :: as, v :: vs, .some u :: ps, ρ, T, b, h => by
    obtain ⟨T1, T2, d, s1, s2, x, y⟩ := sep_assoc F H T h
    exact scat_ok (as := as) (vs := vs) (ps := ps) b ((Stb.sep (En.stb _ _) (En.stb _ _)).up y s2)
  | .bor n :: as, v :: vs, .none :: ps, ρ, T, b, ⟨T1, T2, d, s1, s2, x, y⟩ => scat_ok (as := as) (vs := vs) (ps := ps) b.2 ⟨T1, T2, d, s1, s2, x, y⟩
  | .bor n :: as, v :: vs, .some u :: ps, ρ, T, b, h => by
    obtain ⟨T1, T2, d, s1, s2, x, y⟩ := sep_assoc F H T h
    exact En.put b.1 ⟨T1, T2, d, s1, s2, x, scat_ok (as := as) (vs := vs) (ps := ps) b.2 y⟩
  | .sl s :: as, v :: vs, [], ρ, T, b, ⟨T1, T2, d, s1, s2, x, y⟩ => x.elim
  | .bor n :: as, v :: vs, [], ρ, T, b, ⟨T1, T2, d, s1, s2, x, y⟩ => x.elim
  | .sl s :: as, [], _, ρ, T, b, _ => b.elim
  | .bor n :: as, [], _, ρ, T, b, _ => b.elim
/-! ### a def's promise -/
/-- sp holds from the slots ps: it ends with s, the arguments' slots are ps' then -/
def Ct (sp : Sp) (ps : Env) (s : Sl) (ps' : Env) : Prop := ∀ (E : XK) (vs : List V) F H T, WF F H T → En ps (vs.map some) F H T → ∀ Q : VK, (∀ v F' H' T', St ⟨F, H, T⟩ F' H' T' → sep (s.p v) (En ps' (vs.map some)) F' H' T' → Q v H') → sp vs H Q E
theorem ev_call {sp : Sp} {E : XK} (ha : Ea B t ρ as ρ1) (hc : Ct sp ps s ps') (e1 : gath as ρ1 = (ps, ρr)) : Ev B (tCall sp [] E t) ρ s (scat as ps' ρr) := fun σ F H T R st dj p k hk =>
  ha σ F H T R st dj p _ fun vs F1 H1 T1 s1 d1 k1 e1' x => by
    obtain ⟨b, U1, U2, du, u1, u2, y, z⟩ := gath_ok x
    rw [e1] at y z
    show sp (vs ++ []) H1 k E
    rw [List.append_nil]
    have s2 : St B F1 H1 (U1.un (U2.un R)) := s1.less ((u1.trans Sub.l).un ((u2.trans Sub.l).un Sub.r))
    have d2 : Dj U1 (U2.un R) := du.unr (d1.sub u1 (Sub.refl _))
    refine hc E vs F1 H1 U1 ⟨s2.ex, fun b hb => s2.own b (.inl hb)⟩ y k fun v F' H' T' st' q => ?_
    obtain ⟨s3, d3, k3, e3⟩ := s2.call d2 st'
    refine hk v F' H' (T'.un U2) (s3.less ((Sub.l.un (Sub.l.trans Sub.r)).un (Sub.r.trans Sub.r))) ((d3.sub (Sub.refl _) Sub.r).unl (d1.sub u2 (Sub.refl _))) (fun b hb => (k3 b (.inr hb)).trans (k1 b hb)) (e1'.trans e3) ?_
    have z' := (En.stb ρr σ).st z e3 fun b hb => k3 b (.inl hb)
    have w := sep_assoc F' H' (T'.un U2) ⟨T', U2, d3.sub (Sub.refl _) Sub.l, Sub.l, Sub.r, q, z'⟩
    exact sep_mono (Im.refl _) (fun F H T h => scat_ok b h) F' H' _ w
/-- the same with defaults behind the written arguments -/
theorem ev_callD {sp : Sp} {E : XK} {dvs : List V} (ha : Ea B t ρ as ρ1) (hc : Ct (fun vs => sp (vs ++ dvs)) ps s ps') (e1 : gath as ρ1 = (ps, ρr)) : Ev B (tCall sp dvs E t) ρ s (scat as ps' ρr) := fun σ F H T R st dj p k hk => by
  have h := ev_call (E := E) ha hc e1 σ F H T R st dj p k hk
  have e : tCall (fun vs => sp (vs ++ dvs)) [] E t = tCall sp dvs E t := by
    funext σ H Q
    unfold tCall
    simp only [List.append_nil]
  rw [← e]
  exact h
theorem En.app : ∀ {ps qs : Env} {σ τ : L2.St} {F H : Hp} {T : Fp}, sep (En ps σ) (En qs τ) F H T → En (ps ++ qs) (σ ++ τ) F H T
  | [], qs, [], τ, F, H, T, h => sep_right (En.stb _ _) F H T h
  | .none :: ps, qs, _ :: σ, τ, F, H, T, ⟨T1, T2, d, s1, s2, x, y⟩ => En.app (ps := ps) (σ := σ) ⟨T1, T2, d, s1, s2, x, y⟩
  | .some s :: ps, qs, .some v :: σ, τ, F, H, T, h => by
    obtain ⟨T1, T2, d, s1, s2, x, y⟩ := sep_assoc F H T h
    exact ⟨T1, T2, d, s1, s2, x, En.app (ps := ps) (σ := σ) y⟩
  | [], _, _ :: _, _, _, _, _, ⟨_, _, _, _, _, x, _⟩ => x.elim
  | .none :: _, _, [], _, _, _, _, ⟨_, _, _, _, _, x, _⟩ => x.elim
  | .some _ :: _, _, [], _, _, _, _, ⟨_, _, _, _, _, x, _⟩ => x.elim
  | .some _ :: _, _, .none :: _, _, _, _, _, ⟨_, _, _, _, _, x, _⟩ => x.elim
theorem En.take : ∀ {ps qs : Env} {σ τ : L2.St} {F H : Hp} {T : Fp}, ps.length = σ.length → En (ps ++ qs) (σ ++ τ) F H T → En ps σ F H T
  | [], qs, [], τ, F, H, T, _, h => trivial
  | .none :: ps, qs, _ :: σ, τ, F, H, T, l, h => En.take (ps := ps) (σ := σ) (by simpa using l) h
  | .some s :: ps, qs, .some v :: σ, τ, F, H, T, l, ⟨T1, T2, d, s1, s2, x, y⟩ => ⟨T1, T2, d, s1, s2, x, En.take (ps := ps) (σ := σ) (by simpa using l) y⟩
  | .some _ :: _, _, .none :: _, _, _, _, _, _, h => h.elim
  | [], _, _ :: _, _, _, _, _, l, _ => by simp at l
  | .none :: _, _, [], _, _, _, _, l, _ => by simp at l
  | .some _ :: _, _, [], _, _, _, _, l, _ => by simp at l
/-- defaults that are data -/
theorem Ct.dfl {sp : Sp} {dvs : List V} {qs : Env} (h : Ct sp (ps ++ qs) s (ps' ++ qs)) (hq : ∀ F H, En qs (dvs.map some) F H Fp.no) (hl : ps.length = ps'.length) : Ct (fun vs => sp (vs ++ dvs)) ps s ps' := fun E vs F H T w p Q hQ => by
  have lv : ps.length = (vs.map some).length := (En.len p).symm
  refine h E (vs ++ dvs) F H T w ?_ Q fun v F' H' T' st' q => hQ v F' H' T' st' ?_
  · rw [List.map_append]
    exact En.app ⟨T, Fp.no, Dj.no.symm, Sub.refl _, Sub.no, p, hq F H⟩
  · rw [List.map_append] at q
    exact sep_mono (Im.refl _) (fun F H T h => En.take (hl.symm.trans lv) h) F' H' T' q
/-- THE FORM of a promise: x, whatever tells the arguments apart -/
def SpZ {α : Type} (pre : α → Prop) (ps : α → Env) (r : α → Sl) (ps' : α → Env) : Sp := fun vs H Q _ => ∃ x F T, pre x ∧ WF F H T ∧ En (ps x) (vs.map some) F H T ∧ ∀ v F' H' T', St ⟨F, H, T⟩ F' H' T' → sep ((r x).p v) (En (ps' x) (vs.map some)) F' H' T' → Q v H'
theorem SpZ.ct {α : Type} {pre : α → Prop} {ps : α → Env} {r : α → Sl} {ps' : α → Env} (x : α) (hp : pre x) : Ct (SpZ pre ps r ps') (ps x) (r x) (ps' x) := fun E vs F H T w p Q hQ => ⟨x, F, T, hp, w, p, hQ⟩
theorem SpZ.len {α : Type} {pre : α → Prop} {ps : α → Env} {r : α → Sl} {ps' : α → Env} {n : Nat} (hn : ∀ x, (ps x).length = n) {vs : List V} {H : Hp} {Q : VK} {E : XK} (h : SpZ pre ps r ps' vs H Q E) : vs.length = n := by
  obtain ⟨x, F, T, _, _, p, _⟩ := h
  have := En.len p
  rw [List.length_map, hn] at this
  exact this
/-! ### statements -/
structure Po where
  nx : L2.St → As
  rt : V → As
  bk : L2.St → As
  ct : L2.St → As
structure EndsOk (B : Base) (F0 : Hp) (D : Ends) (q : Po) : Prop where
  nx : ∀ σ F H T, St B F H T → Ex F0 F → q.nx σ F H T → D.nx σ H
  rt : ∀ v F H T, St B F H T → Ex F0 F → q.rt v F H T → D.rt v H
  bk : ∀ σ F H T, St B F H T → Ex F0 F → q.bk σ F H T → D.bk σ H
  ct : ∀ σ F H T, St B F H T → Ex F0 F → q.ct σ F H T → D.ct σ H
theorem EndsOk.on {B : Base} {F0 F1 : Hp} {D : Ends} {q : Po} (h : EndsOk B F0 D q) (e : Ex F0 F1) : EndsOk B F1 D q :=
  ⟨fun σ F H T s x => h.nx σ F H T s (e.trans x), fun v F H T s x => h.rt v F H T s (e.trans x), fun σ F H T s x => h.bk σ F H T s (e.trans x), fun σ F H T s x => h.ct σ F H T s (e.trans x)⟩
def Do (B : Base) (ts : TS) (P : L2.St → As) (q : Po) : Prop := ∀ D σ F H T, EndsOk B F D q → St B F H T → P σ F H T → ts D σ H
/-- which parameters hold what they were called with -/
def Pin (π : List (Option V)) (σ : L2.St) : Prop := ∀ (i : Nat) (v : V), π[i]? = some (some v) → σ[i]? = some (some v)
def A (π : List (Option V)) (ρ : Env) : L2.St → As := fun σ F H T => Pin π σ ∧ En ρ σ F H T
def free (π : List (Option V)) (i : Nat) : Bool := match π[i]? with
  | some (some _) => false
  | _ => true
def no : L2.St → As := fun _ _ _ _ => False
variable {π : List (Option V)} {ts tu tw : TS} {P M n n' bk ct : L2.St → As} {rt : V → As} {q : Po}
theorem Pin.set {σ : L2.St} {i : Nat} {x : Option V} (h : Pin π σ) (f : free π i = true) : Pin π (σ.set i x) := fun k v e => by
  have hk : k ≠ i := fun z => by
    subst z
    unfold free at f
    rw [e] at f
    cases f
  rw [List.getElem?_set_ne (Ne.symm hk)]
  exact h k v e
/-- from an expression's triple to a statement's -/
theorem Ev.go {Q : VK} {σ : L2.St} {F H : Hp} {T : Fp} (h : Ev B te ρ s ρ1) (st : St B F H T) (p : En ρ σ F H T) (k : ∀ v F' H' T', St B F' H' T' → Ex F F' → sep (s.p v) (En ρ1 σ) F' H' T' → Q v H') : te σ H Q :=
  h σ F H T Fp.no (st.less ((Sub.refl _).un Sub.no)) Dj.no.symm p Q fun v F' H' T' s' _ _ e' x => k v F' H' T' (s'.less Sub.l) e' x
theorem Et.go {tt : TT} {Q : Bool → Hp → Prop} {σ : L2.St} {F H : Hp} {T : Fp} (h : Et B tt ρ b ρ1) (st : St B F H T) (p : En ρ σ F H T) (k : ∀ F' H' T', St B F' H' T' → Ex F F' → En ρ1 σ F' H' T' → Q b H') : tt σ H Q :=
  h σ F H T Fp.no (st.less ((Sub.refl _).un Sub.no)) Dj.no.symm p Q fun c F' H' T' s' _ _ e' ⟨ec, x⟩ => by
    subst ec
    exact k F' H' T' (s'.less Sub.l) e' x
theorem do_seq (h1 : Do B ts P ⟨M, rt, bk, ct⟩) (h2 : Do B tu M ⟨n, rt, bk, ct⟩) : Do B (tSeq ts tu) P ⟨n, rt, bk, ct⟩ := fun D σ F H T e st p =>
  h1 _ σ F H T ⟨fun σ' F' H' T' s' x m => h2 D σ' F' H' T' (e.on x) s' m, e.rt, e.bk, e.ct⟩ st p
theorem do_next (h : ∀ σ, Im (P σ) (n σ)) : Do B tNext P ⟨n, rt, bk, ct⟩ := fun D σ F H T e st p => e.nx σ F H T st (Ex.refl _) (h σ F H T p)
theorem do_next' : Do B tNext n ⟨n, rt, bk, ct⟩ := do_next fun _ => Im.refl _
theorem do_brk (h : ∀ σ, Im (P σ) (bk σ)) : Do B tBreak P ⟨n, rt, bk, ct⟩ := fun D σ F H T e st p => e.bk σ F H T st (Ex.refl _) (h σ F H T p)
theorem do_cont (h : ∀ σ, Im (P σ) (ct σ)) : Do B tCont P ⟨n, rt, bk, ct⟩ := fun D σ F H T e st p => e.ct σ F H T st (Ex.refl _) (h σ F H T p)
theorem Do.post (h : Do B ts P ⟨n, rt, bk, ct⟩) (k : ∀ σ, Im (n σ) (n' σ)) : Do B ts P ⟨n', rt, bk, ct⟩ := fun D σ F H T e st p =>
  h D σ F H T ⟨fun σ' F' H' T' s' y x => e.nx σ' F' H' T' s' y (k σ' F' H' T' x), e.rt, e.bk, e.ct⟩ st p
theorem Do.pre {P' : L2.St → As} (h : Do B ts P q) (k : ∀ σ, Im (P' σ) (P σ)) : Do B ts P' q := fun D σ F H T e st p => h D σ F H T e st (k σ F H T p)
theorem Im.A {σ : L2.St} (l : EnLe ρ ρ') : Im (A π ρ σ) (A π ρ' σ) := fun F H T h => ⟨h.1, En.le l h.2⟩
theorem do_set {i : Nat} (h : Ev B te ρ s ρ1) (hi : i < ρ1.length := by exact Nat.le_of_ble_eq_true rfl) (hf : free π i = true := by rfl) : Do B (tAsg te (gName i)) (A π ρ) ⟨A π (ρ1.set i (some s)), rt, bk, ct⟩ := fun D σ F H T e st ⟨pp, p⟩ =>
  h.go st p fun v F' H' T' s' y x => e.nx _ F' H' T' s' y ⟨pp.set hf, En.store hi x⟩
theorem do_drop (h : Ev B te ρ s ρ1) : Do B (tDrop te) (A π ρ) ⟨A π ρ1, rt, bk, ct⟩ := fun D σ F H T e st ⟨pp, p⟩ =>
  h.go st p fun v F' H' T' s' y x => e.nx _ F' H' T' s' y ⟨pp, sep_right (En.stb _ _) _ _ _ x⟩
theorem do_ret (h : Ev B te ρ s ρ1) (hr : ∀ v σ, Pin π σ → Im (sep (s.p v) (En ρ1 σ)) (rt v)) : Do B (tRet te) (A π ρ) ⟨n, rt, bk, ct⟩ := fun D σ F H T e st ⟨pp, p⟩ =>
  h.go st p fun v F' H' T' s' y x => e.rt v F' H' T' s' y (hr v σ pp F' H' T' x)
theorem do_retN (hr : ∀ σ, Im (A π ρ σ) (rt .non)) : Do B tRetN (A π ρ) ⟨n, rt, bk, ct⟩ := fun D σ F H T e st p => e.rt .non F H T st (Ex.refl _) (hr σ F H T p)
theorem do_if {tt : TT} (ht : Et B tt ρ b ρ1) (h1 : b = true → Do B tu (A π ρ1) q) (h2 : b = false → Do B tw (A π ρ1) q) : Do B (tIfS tt tu tw) (A π ρ) q := fun D σ F H T e st ⟨pp, p⟩ =>
  ht.go st p fun F' H' T' s' y x => by
    cases b with
    | true => exact iteT (h1 rfl D σ F' H' T' (e.on y) s' ⟨pp, x⟩)
    | false => exact iteF (h2 rfl D σ F' H' T' (e.on y) s' ⟨pp, x⟩)
theorem do_aug {i : Nat} {f : Int → Int → Int} {x y : Int} (h : Ev B te ρ (dI K y) ρ1) (h0 : ρ[i]? = some (some (dI K x))) (hi : i < ρ1.length := by exact Nat.le_of_ble_eq_true rfl) (hf : free π i = true := by rfl) : Do B (tAug i te (ipI f)) (A π ρ) ⟨A π (ρ1.set i (some (dI K (f x y)))), rt, bk, ct⟩ := fun D σ F H T e st ⟨pp, p⟩ => by
  obtain ⟨v, ev, T1, T2, _, _, _, z, _⟩ := En.split h0 p
  cases z
  refine ⟨.int x, ev, h.go st p fun w F' H' T' s' yy q => ?_⟩
  obtain ⟨U1, U2, _, u1, u2, z, q2⟩ := q
  cases z
  exact ⟨x, y, rfl, rfl, e.nx _ F' H' T' s' yy ⟨pp.set hf, En.store hi ⟨Fp.no, T', Dj.no, Sub.no, Sub.refl _, .int _, (En.stb _ _).up q2 u2⟩⟩⟩
/-- assigning data to a target -/
def Tgt (K : PySem.W.Frag) (π : List (Option V)) (g : TG) (d : PyData) (ρ ρ' : Env) : Prop := ∀ v σ F H T, Ex F H → Dq K F v d → A π ρ σ F H T → ∀ Q : L2.St → Hp → Prop, (∀ σ', A π ρ' σ' F H T → Q σ' H) → g v σ H Q
theorem tg_name {i : Nat} (hi : i < ρ.length := by exact Nat.le_of_ble_eq_true rfl) (hf : free π i = true := by rfl) : Tgt K π (gName i) d ρ (ρ.set i (some (dat K d))) := fun v σ F H T _ q ⟨pp, p⟩ Q hQ =>
  hQ _ ⟨pp.set hf, En.store hi ⟨Fp.no, T, Dj.no, Sub.no, Sub.refl _, q, p⟩⟩
def Tgts (K : PySem.W.Frag) (π : List (Option V)) (g : TGs) (ds : List PyData) (ρ ρ' : Env) : Prop := ∀ vs σ F H T, Ex F H → DqAll K F vs ds → A π ρ σ F H T → ∀ Q : L2.St → Hp → Prop, (∀ σ', A π ρ' σ' F H T → Q σ' H) → g vs σ H Q
theorem tgs_nil : Tgts K π gNil [] ρ ρ := fun vs σ F H T _ q p Q hQ => by
  cases q
  exact ⟨rfl, hQ σ p⟩
theorem tgs_cons {g : TG} {gs : TGs} (h : Tgt K π g d ρ ρ1) (hs : Tgts K π gs ds ρ1 ρ2) : Tgts K π (gCons g gs) (d :: ds) ρ ρ2 := fun vs σ F H T ex q p Q hQ => by
  cases q with
  | cons x y => exact ⟨_, _, rfl, h _ σ F H T ex x p _ fun σ' p' => hs _ σ' F H T ex y p' Q hQ⟩
theorem tg_tup {k : Nat} {gs : TGs} (hs : Tgts K π gs ds ρ ρ2) (hk : ds.length = k := by rfl) : Tgt K π (gTup K k gs) (.tuple ds) ρ ρ2 := fun v σ F H T ex q p Q hQ => by
  cases q with
  | tup a b => exact ⟨_, _, rfl, SqT.ext ex a, by rw [DqAll.length b]; exact hk, hs _ σ F H T ex b p Q hQ⟩
theorem do_asg {g : TG} (h : Ev B te ρ (dat K d) ρ1) (hg : Tgt K π g d ρ1 ρ2) : Do B (tAsg te g) (A π ρ) ⟨A π ρ2, rt, bk, ct⟩ := fun D σ F H T e st ⟨pp, p⟩ =>
  h.go st p fun v F' H' T' s' yy ⟨U1, U2, _, u1, u2, x, y⟩ => hg v σ F' H' T' s'.ex x ⟨pp, (En.stb _ _).up y u2⟩ _ fun σ' p' => e.nx σ' F' H' T' s' yy p'
end
end Z
/-! Z6: lists that change, loops, comprehensions, a def's body. -/
namespace Z
open PySem L2
section
variable {B : Base} {te ta tb tl : TE} {ρ ρ1 ρ2 ρ' ρr ps ps' : Env} {s s1 s2 s3 s0 : Sl} {K : PySem.W.Frag} {d e : PyData} {ds es : List PyData} {i j : Int} {b c : Bool} {t tr : TA} {as : List Arg}
variable {π : List (Option V)} {ts tu tw : TS} {P M n n' bk ct : L2.St → As} {rt : V → As} {q : Po}
/-! ### lists that change -/
/-- an owned list is written: the slot k holds es now -/
theorem En.write {F H : Hp} {T R : Fp} {σ : L2.St} {k : Nat} {a : Addr} {ws : List V} (st : St B F H (T.un R)) (p : En ρ σ F H T) (h : ρ[k]? = some (some (lst K ds))) (hσ : σ[k]? = some (some (.ref a))) (he : DqAll K F ws es) :
    St B F (upd H a (.lst ws)) (T.un R) ∧ (Dj T R → ∀ b, R b → upd H a (.lst ws) b = H b) ∧ En (ρ.set k (some (lst K es))) σ F (upd H a (.lst ws)) T := by
  obtain ⟨v, ev, T1, T2, d, s1, s2, ⟨a', vs, ea, ta, ha, qa⟩, y⟩ := En.split h p
  rw [hσ] at ev
  cases ev
  cases ea
  refine ⟨st.write (.inl (s1 a ta)), fun dj b hb => upd_ne fun z => dj a (s1 a ta) (z ▸ hb), ?_⟩
  have y' := (En.stb _ _).st (H' := upd H a (.lst ws)) y (Ex.refl _) fun b hb => upd_ne fun z => d a ta (z ▸ hb)
  have := En.put (s := lst K es) (n := k) hσ ⟨T1, T2, d, s1, s2, ⟨a, ws, rfl, ta, upd_same, he⟩, y'⟩
  rw [List.set_set] at this
  exact this
theorem tyL {K : PySem.W.Frag} {H : Hp} {a : Addr} {vs : List V} (h : H a = some (.lst vs)) : tyV K "list" (.ref a) H := .inl ⟨rfl, _, SqL.of h⟩
/-- xs.append(e) -/
theorem ev_append {k : Nat} {es : List PyData} (h0 : ρ[k]? = some (some (lst K es))) (h : Ev B te ρ (dat K d) ρ1) (h1 : ρ1[k]? = some (some (lst K ds))) (hz : ds.length < sizeLine) : Ev B (tBM K "list" rAppend (tVar k) (tCons te tNil)) ρ (dN K) (ρ1.set k (some (lst K (ds ++ [d])))) := fun σ F H T R st dj p kk hk => by
  obtain ⟨v, ev, T1, T2, _, _, _, ⟨a, vs, ea, _, ha, _⟩, _⟩ := En.split h0 p
  subst ea
  refine ⟨_, ev, tyL ha, h σ F H T R st dj p _ fun w F1 H1 T1 s1 d1 k1 e1 ⟨U1, U2, du, u1, u2, x, y⟩ => ?_⟩
  have y' := (En.stb _ _).up y u2
  obtain ⟨v', ev', U3, U4, _, _, _, ⟨a', vs', ea', _, ha', qa'⟩, _⟩ := En.split h1 y'
  rw [ev] at ev'
  cases ev'
  cases ea'
  obtain ⟨s2, k2, y2⟩ := En.write s1 y' h1 ev (qa'.append (.one x))
  exact ⟨a, vs', w, rfl, rfl, ha', by rw [qa'.length]; exact hz, hk .non F1 _ T1 s2 d1 (fun b hb => (k2 d1 b hb).trans (k1 b hb)) e1 ⟨Fp.no, T1, Dj.no, Sub.no, Sub.refl _, .non, y2⟩⟩
/-- xs.extend(ys), ys data or a new list -/
theorem ev_extend {k : Nat} {es fs : List PyData} (h0 : ρ[k]? = some (some (lst K fs))) (h : Ev B te ρ s ρ1) (hs : Lst K s es) (h1 : ρ1[k]? = some (some (lst K ds))) (hz : ds.length + es.length ≤ sizeLine) : Ev B (tBM K "list" rExtend (tVar k) (tCons te tNil)) ρ (dN K) (ρ1.set k (some (lst K (ds ++ es)))) := fun σ F H T R st dj p kk hk => by
  obtain ⟨v, ev, T1, T2, _, _, _, ⟨a, vs, ea, _, ha, _⟩, _⟩ := En.split h0 p
  subst ea
  refine ⟨_, ev, tyL ha, h σ F H T R st dj p _ fun w F1 H1 T1 s1 d1 k1 e1 ⟨U1, U2, du, u1, u2, x, y⟩ => ?_⟩
  have y' := (En.stb _ _).up y u2
  obtain ⟨v', ev', U3, U4, _, _, _, ⟨a', vs', ea', _, ha', qa'⟩, _⟩ := En.split h1 y'
  rw [ev] at ev'
  cases ev'
  cases ea'
  obtain ⟨b, ws, eb, hb, qb⟩ := hs w F1 H1 U1 s1.ex x
  subst eb
  obtain ⟨s2, k2, y2⟩ := En.write s1 y' h1 ev (qa'.append qb)
  exact ⟨a, b, vs', ws, rfl, rfl, ha', hb, by rw [qa'.length, qb.length]; exact hz, hk .non F1 _ T1 s2 d1 (fun b hb => (k2 d1 b hb).trans (k1 b hb)) e1 ⟨Fp.no, T1, Dj.no, Sub.no, Sub.refl _, .non, y2⟩⟩
/-- xs.pop() -/
theorem ev_pop {k : Nat} (h0 : ρ[k]? = some (some (lst K (ds ++ [d])))) : Ev B (tBM0 K "list" rPop (tVar k)) ρ (dat K d) (ρ.set k (some (lst K ds))) := fun σ F H T R st dj p kk hk => by
  obtain ⟨v, ev, T1, T2, _, _, _, ⟨a, vs, ea, _, ha, qa⟩, _⟩ := En.split h0 p
  subst ea
  obtain ⟨w, hw, qw⟩ := qa.get' (i := ds.length) (d := d) (by simp)
  have hl : vs.length - 1 = ds.length := by rw [qa.length]; simp
  have q2 : DqAll K F vs.dropLast ds := by
    have := qa.dropLast
    rwa [List.dropLast_concat] at this
  obtain ⟨s2, k2, y2⟩ := En.write st p h0 ev q2
  exact ⟨_, ev, tyL ha, a, vs, w, rfl, rfl, ha, by rw [hl]; exact hw, hk w F _ T s2 dj (k2 dj) (Ex.refl _) ⟨Fp.no, T, Dj.no, Sub.no, Sub.refl _, qw, y2⟩⟩
/-- xs.reverse() -/
theorem ev_reverse {k : Nat} (h0 : ρ[k]? = some (some (lst K ds))) : Ev B (tBM0 K "list" rReverse (tVar k)) ρ (dN K) (ρ.set k (some (lst K ds.reverse))) := fun σ F H T R st dj p kk hk => by
  obtain ⟨v, ev, T1, T2, _, _, _, ⟨a, vs, ea, _, ha, qa⟩, _⟩ := En.split h0 p
  subst ea
  obtain ⟨s2, k2, y2⟩ := En.write st p h0 ev qa.reverse
  exact ⟨_, ev, tyL ha, a, vs, rfl, rfl, ha, hk .non F _ T s2 dj (k2 dj) (Ex.refl _) ⟨Fp.no, T, Dj.no, Sub.no, Sub.refl _, .non, y2⟩⟩
/-- xs[i] = e -/
theorem do_setitem {k m : Nat} {ti : TE} {i : Int} (h : Ev B te ρ (dat K d) ρ1) (hi : Ev B ti ρ1 (dI K i) ρ2) (hk1 : ρ1[k]? = some (some s0)) (hk : ρ2[k]? = some (some (lst K ds))) (hx : ixN ds.length i = some m) :
    Do B (tAsg te (gSub (tVar k) ti rSetL)) (A π ρ) ⟨A π (ρ2.set k (some (lst K (ds.set m d)))), rt, bk, ct⟩ := fun D σ F H T e st ⟨pp, p⟩ =>
  h.go st p fun w F1 H1 T1 s1 e1 ⟨U1, U2, du, u1, u2, x, y⟩ => by
    obtain ⟨v, ev, _⟩ := En.split hk1 y
    refine ⟨v, ev, hi.go s1 ((En.stb _ _).up y u2) fun u F2 H2 T2 s2 e2 ⟨U3, U4, du', u3, u4, x2, y2⟩ => ?_⟩
    cases x2
    have y2' := (En.stb _ _).up y2 u4
    obtain ⟨v', ev', _, _, _, _, _, ⟨a, vs, ea, _, ha, qa⟩, _⟩ := En.split hk y2'
    rw [ev] at ev'
    cases ev'
    subst ea
    obtain ⟨s3, _, y3⟩ := En.write (T := T2) (R := Fp.no) (s2.less ((Sub.refl _).un Sub.no)) y2' hk ev (qa.set (Dq.ext e2 x) m)
    exact ⟨a, vs, i, m, rfl, rfl, ha, by rw [qa.length]; exact hx, e.nx σ F2 _ T2 (s3.less Sub.l) (e1.trans e2) ⟨pp, y3⟩⟩
/-! ### what is walked -/
/-- the iterator gives the data ds, one after the other, whatever is added to the heap -/
structure Yields (K : PySem.W.Frag) (J : It) (ds : List PyData) (F : Hp) : Prop where
  go : ∀ i H, i < ds.length → Ex F H → J.go i H
  stop : ∀ i H, ds.length ≤ i → Ex F H → J.stop i H
  yld : ∀ i H x H', i < ds.length → Ex F H → J.yld i H x H' → ∃ d, ds[i]? = some d ∧ ((H' = H ∧ Dq K F x d) ∨ ∃ p xs es, x = .ref p ∧ H p = none ∧ H' = upd H p (.tup xs) ∧ DqAll K F xs es ∧ d = .tuple es)
def Iw (K : PySem.W.Frag) (B : Base) (wi : TI) (ρ : Env) (ds : List PyData) (ρ' : Env) : Prop := ∀ σ F H T R, St B F H (T.un R) → Dj T R → En ρ σ F H T → ∀ Q : It → Hp → Prop,
  (∀ J F' H' T', St B F' H' (T'.un R) → Dj T' R → (∀ b, R b → H' b = H b) → Ex F F' → En ρ' σ F' H' T' → Yields K J ds F' → Q J H') → wi σ H Q
theorem yields_list {F : Hp} {a : Addr} {vs : List V} (ha : SqL K F a vs) (qa : DqAll K F vs ds) : Yields K (Itl K a) ds F where
  go := fun i H hi e => ⟨vs, vs[i]'(by rw [qa.length]; exact hi), SqL.ext e ha, by simp⟩
  stop := fun i H hi e => ⟨vs, SqL.ext e ha, by rw [qa.length]; exact hi⟩
  yld := fun i H x H' hi e ⟨e1, h⟩ => by
    obtain ⟨d, h1, h2⟩ := qa.get (h vs (SqL.ext e ha))
    exact ⟨d, h1, .inl ⟨e1, h2⟩⟩
theorem yields_tup {F : Hp} {a : Addr} {vs : List V} (ha : SqT K F a vs) (qa : DqAll K F vs ds) : Yields K (Itt K a) ds F where
  go := fun i H hi e => ⟨vs, vs[i]'(by rw [qa.length]; exact hi), SqT.ext e ha, by simp⟩
  stop := fun i H hi e => ⟨vs, SqT.ext e ha, by rw [qa.length]; exact hi⟩
  yld := fun i H x H' hi e ⟨e1, h⟩ => by
    obtain ⟨d, h1, h2⟩ := qa.get (h vs (SqT.ext e ha))
    exact ⟨d, h1, .inl ⟨e1, h2⟩⟩
/-- lo, lo + c, .. -/
def rngD (lo c : Int) (n : Nat) : List PyData := (List.range n).map fun i => .int (lo + (i : Nat) * c)
theorem rngD_len {lo c : Int} {n : Nat} : (rngD lo c n).length = n := by unfold rngD; simp
theorem rngD_get {lo c : Int} {n i : Nat} (h : i < n) : (rngD lo c n)[i]? = some (.int (lo + (i : Nat) * c)) := by
  unfold rngD
  rw [List.getElem?_map, List.getElem?_range h]
  rfl
theorem yields_rng {F : Hp} {lo : Int} {n : Nat} : Yields K (Itr lo n) (rngD lo 1 n) F where
  go := fun i H hi e => by rw [rngD_len] at hi; exact hi
  stop := fun i H hi e => by rw [rngD_len] at hi; exact hi
  yld := fun i H x H' hi e ⟨e1, h⟩ => by
    rw [rngD_len] at hi
    exact ⟨_, rngD_get hi, .inl ⟨e1, by rw [h, Int.mul_one]; exact .int _⟩⟩
theorem yields_rngC {F : Hp} {lo c : Int} {n : Nat} : Yields K (Itc lo c n) (rngD lo c n) F where
  go := fun i H hi e => by rw [rngD_len] at hi; exact hi
  stop := fun i H hi e => by rw [rngD_len] at hi; exact hi
  yld := fun i H x H' hi e ⟨e1, h⟩ => by
    rw [rngD_len] at hi
    exact ⟨_, rngD_get hi, .inl ⟨e1, by rw [h]; exact .int _⟩⟩
/-- a list that stands in the frozen part -/
def Wlk (K : PySem.W.Frag) (s : Sl) (ds : List PyData) : Prop := ∀ v F H T, Ex F H → s.p v F H T → ∃ a vs, v = .ref a ∧ SqL K F a vs ∧ DqAll K F vs ds
theorem wlk_list : Wlk K (dat K (.list ds)) ds := fun v F H T e p => by
  cases p with
  | lst q a => exact ⟨_, _, rfl, SqL.of q, a⟩
theorem iw_list (h : Ev B tl ρ s ρ1) (hw : Wlk K s ds) : Iw K B (iList K tl) ρ ds ρ1 := fun σ F H T R st dj p Q k =>
  h σ F H T R st dj p _ fun v F1 H1 T1 s1 d1 k1 e1 ⟨U1, U2, du, u1, u2, x, y⟩ => by
    obtain ⟨a, vs, ea, ha, qa⟩ := hw v F1 H1 U1 s1.ex x
    exact ⟨a, ea, ⟨vs, SqL.ext s1.ex ha⟩, k _ F1 H1 T1 s1 d1 k1 e1 ((En.stb _ _).up y u2) (yields_list ha qa)⟩
theorem iw_tup (h : Ev B tl ρ (dat K (.tuple ds)) ρ1) : Iw K B (iTup K tl) ρ ds ρ1 := fun σ F H T R st dj p Q k =>
  h σ F H T R st dj p _ fun v F1 H1 T1 s1 d1 k1 e1 ⟨U1, U2, du, u1, u2, x, y⟩ => by
    cases x with
    | tup ha qa => exact ⟨_, rfl, ⟨_, SqT.ext s1.ex ha⟩, k _ F1 H1 T1 s1 d1 k1 e1 ((En.stb _ _).up y u2) (yields_tup ha qa)⟩
theorem ed1 {vs : List V} {F : Hp} {m : Int} (h : DqAll K F vs [.int m]) : vs = [.int m] := by cases h with | cons x y => cases x; cases y; rfl
theorem ed2 {vs : List V} {F : Hp} {l m : Int} (h : DqAll K F vs [.int l, .int m]) : vs = [.int l, .int m] := by cases h with | cons x y => rw [ed1 y]; cases x; rfl
theorem ed3 {vs : List V} {F : Hp} {k l m : Int} (h : DqAll K F vs [.int k, .int l, .int m]) : vs = [.int k, .int l, .int m] := by cases h with | cons x y => rw [ed2 y]; cases x; rfl
theorem iw_rng1 {m : Int} (h : Ed K B t ρ [.int m] ρ1) (hm : -(2 ^ 62) ≤ m ∧ m < 2 ^ 62) : Iw K B (iRng1 t) ρ (rngD 0 1 m.toNat) ρ1 := fun σ F H T R st dj p Q k =>
  h σ F H T R st dj p _ fun vs F1 H1 T1 s1 d1 k1 e1 ⟨U1, U2, du, u1, u2, x, y⟩ => ⟨m, ed1 x, hm.1, hm.2, k _ F1 H1 T1 s1 d1 k1 e1 ((En.stb _ _).up y u2) yields_rng⟩
theorem iw_rng2 {l m : Int} (h : Ed K B t ρ [.int l, .int m] ρ1) (hm : -(2 ^ 62) ≤ l ∧ l < 2 ^ 62 ∧ -(2 ^ 62) ≤ m ∧ m < 2 ^ 62) : Iw K B (iRng2 t) ρ (rngD l 1 (m - l).toNat) ρ1 := fun σ F H T R st dj p Q k =>
  h σ F H T R st dj p _ fun vs F1 H1 T1 s1 d1 k1 e1 ⟨U1, U2, du, u1, u2, x, y⟩ => ⟨l, m, ed2 x, hm, k _ F1 H1 T1 s1 d1 k1 e1 ((En.stb _ _).up y u2) yields_rng⟩
theorem iw_rng3 {l m c : Int} {n : Nat} (h : Ed K B t ρ [.int l, .int m, .int c] ρ1) (hm : RgC l m c n) : Iw K B (iRng3 t) ρ (rngD l c n) ρ1 := fun σ F H T R st dj p Q k =>
  h σ F H T R st dj p _ fun vs F1 H1 T1 s1 d1 k1 e1 ⟨U1, U2, du, u1, u2, x, y⟩ => ⟨l, m, c, n, ed3 x, hm, k _ F1 H1 T1 s1 d1 k1 e1 ((En.stb _ _).up y u2) yields_rngC⟩
/-- enumerate(xs), zip(xs, ys) -/
def enumD (ds : List PyData) : List PyData := (List.range ds.length).map fun i => .tuple [.int (i : Nat), ds.getD i .none]
theorem enumD_len : (enumD ds).length = ds.length := by unfold enumD; simp
theorem enumD_get {n : Nat} (h : ds[n]? = some d) : (enumD ds)[n]? = some (.tuple [.int (n : Nat), d]) := by
  have hn := (List.getElem?_eq_some_iff.mp h).1
  unfold enumD
  rw [List.getElem?_map, List.getElem?_range hn]
  simp [List.getD, h]
theorem iw_enum (h : Ed K B t ρ [.list ds] ρ1) : Iw K B (iEnum K t) ρ (enumD ds) ρ1 := fun σ F H T R st dj p Q k =>
  h σ F H T R st dj p _ fun vs F1 H1 T1 s1 d1 k1 e1 ⟨U1, U2, du, u1, u2, x, y⟩ => by
    cases (show DqAll K F1 vs [.list ds] from x) with
    | cons x1 x2 =>
      cases x2
      cases x1 with
      | @lst a ws _ ha qa =>
        refine ⟨_, ws, rfl, SqL.of (s1.ex _ _ ha), k _ F1 H1 T1 s1 d1 k1 e1 ((En.stb _ _).up y u2) ?_⟩
        exact {
          go := fun i H hi e => ⟨ws, ws[i]'(by rw [qa.length]; rw [enumD_len] at hi; exact hi), SqL.of (e _ _ ha), by simp⟩
          stop := fun i H hi e => ⟨ws, SqL.of (e _ _ ha), by rw [qa.length]; rw [enumD_len] at hi; exact hi⟩
          yld := fun i H x H' hi e ⟨p, z, ex, hp, eH, hz⟩ => by
            obtain ⟨d, h1, h2⟩ := qa.get (hz ws (SqL.of (e _ _ ha)))
            exact ⟨_, enumD_get h1, .inr ⟨p, _, [.int (i : Nat), d], ex, hp, eH, .cons (.int _) (.one h2), rfl⟩⟩ }
def zipD (ds es : List PyData) : List PyData := (ds.zip es).map fun p => .tuple [p.1, p.2]
theorem iw_zip (h : Ed K B t ρ [.list ds, .list es] ρ1) : Iw K B (iZip K t) ρ (zipD ds es) ρ1 := fun σ F H T R st dj p Q k =>
  h σ F H T R st dj p _ fun vs F1 H1 T1 s1 d1 k1 e1 ⟨U1, U2, du, u1, u2, x, y⟩ => by
    cases (show DqAll K F1 vs [.list ds, .list es] from x) with
    | cons x1 x2 =>
      cases x2 with
      | cons x2 x3 =>
        cases x3
        cases x1 with
        | @lst a ws _ ha qa =>
          cases x2 with
          | @lst b us _ hb qb =>
            refine ⟨_, _, ws, us, rfl, SqL.of (s1.ex _ _ ha), SqL.of (s1.ex _ _ hb), k _ F1 H1 T1 s1 d1 k1 e1 ((En.stb _ _).up y u2) ?_⟩
            have hlen : (zipD ds es).length = min ds.length es.length := by unfold zipD; simp
            exact {
              go := fun i H hi e => by
                rw [hlen] at hi
                have h1 : i < ws.length := by rw [qa.length]; omega
                have h2 : i < us.length := by rw [qb.length]; omega
                exact ⟨ws, us, ws[i], us[i], SqL.of (e _ _ ha), SqL.of (e _ _ hb), by simp, by simp⟩
              stop := fun i H hi e => by
                rw [hlen] at hi
                exact ⟨ws, us, SqL.of (e _ _ ha), SqL.of (e _ _ hb), by rw [qa.length, qb.length]; omega⟩
              yld := fun i H x H' hi e ⟨p, z, z', ex, hp, eH, hz, hz'⟩ => by
                obtain ⟨d, h1, h2⟩ := qa.get (hz ws (SqL.of (e _ _ ha)))
                obtain ⟨d', h1', h2'⟩ := qb.get (hz' us (SqL.of (e _ _ hb)))
                refine ⟨.tuple [d, d'], ?_, .inr ⟨p, _, [d, d'], ex, hp, eH, .cons h2 (.one h2'), rfl⟩⟩
                unfold zipD
                rw [List.getElem?_map, List.getElem?_zip_eq_some (z := (d, d')) |>.mpr ⟨h1, h1'⟩]
                rfl }
/-! ### loops -/
/-- what is stored ahead of a turn's body -/
def Got (K : PySem.W.Frag) (g : TG) (P : L2.St → As) (d : PyData) (M : L2.St → As) : Prop := ∀ v σ F H T, Ex F H → Dq K F v d → P σ F H T → ∀ Q : L2.St → Hp → Prop, (∀ σ', M σ' F H T → Q σ' H) → g v σ H Q
theorem Tgt.got {g : TG} (h : Tgt K π g d ρ ρ') : Got K g (A π ρ) d (A π ρ') := h
/-- a turn's item: the state with it -/
theorem item_in {J : It} {F1 F' H H' : Hp} {T : Fp} {i : Nat} {x : V} (hy : Yields K J ds F1) (st : St B F' H T) (e : Ex F1 F') (hi : i < ds.length) (y : J.yld i H x H') :
    ∃ d F2, ds[i]? = some d ∧ St B F2 H' T ∧ Ex F' F2 ∧ Dq K F2 x d ∧ ∀ b, H b ≠ none → H' b = H b := by
  obtain ⟨d, h1, h2⟩ := hy.yld i H x H' hi (e.trans st.ex) y
  rcases h2 with ⟨eH, q⟩ | ⟨p, xs, es, ex, hp, eH, q, ed⟩
  · subst eH
    exact ⟨d, F', h1, st, Ex.refl _, Dq.ext e q, fun _ _ => rfl⟩
  · subst ex eH ed
    obtain ⟨s2, e2⟩ := st.allocF (o := HO.tup xs) hp
    exact ⟨_, _, h1, s2, e2, .tup (SqT.of upd_same) (DqAll.ext (e.trans e2) q), fun b hb => upd_ne fun z => hb (by rw [z]; exact hp)⟩
theorem do_for {wi : TI} {g : TG} (J : Nat → L2.St → As) (Mm : Nat → PyData → L2.St → As) (hJ : ∀ i σ, Stb (J i σ)) (h : Iw K B wi ρ ds ρ1) (h0 : ∀ σ, Im (A π ρ1 σ) (J 0 σ)) (hg : ∀ (i : Nat) d, ds[i]? = some d → Got K g (J i) d (Mm i d))
    (hb : ∀ (i : Nat) d, ds[i]? = some d → Do B ts (Mm i d) ⟨J (i + 1), rt, n, J (i + 1)⟩) (hn : ∀ σ, Im (J ds.length σ) (n σ)) : Do B (tFor wi g ts) (A π ρ) ⟨n, rt, bk, ct⟩ := fun D σ F H T e st ⟨pp, p⟩ =>
  h σ F H T Fp.no (st.less ((Sub.refl _).un Sub.no)) Dj.no.symm p _ fun I F1 H1 T1 s1' _ _ e1 y hy => by
    have s1 := s1'.less Sub.l
    refine ⟨fun i m σ' H' => m = ds.length - i ∧ i ≤ ds.length ∧ ∃ F' T', St B F' H' T' ∧ Ex F1 F' ∧ J i σ' F' H' T', ⟨_, rfl, Nat.zero_le _, F1, T1, s1, Ex.refl _, h0 σ F1 H1 T1 ⟨pp, y⟩⟩, ?_⟩
    rintro i m σ' H' ⟨rfl, hi, F', T', s', e', jj⟩
    by_cases hlt : i < ds.length
    · refine .inr ⟨hy.go i H' hlt (e'.trans s'.ex), fun σ2 H2 => ∃ F2 T2, St B F2 H2 T2 ∧ Ex F1 F2 ∧ J (i + 1) σ2 F2 H2 T2, fun σ2 H2 q => ⟨_, by omega, rfl, hlt, q⟩, fun x H2 yl => ?_⟩
      obtain ⟨d, F2, hd, s2, e2, qd, k2⟩ := item_in hy s' e' hlt yl
      refine hg i d hd x σ' F2 H2 T' s2.ex qd ((hJ i σ').st jj e2 fun b hb => k2 b (s'.own b hb).2) _ fun σ3 m3 => ?_
      exact hb i d hd _ σ3 F2 H2 T' ⟨fun σ4 F3 H3 T3 s3 e3 j3 => ⟨_, _, s3, (e'.trans e2).trans e3, j3⟩, fun v F3 H3 T3 s3 e3 r3 => e.rt v F3 H3 T3 s3 (((e1.trans e').trans e2).trans e3) r3,
        fun σ4 F3 H3 T3 s3 e3 r3 => e.nx σ4 F3 H3 T3 s3 (((e1.trans e').trans e2).trans e3) r3, fun σ4 F3 H3 T3 s3 e3 j3 => ⟨_, _, s3, (e'.trans e2).trans e3, j3⟩⟩ s2 m3
    · have ei : i = ds.length := by omega
      subst ei
      exact .inl ⟨hy.stop _ H' (Nat.le_refl _) (e'.trans s'.ex), e.nx σ' F' H' T' s' (e1.trans e') (hn σ' F' H' T' jj)⟩
theorem A.stb {π : List (Option V)} {ρ : Env} {σ : L2.St} : Stb (A π ρ σ) := ⟨fun h s => ⟨h.1, (En.stb _ _).up h.2 s⟩, fun h e k => ⟨h.1, (En.stb _ _).st h.2 e k⟩⟩
/-- the environment behind i turns is ρs i, the target's slots unknown in it -/
theorem do_forA {wi : TI} {g : TG} (ρs : Nat → Env) (ρg : Nat → PyData → Env) (h : Iw K B wi ρ ds ρ1) (h0 : EnLe ρ1 (ρs 0)) (hg : ∀ (i : Nat) d, ds[i]? = some d → Tgt K π g d (ρs i) (ρg i d))
    (hb : ∀ (i : Nat) d, ds[i]? = some d → Do B ts (A π (ρg i d)) ⟨A π (ρs (i + 1)), rt, n, A π (ρs (i + 1))⟩) (hn : ∀ σ, Im (A π (ρs ds.length) σ) (n σ)) : Do B (tFor wi g ts) (A π ρ) ⟨n, rt, bk, ct⟩ :=
  do_for (fun i => A π (ρs i)) (fun i d => A π (ρg i d)) (fun _ _ => A.stb) h (fun σ => Im.A h0) (fun i d hd => hg i d hd) hb hn
/-- while: the state is told by x -/
theorem do_while {X : Type} {tt : TT} (inv : X → Prop) (μ : X → Nat) (ρs ρt : X → Env) (bs : X → Bool) (x0 : X) (h0 : inv x0) (hρ : EnLe ρ (ρs x0)) (ht : ∀ x, inv x → Et B tt (ρs x) (bs x) (ρt x))
    (hb : ∀ x, inv x → bs x = true → Do B ts (A π (ρt x)) ⟨fun σ F H T => ∃ y, inv y ∧ μ y < μ x ∧ A π (ρs y) σ F H T, rt, n, fun σ F H T => ∃ y, inv y ∧ μ y < μ x ∧ A π (ρs y) σ F H T⟩)
    (hn : ∀ x, inv x → bs x = false → ∀ σ, Im (A π (ρt x) σ) (n σ)) : Do B (tWhile tt ts) (A π ρ) ⟨n, rt, bk, ct⟩ := fun D σ F H T e st p => by
  refine ⟨fun m σ' H' => ∃ x F' T', inv x ∧ m = μ x ∧ St B F' H' T' ∧ Ex F F' ∧ A π (ρs x) σ' F' H' T', ⟨_, x0, F, T, h0, rfl, st, Ex.refl _, Im.A hρ F H T p⟩, ?_⟩
  rintro m σ' H' ⟨x, F', T', hx, rfl, s', e', pp, q⟩
  refine (ht x hx).go s' q fun F2 H2 T2 s2 e2 q2 => ?_
  cases hbx : bs x with
  | false => exact iteF (e.nx σ' F2 H2 T2 s2 (e'.trans e2) (hn x hx hbx σ' F2 H2 T2 ⟨pp, q2⟩))
  | true =>
    refine iteT ⟨fun σ3 H3 => ∃ y F3 T3, inv y ∧ μ y < μ x ∧ St B F3 H3 T3 ∧ Ex F F3 ∧ A π (ρs y) σ3 F3 H3 T3, fun σ3 H3 ⟨y, F3, T3, iy, ly, s3, e3, q3⟩ => ⟨_, ly, y, F3, T3, iy, rfl, s3, e3, q3⟩, ?_⟩
    have cont : ∀ (σ3 : L2.St) (F3 H3 : Hp) (T3 : Fp), St B F3 H3 T3 → Ex F2 F3 → (∃ y, inv y ∧ μ y < μ x ∧ A π (ρs y) σ3 F3 H3 T3) → ∃ y F3 T3, inv y ∧ μ y < μ x ∧ St B F3 H3 T3 ∧ Ex F F3 ∧ A π (ρs y) σ3 F3 H3 T3 := fun σ3 F3 H3 T3 s3 e3 ⟨y, iy, ly, q3⟩ => ⟨y, F3, T3, iy, ly, s3, (e'.trans e2).trans e3, q3⟩
    exact hb x hx hbx _ σ' F2 H2 T2 ⟨cont, fun v F3 H3 T3 s3 e3 r3 => e.rt v F3 H3 T3 s3 ((e'.trans e2).trans e3) r3, fun σ4 F3 H3 T3 s3 e3 r3 => e.nx σ4 F3 H3 T3 s3 ((e'.trans e2).trans e3) r3, cont⟩ s2 ⟨pp, q2⟩
end
end Z
/-! Z7: comprehensions, a def's body. -/
namespace Z
open PySem L2
section
variable {B : Base} {te ta tb tl : TE} {ρ ρ1 ρ2 ρ' ρr ps ps' : Env} {s s1 s2 s3 s0 : Sl} {K : PySem.W.Frag} {d e : PyData} {ds es : List PyData} {i j : Int} {b c : Bool} {t tr : TA} {as : List Arg}
variable {π : List (Option V)} {ts tu tw : TS} {P M n n' bk ct : L2.St → As} {rt : V → As} {q : Po}
/-! ### comprehensions -/
theorem wipe_len (σ : L2.St) (vs : List Nat) : (wipe σ vs).length = σ.length := wipe_length σ vs
theorem wipe_get {σ : L2.St} {vs : List Nat} {k : Nat} (h : k ∉ vs) : (wipe σ vs)[k]? = σ[k]? := by
  induction vs with
  | nil => rfl
  | cons v vs ih =>
    have h1 : k ≠ v := fun e => h (by rw [e]; exact List.mem_cons_self)
    show ((wipe σ vs).set v none)[k]? = σ[k]?
    rw [List.getElem?_set_ne (Ne.symm h1)]
    exact ih fun e => h (List.mem_cons_of_mem _ e)
theorem wipe_none {σ : L2.St} {vs : List Nat} {k : Nat} (h : k ∈ vs) (hk : k < σ.length) : (wipe σ vs)[k]? = some none := by
  induction vs with
  | nil => cases h
  | cons v vs ih =>
    show ((wipe σ vs).set v none)[k]? = some none
    by_cases e : v = k
    · subst e
      rw [List.getElem?_set_self (by rw [wipe_length]; exact hk)]
    · rw [List.getElem?_set_ne e]
      exact ih ((List.mem_cons.mp h).resolve_left fun z => e z.symm)
/-- two states that agree outside vs have one wiped form -/
theorem wipe_eq {σ τ : L2.St} {vs : List Nat} (hl : σ.length = τ.length) (h : ∀ (k : Nat), k ∉ vs → σ[k]? = τ[k]?) : wipe σ vs = wipe τ vs := by
  apply List.ext_getElem?
  intro k
  by_cases hk : k ∈ vs
  · by_cases hs : k < σ.length
    · rw [wipe_none hk hs, wipe_none hk (hl ▸ hs)]
    · rw [List.getElem?_eq_none (by rw [wipe_length]; omega), List.getElem?_eq_none (by rw [wipe_length]; omega)]
  · rw [wipe_get hk, wipe_get hk]
    exact h k hk
def Blind (ρ : Env) (vs : List Nat) : Prop := ∀ v ∈ vs, ρ[v]? = some none
/-- what the environment does not know may change -/
theorem En.agree {F H : Hp} : ∀ {ρ : Env} {σ τ : L2.St} {T : Fp}, σ.length = τ.length → (∀ (k : Nat), ρ[k]? ≠ some none → σ[k]? = τ[k]?) → En ρ σ F H T → En ρ τ F H T
  | [], [], [], _, _, _, h => h
  | [], [], _ :: _, _, l, _, _ => by simp at l
  | [], _ :: _, _, _, _, _, h => h.elim
  | .none :: ρ, _ :: σ, _ :: τ, _, l, a, h => En.agree (ρ := ρ) (σ := σ) (τ := τ) (by simpa using l) (fun k hk => by have := a (k + 1) (by simpa using hk); simpa using this) h
  | .none :: ρ, _ :: σ, [], _, l, _, _ => by simp at l
  | .none :: ρ, [], _, _, _, _, h => h.elim
  | .some s :: ρ, .some v :: σ, y :: τ, T, l, a, ⟨T1, T2, d, s1, s2, x, h⟩ => by
    have e : some (some v) = some y := by simpa using a 0 (by simp)
    cases e
    exact ⟨T1, T2, d, s1, s2, x, En.agree (ρ := ρ) (σ := σ) (τ := τ) (by simpa using l) (fun k hk => by have := a (k + 1) (by simpa using hk); simpa using this) h⟩
  | .some s :: ρ, .some v :: σ, [], T, l, _, _ => by simp at l
  | .some s :: ρ, [], _, _, _, _, h => h.elim
  | .some s :: ρ, .none :: _, _, _, _, _, h => h.elim
theorem En.wipe {F H : Hp} {σ : L2.St} {T : Fp} {vs : List Nat} (hb : Blind ρ vs) (h : En ρ σ F H T) : En ρ (wipe σ vs) F H T :=
  En.agree (wipe_length σ vs).symm (fun k hk => (wipe_get fun hm => hk (hb k hm)).symm) h
theorem En.unwipe {F H : Hp} {σ : L2.St} {T : Fp} {vs : List Nat} (hb : Blind ρ vs) (h : En ρ (L2.wipe σ vs) F H T) : En ρ σ F H T :=
  En.agree (wipe_length σ vs) (fun k hk => wipe_get fun hm => hk (hb k hm)) h
/-- a comprehension's target -/
def TgC (K : PySem.W.Frag) (vs : List Nat) (g : TG) (d : PyData) (ρ ρ' : Env) : Prop := ∀ v σ F H T, Ex F H → Dq K F v d → En ρ σ F H T → ∀ Q : L2.St → Hp → Prop, (∀ σ', wipe σ' vs = wipe σ vs → En ρ' σ' F H T → Q σ' H) → g v σ H Q
def TgCs (K : PySem.W.Frag) (vs : List Nat) (g : TGs) (ds : List PyData) (ρ ρ' : Env) : Prop := ∀ us σ F H T, Ex F H → DqAll K F us ds → En ρ σ F H T → ∀ Q : L2.St → Hp → Prop, (∀ σ', wipe σ' vs = wipe σ vs → En ρ' σ' F H T → Q σ' H) → g us σ H Q
theorem tgc_name {k : Nat} {vs : List Nat} (hk : k ∈ vs := by decide) (hl : k < ρ.length := by exact Nat.le_of_ble_eq_true rfl) : TgC K vs (gName k) d ρ (ρ.set k (some (dat K d))) := fun v σ F H T _ q p Q hQ =>
  hQ _ (wipe_eq (by rw [List.length_set]) fun m hm => by rw [List.getElem?_set_ne fun e => hm (by rw [← e]; exact hk)]) (En.store hl ⟨Fp.no, T, Dj.no, Sub.no, Sub.refl _, q, p⟩)
theorem tgcs_nil {vs : List Nat} : TgCs K vs gNil [] ρ ρ := fun us σ F H T _ q p Q hQ => by cases q; exact ⟨rfl, hQ σ rfl p⟩
theorem tgcs_cons {vs : List Nat} {g : TG} {gs : TGs} (h : TgC K vs g d ρ ρ1) (hs : TgCs K vs gs ds ρ1 ρ2) : TgCs K vs (gCons g gs) (d :: ds) ρ ρ2 := fun us σ F H T ex q p Q hQ => by
  cases q with
  | cons x y => exact ⟨_, _, rfl, h _ σ F H T ex x p _ fun σ' w p' => hs _ σ' F H T ex y p' Q fun σ2 w2 p2 => hQ σ2 (w2.trans w) p2⟩
theorem tgc_tup {vs : List Nat} {k : Nat} {gs : TGs} (hs : TgCs K vs gs ds ρ ρ2) (hk : ds.length = k := by rfl) : TgC K vs (gTup K k gs) (.tuple ds) ρ ρ2 := fun v σ F H T ex q p Q hQ => by
  cases q with
  | tup a b => exact ⟨_, _, rfl, SqT.ext ex a, by rw [DqAll.length b]; exact hk, hs _ σ F H T ex b p Q hQ⟩
/-- one turn -/
structure Lc1 (K : PySem.W.Frag) (B : Base) (g : TG) (tt : TT) (te : TE) (vs : List Nat) (d : PyData) (ρ ρ' : Env) (acc acc' : List PyData) : Prop where
  go : ∃ ρg, TgC K vs g d ρ ρg ∧ ∃ b ρt, Et B tt ρg b ρt ∧ (b = true → ∃ e ρe, Ev B te ρt (dat K e) ρe ∧ EnLe ρe ρ' ∧ acc' = acc ++ [e]) ∧ (b = false → EnLe ρt ρ' ∧ acc' = acc)
theorem ev_lc {wi : TI} {g : TG} {tt : TT} {vs : List Nat} (ρs : Nat → Env) (out : Nat → List PyData) (h : Iw K B wi ρ ds ρ1) (h0 : EnLe ρ1 (ρs 0)) (ho : out 0 = []) (hv : ∀ i, i ≤ ds.length → Blind (ρs i) vs)
    (hs : ∀ (i : Nat) d, ds[i]? = some d → Lc1 K B g tt te vs d (ρs i) (ρs (i + 1)) (out i) (out (i + 1))) (hz : ds.length ≤ sizeLine) : Ev B (tLc wi g tt te vs) ρ (lst K (out ds.length)) (ρs ds.length) := fun σ F H T R st dj p Q hQ =>
  h σ F H T R st dj p _ fun I F1 H1 T1 s1 d1 k1 e1 y hy => fun D hD => by
    let Pv : Nat → Hp → Prop := fun i H' => (out i).length ≤ i ∧ ∃ F' T' acc, St B F' H' ((Fp.un (fun b => b = D) T').un R) ∧ Dj T' R ∧ Dj (fun b => b = D) (T'.un R) ∧ (∀ b, R b → H' b = H b) ∧ Ex F1 F' ∧ En (ρs i) (wipe σ vs) F' H' T' ∧ H' D = some (.lst acc) ∧ DqAll K F' acc (out i)
    have start : Pv 0 (upd H1 D (.lst [])) := by
      have s2 := s1.alloc (o := HO.lst []) hD
      have nD : ∀ b, (T1.un R) b → b ≠ D := fun b hb e => (s1.own b hb).2 (by rw [e]; exact hD)
      refine ⟨by rw [ho]; exact Nat.le_refl _, F1, T1, [], s2.less ((Sub.r.un (Sub.l.trans Sub.l)).un (Sub.r.trans Sub.l)), d1, fun b e hb => nD b hb e, fun b hb => (upd_ne (nD b (.inr hb))).trans (k1 b hb), Ex.refl _, ?_, upd_same, by rw [ho]; exact .nil⟩
      exact En.wipe (hv 0 (Nat.zero_le _)) (En.le h0 ((En.stb _ _).st y (Ex.refl _) fun b hb => upd_ne (nD b (.inl hb))))
    refine ⟨fun i m H' => m = ds.length - i ∧ i ≤ ds.length ∧ Pv i H', ⟨_, rfl, Nat.zero_le _, start⟩, ?_⟩
    rintro i m H' ⟨rfl, hi, hl, F', T', acc, s', dj', dD, k', e', p', hD', qa⟩
    by_cases hlt : i < ds.length
    · refine .inr ⟨hy.go i H' hlt (e'.trans s'.ex), fun H2 => Pv (i + 1) H2, fun H2 q => ⟨_, by omega, rfl, hlt, q⟩, fun x H2 yl => ?_⟩
      obtain ⟨d, F2, hd, s2, e2, qd, k2⟩ := item_in hy s' e' hlt yl
      obtain ⟨ρg, hg, b, ρt, ht, hy1, hy2⟩ := (hs i d hd).go
      have p2 : En (ρs i) (wipe σ vs) F2 H2 T' := (En.stb _ _).st p' e2 fun b hb => k2 b (s'.own b (.inl (.inr hb))).2
      have hD2 : H2 D = some (.lst acc) := (k2 D (by rw [hD']; simp)).trans hD'
      have kR2 : ∀ b, R b → H2 b = H b := fun b hb => (k2 b (s'.own b (.inr hb)).2).trans (k' b hb)
      refine hg x (wipe σ vs) F2 H2 T' s2.ex qd p2 _ fun σ2 hw2 p3 => ⟨hw2.trans ?_, ?_⟩
      · exact wipe_eq (wipe_length σ vs) fun k hk => wipe_get hk
      have sR : St B F2 H2 (T'.un (Fp.un (fun b => b = D) R)) := s2.less ((Sub.r.trans Sub.l).un ((Sub.l.trans Sub.l).un Sub.r))
      have djR : Dj T' (Fp.un (fun b => b = D) R) := (dD.sub (Sub.refl _) Sub.l).symm.unr dj'
      have back : ∀ {ρe : Env} {F3 H3 : Hp} {T3 : Fp}, EnLe ρe (ρs (i + 1)) → En ρe σ2 F3 H3 T3 → En (ρs (i + 1)) (wipe σ vs) F3 H3 T3 := fun l q => by
        have q2 := En.wipe (hv (i + 1) hlt) (En.le l q)
        rw [hw2] at q2
        rw [show wipe σ vs = wipe (wipe σ vs) vs from (wipe_eq (wipe_length σ vs) fun k hk => wipe_get hk).symm]
        exact q2
      refine ht σ2 F2 H2 T' _ sR djR p3 _ fun c F3 H3 T3 s3 d3 k3 e3 ⟨ec, p4⟩ => ?_
      subst ec
      have hD3 : H3 D = some (.lst acc) := (k3 D (.inl rfl)).trans hD2
      have kR3 : ∀ b, R b → H3 b = H b := fun b hb => (k3 b (.inr hb)).trans (kR2 b hb)
      cases c with
      | false =>
        obtain ⟨l, ea⟩ := hy2 rfl
        refine iteF ⟨by rw [ea]; omega, F3, T3, acc, s3.less (((Sub.l.trans Sub.r).un Sub.l).un (Sub.r.trans Sub.r)), d3.sub (Sub.refl _) Sub.r, ((d3.sub (Sub.refl _) Sub.l).symm).unr (dD.sub (Sub.refl _) Sub.r), kR3, (e'.trans e2).trans e3, back l p4, hD3, by rw [ea]; exact DqAll.ext (e2.trans e3) qa⟩
      | true =>
        obtain ⟨ed, ρe, hev, l, ea⟩ := hy1 rfl
        refine iteT (hev σ2 F3 H3 T3 _ s3 d3 p4 _ fun v F4 H4 T4 s4 d4 k4 e4 ⟨U1, U2, du, u1, u2, x4, y4⟩ => ?_)
        have hD4 : H4 D = some (.lst acc) := (k4 D (.inl rfl)).trans hD3
        refine ⟨acc, hD4, by rw [qa.length]; omega, ?_⟩
        have qa4 := DqAll.ext ((e2.trans e3).trans e4) qa
        have nD : ∀ b, (U2.un R) b → b ≠ D := fun b hb z => by
          subst z
          rcases hb with hb | hb
          · exact d4 _ (u2 _ hb) (.inl rfl)
          · exact dD _ rfl (.inr hb)
        have s5 : St B F4 (upd H4 D (.lst (acc ++ [v]))) ((Fp.un (fun b => b = D) U2).un R) := (s4.less (((Sub.l.trans Sub.r).un (u2.trans Sub.l)).un (Sub.r.trans Sub.r))).write (.inl (.inl rfl))
        refine ⟨by rw [ea, List.length_append]; simp only [List.length_singleton]; omega, F4, U2, acc ++ [v], s5, (d4.sub u2 Sub.r), fun b z hb => nD b hb z, fun b hb => (upd_ne (nD b (.inr hb))).trans ((k4 b (.inr hb)).trans (kR3 b hb)), ((e'.trans e2).trans e3).trans e4, ?_, upd_same, by rw [ea]; exact qa4.append (.one x4)⟩
        exact back l ((En.stb _ _).st y4 (Ex.refl _) fun b hb => upd_ne (nD b (.inl hb)))
    · have ei : i = ds.length := by omega
      subst ei
      refine .inl ⟨hy.stop _ H' (Nat.le_refl _) (e'.trans s'.ex), hQ (.ref D) F' H' (Fp.un (fun b => b = D) T') s' ((dD.sub (Sub.refl _) Sub.r).unl dj') k' (e1.trans e') ?_⟩
      exact ⟨_, T', dD.sub (Sub.refl _) Sub.l, Sub.l, Sub.r, ⟨D, acc, rfl, rfl, hD', qa⟩, En.unwipe (hv _ (Nat.le_refl _)) p'⟩
/-- the tests of a comprehension: none -/
theorem et_yes : Et B tYes ρ true ρ := fun σ F H T R st dj p k hk => hk true F H T st dj (fun _ _ => rfl) (Ex.refl _) ⟨rfl, p⟩
/-! ### a def's body -/
def pad (n : Nat) (ps : Env) : Env := ps ++ List.replicate (n - ps.length) none
theorem En.start {F H : Hp} {T : Fp} {vs : List V} {N : List Str} (h : En ps (vs.map some) F H T) : En (pad N.length ps) (L2.start N vs) F H T := by
  unfold pad L2.start
  have e : ps.length = vs.length := by have := En.len h; rw [List.length_map] at this; exact this.symm
  rw [e]
  refine En.app ⟨T, Fp.no, Dj.no.symm, Sub.refl _, Sub.no, h, ?_⟩
  generalize N.length - vs.length = k
  induction k with
  | zero => exact trivial
  | succ k ih => exact ih
/-- what the body's end must give back: the slots of the parameters, by the values that they hold -/
inductive Back : List (Option V) → Env → Env → List V → Prop
  | nil {π : List (Option V)} {ρ : Env} : Back π ρ [] []
  | keep {v : V} {π : List (Option V)} {s : Sl} {ρ ps' : Env} {vs : List V} : Back π ρ ps' vs → Back (some v :: π) (some s :: ρ) (some s :: ps') (v :: vs)
  | skip {x : Option V} {π : List (Option V)} {y : Option Sl} {ρ ps' : Env} {v : V} {vs : List V} : Back π ρ ps' vs → Back (x :: π) (y :: ρ) (none :: ps') (v :: vs)
theorem Pin.tail {x : Option V} {y : Option V} {σ : L2.St} (h : Pin (x :: π) (y :: σ)) : Pin π σ := fun i v e => by
  have := h (i + 1) v (by simpa using e)
  simpa using this
theorem Back.en {F H : Hp} : ∀ {π : List (Option V)} {ρ ps' : Env} {vs : List V} {σ : L2.St} {T : Fp}, Back π ρ ps' vs → Pin π σ → En ρ σ F H T → En ps' (vs.map some) F H T
  | _, _, _, _, _, _, .nil, _, _ => trivial
  | _, _, _, _, y :: σ, T, .keep (v := v) (s := s) h, pp, p => by
    have e : y = some v := by simpa using pp 0 v rfl
    subst e
    obtain ⟨T1, T2, d, s1, s2, x, q⟩ := p
    exact ⟨T1, T2, d, s1, s2, x, h.en pp.tail q⟩
  | _, _, _, _, y :: σ, T, .skip (y := .none) h, pp, p => h.en (σ := σ) pp.tail p
  | _, _, _, _, .some z :: σ, T, .skip (y := .some s) h, pp, ⟨T1, T2, d, s1, s2, x, q⟩ => (En.stb _ _).up (h.en (σ := σ) pp.tail q) s2
  | _, _, _, _, .none :: σ, T, .skip (y := .some s) h, pp, p => p.elim
  | _, _, _, _, [], T, .keep _, _, p => p.elim
  | _, _, _, _, [], T, .skip (y := .none) _, _, p => p.elim
  | _, _, _, _, [], T, .skip (y := .some _) _, _, p => p.elim
/-- the wish at the end of a body -/
def Rt (r : Sl) (ps' : Env) (vs : List V) : V → As := fun v => sep (r.p v) (En ps' (vs.map some))
theorem do_ret' {r : Sl} {vs : List V} (h : Ev B te ρ r ρ1) (hb : Back π ρ1 ps' vs) : Do B (tRet te) (A π ρ) ⟨n, Rt r ps' vs, bk, ct⟩ :=
  do_ret h fun v σ pp => sep_mono (Im.refl _) fun F H T q => hb.en pp q
theorem do_retN' {vs : List V} (hb : Back π ρ ps' vs) : Do B tRetN (A π ρ) ⟨n, Rt (dN K) ps' vs, bk, ct⟩ :=
  do_retN fun σ F H T ⟨pp, q⟩ => ⟨Fp.no, T, Dj.no, Sub.no, Sub.refl _, .non, hb.en pp q⟩
/-- the body's end is reached without a return -/
def Fall (ps' : Env) (vs : List V) : L2.St → As := fun _ => En ps' (vs.map some)
theorem fall {vs : List V} (hb : Back π ρ ps' vs) : ∀ σ, Im (A π ρ σ) (Fall ps' vs σ) := fun σ F H T ⟨pp, q⟩ => hb.en pp q
theorem pin_start {vs : List V} {N : List Str} {π : List (Option V)} (h : ∀ (i : Nat) (v : V), π[i]? = some (some v) → vs[i]? = some v) : Pin π (L2.start N vs) := fun i v e => by
  have e2 := h i v e
  have hi := (List.getElem?_eq_some_iff.mp e2).1
  unfold L2.start
  rw [List.getElem?_append_left (by rw [List.length_map]; exact hi), List.getElem?_map, e2]
  rfl
/-- THE BODY: from its triple to what the hand layer asks -/
theorem body {α : Type} {pre : α → Prop} {ps : α → Env} {r : α → Sl} {ps' : α → Env} {N : List Str} {vs : List V} {H : Hp} {Q : VK} {E : XK} (h : SpZ pre ps r ps' vs H Q E)
    (hb : ∀ (x : α), pre x → vs.length = (ps x).length → ∃ π, (∀ (i : Nat) (v : V), π[i]? = some (some v) → vs[i]? = some v) ∧ ∀ B, Do B ts (A π (pad N.length (ps x))) ⟨no, Rt (r x) (ps' x) vs, no, no⟩) :
    ts { nx := fun _ H' => Q .non H', rt := Q } (L2.start N vs) H := by
  obtain ⟨x, F, T, hp, w, p, k⟩ := h
  have hl : vs.length = (ps x).length := by have := En.len p; rw [List.length_map] at this; exact this
  obtain ⟨π, hπ, hd⟩ := hb x hp hl
  exact hd ⟨F, H, T⟩ _ (L2.start N vs) F H T ⟨fun _ _ _ _ _ _ z => z.elim, fun v F' H' T' s' _ q => k v F' H' T' s' q, fun _ _ _ _ _ _ z => z.elim, fun _ _ _ _ _ _ z => z.elim⟩ w.st ⟨pin_start hπ, En.start p⟩
/-- the same for a def whose end is reached without a return -/
theorem bodyN {α : Type} {pre : α → Prop} {ps : α → Env} {ps' : α → Env} {N : List Str} {vs : List V} {H : Hp} {Q : VK} {E : XK} (h : SpZ pre ps (fun _ => dN K) ps' vs H Q E)
    (hb : ∀ (x : α), pre x → vs.length = (ps x).length → ∃ π, (∀ (i : Nat) (v : V), π[i]? = some (some v) → vs[i]? = some v) ∧ ∀ B, Do B ts (A π (pad N.length (ps x))) ⟨Fall (ps' x) vs, Rt (dN K) (ps' x) vs, no, no⟩) :
    ts { nx := fun _ H' => Q .non H', rt := Q } (L2.start N vs) H := by
  obtain ⟨x, F, T, hp, w, p, k⟩ := h
  have hl : vs.length = (ps x).length := by have := En.len p; rw [List.length_map] at this; exact this
  obtain ⟨π, hπ, hd⟩ := hb x hp hl
  exact hd ⟨F, H, T⟩ _ (L2.start N vs) F H T ⟨fun _ F' H' T' s' _ q => k .non F' H' T' s' ⟨Fp.no, T', Dj.no, Sub.no, Sub.refl _, .non, q⟩, fun v F' H' T' s' _ q => k v F' H' T' s' q, fun _ _ _ _ _ _ z => z.elim, fun _ _ _ _ _ _ z => z.elim⟩ w.st ⟨pin_start hπ, En.start p⟩
end
end Z
/-! Z8: the operators as the printed terms have them; defs by names. -/
namespace Z
open PySem L2
/-! ### operators by all their kinds -/
def rAddI : R2 := rI0 fun i j => .int (i + j)
def rAddT : R2 := fun x y H Q => ∃ i j, x = .str i ∧ y = .str j ∧ i.length + j.length ≤ sizeLine ∧ Q (.str (i ++ j)) H
def zAdd : R2 := fun x y H Q => rAddI x y H Q ∨ (rAddT x y H Q ∨ rCat x y H Q)
def zSub : R2 := rI0 fun i j => .int (i - j)
def rMulI : R2 := rI CMul fun i j => .int (i * j)
def zMul : R2 := fun x y H Q => rMulI x y H Q ∨ rRep x y H Q
def zMod : R2 := rI (fun _ j => 0 < j) fun i j => .int (i % j)
def zDiv : R2 := rI CDiv fun i j => .int (i / j)
def zPow : R2 := rI CPow fun i j => .int (i ^ j.toNat)
def zLt : R2 := rI0 fun i j => .bl (decide (i < j))
def zLe : R2 := rI0 fun i j => .bl (decide (i ≤ j))
def zGt : R2 := rI0 fun i j => .bl (decide (j < i))
def zGe : R2 := rI0 fun i j => .bl (decide (j ≤ i))
def zEq (K : PySem.W.Frag) : R2 := fun x y H Q => rEq x y H Q ∨ rEqD K x y H Q
def zNe (K : PySem.W.Frag) : R2 := fun x y H Q => rNe x y H Q ∨ rNeD K x y H Q
def rInT : R2 := fun x y H Q => ∃ i j, x = .str i ∧ y = .str j ∧ Q (.bl (!(Builtin.Str.occurrences j i 0 j.length 1).isEmpty)) H
def rNotInT : R2 := fun x y H Q => ∃ i j, x = .str i ∧ y = .str j ∧ Q (.bl (!(!(Builtin.Str.occurrences j i 0 j.length 1).isEmpty))) H
def zIn (K : PySem.W.Frag) : R2 := fun x y H Q => rIn K false x y H Q ∨ rInT x y H Q
def zNotIn (K : PySem.W.Frag) : R2 := fun x y H Q => rIn K true x y H Q ∨ rNotInT x y H Q
def zIs : R2 := fun x y H Q => y = .non ∧ Q (.bl (decide (x = .non))) H
def zIsNot : R2 := fun x y H Q => y = .non ∧ Q (.bl (!decide (x = .non))) H
def zNeg : V → Hp → VK → Prop := rU fun i => .int (-i)
section
variable {X : Cx}
theorem op_zAdd : OpR X (binaryOp .Add) zAdd := op_add.or (op_add_str.or op_cat)
theorem op_zSub : OpR X (binaryOp .Sub) zSub := op_sub
theorem op_zMul : OpR X (binaryOp .Mult) zMul := op_mul.or op_rep
theorem op_zMod : OpR X (binaryOp .Mod) zMod := op_mod
theorem op_zDiv : OpR X (binaryOp .FloorDiv) zDiv := op_fdiv
theorem op_zPow : OpR X (binaryOp .Pow) zPow := op_pow
theorem op_zLt : OpR X (compareOp .Lt) zLt := op_lt
theorem op_zLe : OpR X (compareOp .LtE) zLe := op_le
theorem op_zGt : OpR X (compareOp .Gt) zGt := op_gt
theorem op_zGe : OpR X (compareOp .GtE) zGe := op_ge
theorem op_zEq (hu : X.A.units + 64 < cLine) : OpR X (compareOp .Eq) (zEq X.K) := op_eq.or (op_eqD hu)
theorem op_zNe (hu : X.A.units + 64 < cLine) : OpR X (compareOp .NotEq) (zNe X.K) := op_ne.or (op_neD hu)
theorem op_zIn : OpR X (compareOp .In) (zIn X.K) := op_in_seq.or op_in_str
theorem op_zNotIn : OpR X (compareOp .NotIn) (zNotIn X.K) := op_notIn_seq.or L2.op_notIn_str
theorem op_zIs : OpR X (compareOp .Is) zIs := op_isN
theorem op_zIsNot : OpR X (compareOp .IsNot) zIsNot := op_notN
theorem un_zNeg : UnR X (unaryOp .USub) zNeg := un_neg
end
section
variable {K : PySem.W.Frag} {s s1 s2 s3 : Sl} {i j : Int} {b c : Bool} {d e : PyData} {ds es : List PyData}
theorem rr_addI : RR zAdd (dI K i) (dI K j) (dI K (i + j)) := RR.or1 rr_I0i
theorem rr_addT {x y : Str} (h : x.length + y.length ≤ sizeLine) : RR zAdd (dS K x) (dS K y) (dS K (x ++ y)) := RR.or2 (RR.or1 (RR.pure fun F H v1 v2 ⟨_, h1⟩ ⟨_, h2⟩ => by
  cases h1; cases h2
  exact ⟨.str (x ++ y), fun _ => .str _, fun Q q => ⟨x, y, rfl, rfl, h, q⟩⟩))
theorem rr_addL (h1 : Lst K s1 ds) (h2 : Lst K s2 es) (h : ds.length + es.length ≤ sizeLine) : RR zAdd s1 s2 (lst K (ds ++ es)) := RR.or2 (RR.or2 (rr_cat h1 h2 h))
theorem rr_subI : RR zSub (dI K i) (dI K j) (dI K (i - j)) := rr_I0i
theorem rr_mulI (h : CMul i j) : RR zMul (dI K i) (dI K j) (dI K (i * j)) := RR.or1 (rr_Ii h)
theorem rr_modI (h : 0 < j) : RR zMod (dI K i) (dI K j) (dI K (i % j)) := rr_Ii h
theorem rr_divI (h : CDiv i j) : RR zDiv (dI K i) (dI K j) (dI K (i / j)) := rr_Ii h
theorem rr_powI (h : CPow i j) : RR zPow (dI K i) (dI K j) (dI K (i ^ j.toNat)) := rr_Ii h
theorem rr_lt : RR zLt (dI K i) (dI K j) (dB K (decide (i < j))) := rr_I0b
theorem rr_le : RR zLe (dI K i) (dI K j) (dB K (decide (i ≤ j))) := rr_I0b
theorem rr_gt : RR zGt (dI K i) (dI K j) (dB K (decide (j < i))) := rr_I0b
theorem rr_ge : RR zGe (dI K i) (dI K j) (dB K (decide (j ≤ i))) := rr_I0b
theorem rr_eqI' : RR (zEq K) (dI K i) (dI K j) (dB K (decide (i = j))) := RR.or1 rr_eqI
theorem rr_neI' : RR (zNe K) (dI K i) (dI K j) (dB K (!decide (i = j))) := RR.or1 rr_neI
theorem rr_eqS' {x y : Str} : RR (zEq K) (dS K x) (dS K y) (dB K (decide (x = y))) := RR.or1 rr_eqS
theorem rr_neS' {x y : Str} : RR (zNe K) (dS K x) (dS K y) (dB K (!decide (x = y))) := RR.or1 rr_neS
theorem rr_eqB' : RR (zEq K) (dB K b) (dB K c) (dB K (b == c)) := RR.or1 rr_eqB
theorem rr_neB' : RR (zNe K) (dB K b) (dB K c) (dB K (!(b == c))) := RR.or1 rr_neB
theorem rr_eqD' (hd : SeqAt.shaped d = true) (he : SeqAt.shaped e = true) : RR (zEq K) (dat K d) (dat K e) (dB K (PyData.eqv d e)) := RR.or2 (rr_eqD hd he)
theorem rr_neD' (hd : SeqAt.shaped d = true) (he : SeqAt.shaped e = true) : RR (zNe K) (dat K d) (dat K e) (dB K (!PyData.eqv d e)) := RR.or2 (rr_neD hd he)
theorem ru_neg : RU zNeg (dI K i) (dI K (-i)) := ru_i
def isNone : PyData → Bool
  | .none => true
  | _ => false
theorem non_iff {F : Hp} {v : V} (h : Dq K F v d) : decide (v = .non) = isNone d := by cases h <;> rfl
theorem rr_is : RR zIs (dat K d) (dN K) (dB K (isNone d)) := RR.pure fun F H v1 v2 ⟨_, h1⟩ ⟨_, h2⟩ => by
  cases h2
  exact ⟨.bl (decide (v1 = .non)), fun _ => by rw [non_iff h1]; exact .bl _, fun Q q => ⟨rfl, q⟩⟩
theorem rr_isnot : RR zIsNot (dat K d) (dN K) (dB K (!isNone d)) := RR.pure fun F H v1 v2 ⟨_, h1⟩ ⟨_, h2⟩ => by
  cases h2
  exact ⟨.bl (!decide (v1 = .non)), fun _ => by rw [non_iff h1]; exact .bl _, fun Q q => ⟨rfl, q⟩⟩
theorem rr_isL : RR zIs (lst K ds) (dN K) (dB K false) := RR.pure fun F H v1 v2 ⟨_, ⟨a, vs, e, _⟩⟩ ⟨_, h2⟩ => by
  cases h2
  subst e
  exact ⟨.bl false, fun _ => .bl _, fun Q q => ⟨rfl, q⟩⟩
/-- x in a list or tuple of ints -/
def flatD : PyData → Bool
  | .int _ => true
  | .str _ => true
  | _ => false
theorem eqV_int (n i : Int) : eqV (.int n) (.int i) = decide (n = i) := by
  unfold eqV
  exact Bool.beq_eq_decide_eq n i
theorem inV_ints' : ∀ (ns : List Int), (ns.map V.int).all flatV = true ∧ inV (.int i) (ns.map V.int) = decide (i ∈ ns)
  | [] => ⟨rfl, rfl⟩
  | n :: ns => by
    obtain ⟨h1, h2⟩ := inV_ints' ns
    refine ⟨?_, ?_⟩
    · show (flatV (V.int n) && (ns.map V.int).all flatV) = true
      rw [h1]
      rfl
    · show (eqV (V.int n) (V.int i) || inV (V.int i) (ns.map V.int)) = decide (i ∈ n :: ns)
      rw [h2, eqV_int, Bool.eq_iff_iff]
      have e : (n = i) ↔ (i = n) := eq_comm
      simp only [Bool.or_eq_true, decide_eq_true_eq, List.mem_cons, e]
theorem inV_ints {F : Hp} {vs : List V} {ns : List Int} (h : DqAll K F vs (ns.map PyData.int)) : vs.all flatV = true ∧ inV (.int i) vs = decide (i ∈ ns) := by
  rw [h.ints_inv]
  exact inV_ints' ns
theorem rr_inI {ns : List Int} (h : Seq K s (ns.map PyData.int)) : RR (zIn K) (dI K i) s (dB K (decide (i ∈ ns))) := RR.or1 fun B v1 v2 F H T R st dj ⟨T1, T2, _, _, _, p1, p2⟩ k hk => by
  obtain ⟨p, ys, e, hs, q⟩ := h v2 F H T2 st.ex p2
  obtain ⟨h1, h2⟩ := inV_ints (i := i) q
  cases p1
  exact ⟨p, ys, e, hs, rfl, h1, hk _ F H T st dj (fun _ _ => rfl) (Ex.refl _) (by
    have e3 : (if false = true then !inV (V.int i) ys else inV (V.int i) ys) = decide (i ∈ ns) := h2
    rw [e3]; exact .bl _)⟩
theorem rr_notInI {ns : List Int} (h : Seq K s (ns.map PyData.int)) : RR (zNotIn K) (dI K i) s (dB K (!decide (i ∈ ns))) := RR.or1 fun B v1 v2 F H T R st dj ⟨T1, T2, _, _, _, p1, p2⟩ k hk => by
  obtain ⟨p, ys, e, hs, q⟩ := h v2 F H T2 st.ex p2
  obtain ⟨h1, h2⟩ := inV_ints (i := i) q
  cases p1
  exact ⟨p, ys, e, hs, rfl, h1, hk _ F H T st dj (fun _ _ => rfl) (Ex.refl _) (by
    have e3 : (if true = true then !inV (V.int i) ys else inV (V.int i) ys) = !decide (i ∈ ns) := by rw [h2]; rfl
    rw [e3]; exact .bl _)⟩
end
/-- int(x) of an int or a bool -/
def rIntZ : List V → Hp → VK → Prop := fun xs H Q => (∃ i, xs = [.int i] ∧ Q (.int i) H) ∨ ∃ k, xs = [.bl k] ∧ Q (.int (if k then 1 else 0)) H
theorem call_intZ {X : Cx} : CallR X (.type "int") rIntZ := call_int1
section
variable {B : Base} {te ta tb tl : TE} {ρ ρ1 ρ2 ρ' : Env} {s s1 : Sl} {K : PySem.W.Frag} {i : Int} {b : Bool}
theorem ev_int1 (h : Ev B te ρ (dI K i) ρ') : Ev B (tCB rIntZ (tCons te tNil)) ρ (dI K i) ρ' := fun σ F H T R st dj p k hk =>
  h σ F H T R st dj p _ fun v F1 H1 T1 s1 d1 k1 e1 ⟨U1, U2, du, u1, u2, x, y⟩ => by
    cases x
    exact .inl ⟨i, rfl, hk _ F1 H1 T1 s1 d1 k1 e1 ⟨Fp.no, T1, Dj.no, Sub.no, Sub.refl _, .int _, (En.stb _ _).up y u2⟩⟩
theorem ev_int1b (h : Ev B te ρ (dB K b) ρ') : Ev B (tCB rIntZ (tCons te tNil)) ρ (dI K (if b then 1 else 0)) ρ' := fun σ F H T R st dj p k hk =>
  h σ F H T R st dj p _ fun v F1 H1 T1 s1 d1 k1 e1 ⟨U1, U2, du, u1, u2, x, y⟩ => by
    cases x
    exact .inr ⟨b, rfl, hk _ F1 H1 T1 s1 d1 k1 e1 ⟨Fp.no, T1, Dj.no, Sub.no, Sub.refl _, .int _, (En.stb _ _).up y u2⟩⟩
/-- any(..), all(..) of a list of bools -/
theorem ev_any {bs : List Bool} (h : Ev B te ρ s ρ') (hs : SeqL K s (bs.map PyData.bool)) : Ev B (tCB (rAny K) (tCons te tNil)) ρ (dB K (bs.any id)) ρ' := fun σ F H T R st dj p k hk =>
  h σ F H T R st dj p _ fun v F1 H1 T1 s1 d1 k1 e1 ⟨U1, U2, du, u1, u2, x, y⟩ => by
    obtain ⟨a, ys, e, hq, q⟩ := hs v F1 H1 U1 s1.ex x
    have e2 : ys = bs.map V.bl := q.bools_inv
    subst e e2
    exact ⟨a, bs, rfl, hq, hk _ F1 H1 T1 s1 d1 k1 e1 ⟨Fp.no, T1, Dj.no, Sub.no, Sub.refl _, .bl _, (En.stb _ _).up y u2⟩⟩
end
/-! ### defs by names -/
structure Has (P : Program) (w : World) (K : PySem.W.Frag) (mg : PySem.Str → Option Value) (base : Heap) (CX : CXT) (k : Nat) (x : PySem.Str) (ps : List PySem.Str) (sp : Sp) : Prop where
  fn : ∃ fd, FnOk P w K mg base CX k (He.ga K x) fd ps sp ∧ Binds K fd ps []
  gl : mg x = some (.ref (He.ga K x))
  kp : PySem.W.keepIn K (.ref (He.ga K x)) = true
section
variable {X : Cx} {k : Nat} {ps : List PySem.Str} {sp : Sp} {x : PySem.Str} {p pos : Pos} {e : Expr} {es : List Expr} {t : TA} {E : XK}
theorem pe_callZ (h : Has X.prog X.w X.K X.mg X.base CX0 k x ps sp) (hr : Room k X.A) (hg : Gl X x) (ha : PA X (e :: es) t) (hdb : (x == ("__debug__" : PySem.Str)) = false := by decide)
    (he : starEach (e :: es) X.env = (false, eval e X.env) :: starEach es X.env := by rfl) (hpl : (backTo pos (starEach es X.env)).any (·.1) = false := by rfl) : PE X (.Call (.Name x p) (e :: es) [] pos) (tCall sp [] E0 t) := by
  obtain ⟨fd, G, b⟩ := h.fn
  exact pe_call G hr hg h.gl h.kp b .nil pass0 ha hdb he hpl
theorem pe_callZ0 (h : Has X.prog X.w X.K X.mg X.base CX0 k x ps sp) (hr : Room k X.A) (hg : Gl X x) (hdb : (x == ("__debug__" : PySem.Str)) = false := by decide) : PE X (.Call (.Name x p) [] [] pos) (tCall sp [] E0 tNil) := by
  obtain ⟨fd, G, b⟩ := h.fn
  exact pe_call0 G hr hg h.gl h.kp b .nil pass0 hdb
/-- a def that may raise, where it does not -/
theorem pe_callZL (h : Has X.prog X.w X.K X.mg X.base (L2.CX X.prog X.w) k x ps sp) (hr : Room k X.A) (hg : Gl X x) (ha : PA X (e :: es) t) (hdb : (x == ("__debug__" : PySem.Str)) = false := by decide)
    (he : starEach (e :: es) X.env = (false, eval e X.env) :: starEach es X.env := by rfl) (hpl : (backTo pos (starEach es X.env)).any (·.1) = false := by rfl) : PE X (.Call (.Name x p) (e :: es) [] pos) (tCall sp [] E0 t) := by
  obtain ⟨fd, G, b⟩ := h.fn
  exact pe_call G hr hg h.gl h.kp b .nil passL ha hdb he hpl
theorem pe_gi {i : Int} (h : ∃ t, X.mg x = some (.int i t)) (hg : Gl X x) (hd : (x == ("__debug__" : PySem.Str)) = false := by decide) : PE X (.Name x pos) (tC (.int i)) := by
  obtain ⟨t, h⟩ := h
  exact pe_glob hg h ⟨t, rfl⟩ hd
end
end Z
/-! Z9: typed forms of the rules. -/
namespace Z
open PySem L2
section
variable {B : Base} {te ta tb tl : TE} {ρ ρ1 ρ2 ρ' ρr ps ps' : Env} {s s1 s2 s3 s0 : Sl} {K : PySem.W.Frag} {d e : PyData} {ds es : List PyData} {i j : Int} {b c : Bool} {t tr : TA} {as : List Arg} {ns ms : List Int}
theorem len_dL : Len K (dL K ns) ns.length := by have h := len_list (K := K) (ds := ns.map PyData.int); rwa [List.length_map] at h
theorem len_oL : Len K (oL K ns) ns.length := by have h := len_lst (K := K) (ds := ns.map PyData.int); rwa [List.length_map] at h
theorem ev_len' {n : Nat} (h : Ev B ta ρ s ρ') (hl : Len K s n) : Ev B (tCB (rLenZ K) (tCons ta tNil)) ρ (dI K (n : Int)) ρ' := ev_len h hl
theorem ixN_nat {n : Nat} {i : Int} (h0 : 0 ≤ i) (h1 : i < n) : ixN n i = some i.toNat := by
  unfold ixN
  rw [if_pos h0, if_pos h1]
theorem atI_nat' {α : Type} {xs : List α} {i : Int} {x : α} (h0 : 0 ≤ i) (h : xs[i.toNat]? = some x) : atI xs i = some x := by
  have hl := (List.getElem?_eq_some_iff.mp h).1
  unfold atI
  rw [ixN_nat h0 (by omega)]
  exact h
theorem atI_neg {α : Type} {xs : List α} {i : Int} {x : α} (h0 : i < 0) (h1 : -(xs.length : Int) ≤ i) (h : xs[(i + xs.length).toNat]? = some x) : atI xs i = some x := by
  unfold atI ixN
  rw [if_neg (by omega), if_pos h1]
  exact h
/-- the int at a place -/
def at0 (ns : List Int) (i : Int) : Int := (ns[i.toNat]?).getD 0
theorem at0_get {i : Int} (h0 : 0 ≤ i) (h1 : i < ns.length) : ns[i.toNat]? = some (at0 ns i) := by
  have h : i.toNat < ns.length := by omega
  unfold at0
  rw [List.getElem?_eq_getElem h]
  rfl
theorem atI_ints (h0 : 0 ≤ i) (h1 : i < ns.length) : atI (ns.map PyData.int) i = some (.int (at0 ns i)) := by
  refine atI_nat' h0 ?_
  rw [List.getElem?_map, at0_get h0 h1]
  rfl
/-- slices of ints -/
def cutI {α : Type} (ns : List α) (lo hi : Option Int) : List α := (ns.drop (HT.sIx ns.length 0 lo)).take (HT.sIx ns.length ns.length hi - HT.sIx ns.length 0 lo)
theorem cutD_map {α : Type} {xs : List α} {f : α → PyData} {lo hi : Option Int} : cutD (xs.map f) lo hi = (cutI xs lo hi).map f := by
  unfold cutD cutI
  rw [List.length_map, ← List.map_drop, ← List.map_take]
theorem ev_slLi {tl th : TO} {lo hi : Option Int} (h : Ev B te ρ (dL K ns) ρ1) (hl : Eo B tl ρ1 lo ρ2) (hh : Eo B th ρ2 hi ρ') : Ev B (tSl (rSlL K) te tl th) ρ (oL K (cutI ns lo hi)) ρ' :=
  (ev_slL h hl hh seqL_list).is (by rw [cutD_map])
theorem ev_slLo {tl th : TO} {lo hi : Option Int} (h : Ev B te ρ (oL K ns) ρ1) (hl : Eo B tl ρ1 lo ρ2) (hh : Eo B th ρ2 hi ρ') : Ev B (tSl (rSlL K) te tl th) ρ (oL K (cutI ns lo hi)) ρ' :=
  (ev_slL h hl hh seqL_lst).is (by rw [cutD_map])
theorem ev_slOi {tl th : TO} {lo hi : Option Int} {m : Nat} (h0 : ρ[m]? = some (some (oL K ns))) (hl : Eo B tl ρ lo ρ) (hh : Eo B th ρ hi ρ) : Ev B (tSl (rSlL K) (tVar m) tl th) ρ (oL K (cutI ns lo hi)) ρ :=
  (ev_slO h0 hl hh).is (by rw [cutD_map])
theorem rr_addLi (h : ns.length + ms.length ≤ sizeLine) : RR zAdd (oL K ns) (oL K ms) (oL K (ns ++ ms)) := by
  have := rr_addL (K := K) (lst_lst (K := K) (ds := ns.map PyData.int)) (lst_lst (K := K) (ds := ms.map PyData.int)) (by simpa using h)
  rwa [← List.map_append] at this
theorem rr_addLdo (h : ns.length + ms.length ≤ sizeLine) : RR zAdd (dL K ns) (oL K ms) (oL K (ns ++ ms)) := by
  have := rr_addL (K := K) (lst_list (K := K) (ds := ns.map PyData.int)) (lst_lst (K := K) (ds := ms.map PyData.int)) (by simpa using h)
  rwa [← List.map_append] at this
theorem rr_addLod (h : ns.length + ms.length ≤ sizeLine) : RR zAdd (oL K ns) (dL K ms) (oL K (ns ++ ms)) := by
  have := rr_addL (K := K) (lst_lst (K := K) (ds := ns.map PyData.int)) (lst_list (K := K) (ds := ms.map PyData.int)) (by simpa using h)
  rwa [← List.map_append] at this
theorem rr_addLdd (h : ns.length + ms.length ≤ sizeLine) : RR zAdd (dL K ns) (dL K ms) (oL K (ns ++ ms)) := by
  have := rr_addL (K := K) (lst_list (K := K) (ds := ns.map PyData.int)) (lst_list (K := K) (ds := ms.map PyData.int)) (by simpa using h)
  rwa [← List.map_append] at this
/-- a written list of ints -/
theorem ed_ints_nil : Ed K B tNil ρ (([] : List Int).map PyData.int) ρ := ed_nil
theorem ed_ints_cons (h : Ev B te ρ (dI K i) ρ1) (hr : Ed K B t ρ1 (ns.map PyData.int) ρ2) : Ed K B (tCons te t) ρ ((i :: ns).map PyData.int) ρ2 := ed_cons h hr
theorem ev_lstI (h : Ed K B t ρ (ns.map PyData.int) ρ') (hl : ns.length ≤ sizeLine) : Ev B (tLst t) ρ (oL K ns) ρ' := ev_lst h (by rwa [List.length_map])
theorem small (n : Nat) (h : Nat.ble n 16777216 = true) : n ≤ sizeLine := by rw [sizeLine_eq]; exact Nat.le_of_ble_eq_true h
theorem lt_line {n : Nat} (h : n ≤ 1000000) : n < sizeLine := by rw [sizeLine_eq]; omega
theorem le_line {n : Nat} (h : n ≤ 1000000) : n ≤ sizeLine := by rw [sizeLine_eq]; omega
/-- append of an int to a list of ints -/
theorem ev_appendI {k : Nat} {ks : List Int} (h0 : ρ[k]? = some (some (oL K ks))) (h : Ev B te ρ (dI K i) ρ1) (h1 : ρ1[k]? = some (some (oL K ns))) (hz : ns.length < sizeLine) : Ev B (tBM K "list" rAppend (tVar k) (tCons te tNil)) ρ (dN K) (ρ1.set k (some (oL K (ns ++ [i])))) := by
  have := ev_append (d := .int i) h0 h h1 (by rwa [List.length_map])
  rw [show ns.map PyData.int ++ [PyData.int i] = (ns ++ [i]).map PyData.int from by rw [List.map_append]; rfl] at this
  exact this
theorem ev_extendI {k : Nat} {ks : List Int} (h0 : ρ[k]? = some (some (oL K ks))) (h : Ev B te ρ (oL K ms) ρ1) (h1 : ρ1[k]? = some (some (oL K ns))) (hz : ns.length + ms.length ≤ sizeLine) : Ev B (tBM K "list" rExtend (tVar k) (tCons te tNil)) ρ (dN K) (ρ1.set k (some (oL K (ns ++ ms)))) := by
  have := ev_extend h0 h lst_lst h1 (by rwa [List.length_map, List.length_map])
  rw [← List.map_append] at this
  exact this
theorem ev_popI {k : Nat} (h0 : ρ[k]? = some (some (oL K (ns ++ [i])))) : Ev B (tBM0 K "list" rPop (tVar k)) ρ (dI K i) (ρ.set k (some (oL K ns))) :=
  ev_pop (ds := ns.map PyData.int) (d := .int i) (by rw [h0]; show some (some (lst K ((ns ++ [i]).map PyData.int))) = _; rw [List.map_append]; rfl)
theorem ev_reverseI {k : Nat} (h0 : ρ[k]? = some (some (oL K ns))) : Ev B (tBM0 K "list" rReverse (tVar k)) ρ (dN K) (ρ.set k (some (oL K ns.reverse))) := by
  have := ev_reverse (B := B) h0
  rw [← List.map_reverse] at this
  exact this
theorem tru_dL : Tru K (dL K ns) (!ns.isEmpty) := by have h := tru_list (K := K) (ds := ns.map PyData.int); rwa [List.isEmpty_map] at h
theorem tru_oL : Tru K (oL K ns) (!ns.isEmpty) := by have h := tru_lst (K := K) (ds := ns.map PyData.int); rwa [List.isEmpty_map] at h
mutual
def noB : PyData → Bool
  | .bool _ => false
  | .dict _ => false
  | .list xs => noBs xs
  | .tuple xs => noBs xs
  | _ => true
def noBs : List PyData → Bool
  | [] => true
  | x :: xs => noB x && noBs xs
end
mutual
theorem eqv_iff : ∀ (d e : PyData), noB d = true → noB e = true → (PyData.eqv d e = true ↔ d = e)
  | .none, e, _, h => by cases e <;> simp [PyData.eqv] 
  | .bool _, e, h, _ => by simp [noB] at h
  | .int i, e, _, h => by cases e <;> simp_all [PyData.eqv, noB]
  | .str i, e, _, h => by cases e <;> simp_all [PyData.eqv, noB]
  | .dict _, e, h, _ => by simp [noB] at h
  | .list xs, e, h, h' => by
    cases e with
    | list ys => rw [show PyData.eqv (.list xs) (.list ys) = PyData.eqvAll xs ys from by simp [PyData.eqv], eqvs_iff xs ys (by simpa [noB] using h) (by simpa [noB] using h')]; simp
    | _ => simp_all [PyData.eqv, noB]
  | .tuple xs, e, h, h' => by
    cases e with
    | tuple ys => rw [show PyData.eqv (.tuple xs) (.tuple ys) = PyData.eqvAll xs ys from by simp [PyData.eqv], eqvs_iff xs ys (by simpa [noB] using h) (by simpa [noB] using h')]; simp
    | _ => simp_all [PyData.eqv, noB]
theorem eqvs_iff : ∀ (xs ys : List PyData), noBs xs = true → noBs ys = true → (PyData.eqvAll xs ys = true ↔ xs = ys)
  | [], [], _, _ => by simp [PyData.eqvAll]
  | [], _ :: _, _, _ => by simp [PyData.eqvAll]
  | _ :: _, [], _, _ => by simp [PyData.eqvAll]
  | x :: xs, y :: ys, h, h' => by
    simp only [noBs, Bool.and_eq_true] at h h'
    rw [show PyData.eqvAll (x :: xs) (y :: ys) = (PyData.eqv x y && PyData.eqvAll xs ys) from by simp [PyData.eqvAll], Bool.and_eq_true, eqv_iff x y h.1 h'.1, eqvs_iff xs ys h.2 h'.2]
    simp
end
theorem noBs_ints : ∀ ns : List Int, noBs (ns.map PyData.int) = true
  | [] => rfl
  | n :: ns => by simp [noBs, noB, noBs_ints ns]
theorem lays_ints : ∀ ns : List Int, PyData.canLayAll0 (ns.map PyData.int) = true
  | [] => by simp [PyData.canLayAll0]
  | n :: ns => by simp [PyData.canLayAll0, PyData.canLay0, lays_ints ns]
theorem depths_ints : ∀ ns : List Int, PyData.depthAll (ns.map PyData.int) = 0
  | [] => by simp [PyData.depthAll]
  | n :: ns => by simp [PyData.depthAll, PyData.depth, depths_ints ns]
theorem shaped_ints {ns : List Int} : SeqAt.shaped (.list (ns.map PyData.int)) = true := by
  unfold SeqAt.shaped
  simp [PyData.canLay0, lays_ints, PyData.depth, depths_ints]
theorem eqv_ints : PyData.eqv (.list (ns.map PyData.int)) (.list (ms.map PyData.int)) = decide (ns = ms) := by
  rw [Bool.eq_iff_iff, eqv_iff _ _ (by simp [noB, noBs_ints]) (by simp [noB, noBs_ints]), decide_eq_true_eq]
  constructor
  · intro h
    injection h with h
    exact (List.map_inj_right (fun a b e => by injection e)).mp h
  · intro h; rw [h]
theorem rr_eqL : RR (zEq K) (dL K ns) (dL K ms) (dB K (decide (ns = ms))) := by
  have h := rr_eqD' (K := K) (d := .list (ns.map PyData.int)) (e := .list (ms.map PyData.int)) shaped_ints shaped_ints
  rwa [eqv_ints] at h
theorem rr_neL : RR (zNe K) (dL K ns) (dL K ms) (dB K (!decide (ns = ms))) := by
  have h := rr_neD' (K := K) (d := .list (ns.map PyData.int)) (e := .list (ms.map PyData.int)) shaped_ints shaped_ints
  rwa [eqv_ints] at h
end
end Z
/-! Z10: forms for use by tactics. -/
namespace Z
open PySem L2
section
variable {B : Base} {te ta tb tl : TE} {ρ ρ1 ρ2 ρ' ρr ps ps' : Env} {s s1 s2 s3 s0 r : Sl} {K : PySem.W.Frag} {d e : PyData} {ds es : List PyData} {i j : Int} {b c : Bool} {t tr : TA} {as : List Arg} {ns ms : List Int}
variable {π : List (Option V)} {ts tu tw : TS} {P M n n' bk ct : L2.St → As} {rt : V → As} {q : Po} {vs : List V}
theorem do_set1 {k : Nat} (h : Ev B te ρ s ρ1) (hi : k < ρ1.length) (hf : free π k = true) : Do B (tAsg te (gName k)) (A π ρ) ⟨A π (ρ1.set k (some s)), rt, bk, ct⟩ := do_set h hi hf
/-- an if that does not come to its end where its test holds -/
theorem do_guard {tt : TT} (ht : Et B tt ρ b ρ1) (h1 : b = true → Do B tu (A π ρ1) ⟨no, rt, bk, ct⟩) (h2 : b = false → Do B tw (A π ρ1) ⟨n, rt, bk, ct⟩) : Do B (tSeq (tIfS tt tu tNext) tw) (A π ρ) ⟨n, rt, bk, ct⟩ := fun D σ F H T e st ⟨pp, p⟩ =>
  ht.go st p fun F' H' T' s' y x => by
    cases b with
    | true => exact iteT (h1 rfl _ σ F' H' T' ⟨fun _ _ _ _ _ _ m => m.elim, (e.on y).rt, (e.on y).bk, (e.on y).ct⟩ s' ⟨pp, x⟩)
    | false => exact iteF (h2 rfl D σ F' H' T' (e.on y) s' ⟨pp, x⟩)
/-- an if, and what follows it, way by way -/
theorem do_split {tt : TT} {tx : TS} (ht : Et B tt ρ b ρ1) (h1 : b = true → Do B (tSeq tu tw) (A π ρ1) q) (h2 : b = false → Do B (tSeq tx tw) (A π ρ1) q) : Do B (tSeq (tIfS tt tu tx) tw) (A π ρ) q := fun D σ F H T e st ⟨pp, p⟩ =>
  ht.go st p fun F' H' T' s' y x => by
    cases b with
    | true => exact iteT (h1 rfl D σ F' H' T' (e.on y) s' ⟨pp, x⟩)
    | false => exact iteF (h2 rfl D σ F' H' T' (e.on y) s' ⟨pp, x⟩)
theorem do_nextSeq (h : Do B tw P q) : Do B (tSeq tNext tw) P q := h
theorem do_ret1 (h : Ev B te ρ s ρ1) (e : s = r) (hb : Back π ρ1 ps' vs) : Do B (tRet te) (A π ρ) ⟨n, Rt r ps' vs, bk, ct⟩ := by
  subst e
  exact do_ret' h hb
theorem Do.no (h : Do B ts P ⟨Z.no, rt, bk, ct⟩) : Do B ts P ⟨n, rt, bk, ct⟩ := h.post fun σ F H T x => x.elim
/-- [f d for d in ..], nothing is changed meanwhile -/
theorem ev_lcm {wi : TI} {k : Nat} {te : TE} (f : Nat → PyData) (h : Iw K B wi ρ ds ρ1) (hk : k < ρ1.length) (hs : ∀ (i : Nat) d, ds[i]? = some d → Ev B te (ρ1.set k (some (dat K d))) (dat K (f i)) (ρ1.set k (some (dat K d)))) (hz : ds.length ≤ sizeLine) :
    Ev B (tLc wi (gName k) tYes te [k]) ρ (lst K ((List.range ds.length).map f)) (ρ1.set k none) := by
  have hb : Blind (ρ1.set k none) [k] := fun v hv => by
    rw [List.mem_singleton.mp hv, List.getElem?_set_self hk]
  have hle : EnLe ρ1 (ρ1.set k none) := by
    clear h hs hb
    induction ρ1 generalizing k with
    | nil => exact .nil
    | cons x r ih =>
      cases k with
      | zero => exact .less (EnLe.refl _)
      | succ k => exact .same (ih (by simpa using hk))
  have hle2 : ∀ d, EnLe (ρ1.set k (some (dat K d))) (ρ1.set k none) := fun d => by
    clear h hs hb hle
    induction ρ1 generalizing k with
    | nil => exact .nil
    | cons x r ih =>
      cases k with
      | zero => exact .less (EnLe.refl _)
      | succ k => exact .same (ih (by simpa using hk))
  refine ev_lc (fun _ => ρ1.set k none) (fun i => (List.range i).map f) h hle rfl (fun _ _ => hb) (fun i d hd => ⟨⟨_, tgc_name (List.mem_singleton.mpr rfl) (by rw [List.length_set]; exact hk), true, _, et_yes, fun _ => ⟨f i, _, ?_, hle2 d, ?_⟩, fun e => by cases e⟩⟩) hz
  · rw [List.set_set]
    exact hs i d hd
  · rw [List.range_succ, List.map_append]
    rfl
theorem RgC.up {a b c : Int} {n : Nat} (hc : 1 ≤ c) (hc' : c < 1000000000) (ha : -1000000000000 < a) (ha' : a < 1000000000000) (hb : -1000000000000 < b) (hb' : b < 1000000000000) (hn : (n : Int) = if a < b then (b - a - 1) / c + 1 else 0) : RgC a b c n := by
  have e : Builtin.Range.rangeSize a b c = if a < b then (b - a - 1) / c + 1 else 0 := by
    unfold Builtin.Range.rangeSize
    rw [if_pos (by omega)]
  refine ⟨by omega, by omega, ?_, by rw [e, hn]⟩
  unfold Builtin.Range.small
  rw [e]
  have hq : 0 ≤ (b - a - 1) / c ∨ ¬ a < b := by
    by_cases h : a < b
    · exact .inl (Int.ediv_nonneg (by omega) (by omega))
    · exact .inr h
  have hq2 : a < b → (b - a - 1) / c ≤ b - a - 1 := fun h => Int.ediv_le_self _ (by omega)
  simp only [Builtin.Range.rangeFitsLong, Bool.and_eq_true, Bool.or_eq_true, decide_eq_true_eq, beq_iff_eq, show c > 0 by omega, if_true]
  clear hn e
  generalize (b - a - 1) / c = q at *
  by_cases h : a < b
  · have h1 := hq2 h
    have h2 : 0 ≤ q := hq.resolve_right fun z => z h
    simp only [if_pos h]
    omega
  · simp only [if_neg h]
    omega
/-- a loop, what holds behind it told -/
theorem do_forE {wi : TI} {g : TG} (ρs : Nat → Env) (ρg : Nat → PyData → Env) (h : Iw K B wi ρ ds ρ1) (h0 : EnLe ρ1 (ρs 0)) (hg : ∀ (i : Nat) d, ds[i]? = some d → Tgt K π g d (ρs i) (ρg i d))
    (hb : ∀ (i : Nat) d, ds[i]? = some d → Do B ts (A π (ρg i d)) ⟨A π (ρs (i + 1)), rt, A π (ρs ds.length), A π (ρs (i + 1))⟩) : Do B (tFor wi g ts) (A π ρ) ⟨A π (ρs ds.length), rt, bk, ct⟩ :=
  do_forA ρs ρg h h0 hg hb fun _ => Im.refl _
end
end Z
/-! Z11: calls with data; comparisons of lists; facts carried beside the environment. -/
namespace Z
open PySem L2
section
variable {B : Base} {te ta tb tl : TE} {ρ ρ1 ρ2 ρ' ρr ps ps' : Env} {s s1 s2 s3 s0 r : Sl} {K : PySem.W.Frag} {d e : PyData} {ds es : List PyData} {i j : Int} {b c : Bool} {t tr : TA} {as : List Arg} {ns ms : List Int}
variable {π : List (Option V)} {ts tu tw : TS} {P P' M n n' bk ct : L2.St → As} {rt : V → As} {q : Po} {vs : List V}
theorem ar_dat {F H : Hp} {T : Fp} {σ : L2.St} : ∀ {ds : List PyData} {vs : List V}, DqAll K F vs ds → Ar σ (ds.map fun d => .sl (dat K d)) vs F H T
  | [], _, h => by cases h; trivial
  | d :: ds, _, h => by cases h with | cons q qa => exact ⟨Fp.no, T, Dj.no, Sub.no, Sub.refl _, q, ar_dat qa⟩
theorem ea_of_ed : ∀ {ds : List PyData} {t : TA}, Ed K B t ρ ds ρ1 → Ea B t ρ (ds.map fun d => .sl (dat K d)) ρ1 := fun {ds t} h σ F H T R st dj p k hk =>
  h σ F H T R st dj p k fun vs F1 H1 T1 s1 d1 k1 e1 ⟨U1, U2, du, u1, u2, x, y⟩ => hk vs F1 H1 T1 s1 d1 k1 e1 ⟨U1, U2, du, u1, u2, ar_dat x, y⟩
theorem gath_dat : ∀ (ds : List PyData) (ρ : Env), gath (ds.map fun d => .sl (dat K d)) ρ = (ds.map fun d => some (dat K d), ρ)
  | [], ρ => by simp [gath]
  | d :: ds, ρ => by simp [gath, gath_dat ds ρ]
theorem scat_dat : ∀ (ds : List PyData) (ps ρ : Env), scat (ds.map fun d => .sl (dat K d)) ps ρ = ρ
  | [], ps, ρ => by simp [scat]
  | d :: ds, [], ρ => by simp [scat]
  | d :: ds, p :: ps, ρ => by
    have := scat_dat ds ps ρ
    simp [scat, this]
/-- a call, all of its arguments data -/
theorem ev_cd {sp : Sp} {E : XK} (ha : Ed K B t ρ ds ρ1) (e : ds.map (fun d => some (dat K d)) = ps) (hc : Ct sp ps s ps') : Ev B (tCall sp [] E t) ρ s ρ1 := by
  have := ev_call (E := E) (ea_of_ed ha) (ps := ps) (ps' := ps') (s := s) (sp := sp) hc (by rw [gath_dat, e])
  rwa [scat_dat] at this
/-- a call, some of its arguments lent -/
theorem ev_cb {sp : Sp} {E : XK} (ha : Ea B t ρ as ρ1) (e1 : gath as ρ1 = (ps, ρr)) (hc : Ct sp ps s ps') (e2 : scat as ps' ρr = ρ') : Ev B (tCall sp [] E t) ρ s ρ' := by
  rw [← e2]
  exact ev_call ha hc e1
/-! ### lists compared -/
def Vw (K : PySem.W.Frag) (s : Sl) (d : PyData) : Prop := ∀ v F H T, Ex F H → s.p v F H T → Dp K H v d
theorem vw_dat : Vw K (dat K d) d := fun v F H T e p => (Dq.ext e p).dp
theorem vw_lst : Vw K (lst K ds) (.list ds) := fun v F H T e ⟨a, vs, ev, _, ha, q⟩ => by
  subst ev
  exact .lst (SqL.of ha) (DqAll.ext e q).dp
theorem rr_eqV (h1 : Vw K s1 d) (h2 : Vw K s2 e) (hd : SeqAt.shaped d = true) (he : SeqAt.shaped e = true) : RR (zEq K) s1 s2 (dB K (PyData.eqv d e)) := RR.or2 fun B v1 v2 F H T R st dj ⟨T1, T2, _, _, _, p1, p2⟩ k hk =>
  ⟨d, e, h1 _ _ _ _ st.ex p1, h2 _ _ _ _ st.ex p2, hd, he, hk _ F H T st dj (fun _ _ => rfl) (Ex.refl _) (.bl _)⟩
theorem rr_neV (h1 : Vw K s1 d) (h2 : Vw K s2 e) (hd : SeqAt.shaped d = true) (he : SeqAt.shaped e = true) : RR (zNe K) s1 s2 (dB K (!PyData.eqv d e)) := RR.or2 fun B v1 v2 F H T R st dj ⟨T1, T2, _, _, _, p1, p2⟩ k hk =>
  ⟨d, e, h1 _ _ _ _ st.ex p1, h2 _ _ _ _ st.ex p2, hd, he, hk _ F H T st dj (fun _ _ => rfl) (Ex.refl _) (.bl _)⟩
/-- lists of ints -/
def VwI (K : PySem.W.Frag) (s : Sl) (ns : List Int) : Prop := Vw K s (.list (ns.map PyData.int))
theorem vwi_d : VwI K (dL K ns) ns := vw_dat
theorem vwi_o : VwI K (oL K ns) ns := vw_lst
theorem rr_eqLL (h1 : VwI K s1 ns) (h2 : VwI K s2 ms) : RR (zEq K) s1 s2 (dB K (decide (ns = ms))) := by
  have h := rr_eqV h1 h2 shaped_ints shaped_ints
  rwa [eqv_ints] at h
theorem rr_neLL (h1 : VwI K s1 ns) (h2 : VwI K s2 ms) : RR (zNe K) s1 s2 (dB K (!decide (ns = ms))) := by
  have h := rr_neV h1 h2 shaped_ints shaped_ints
  rwa [eqv_ints] at h
/-! ### walked -/
theorem iw_listD (h : Ev B tl ρ (dat K (.list ds)) ρ1) : Iw K B (iList K tl) ρ ds ρ1 := iw_list h wlk_list
theorem iw_listO (h : Ev B tl ρ (lst K ds) ρ1) : Iw K B (iList K tl) ρ ds ρ1 := iw_list (ev_fz h) wlk_list
/-! ### facts beside the environment -/
def AP (p : Prop) (π : List (Option V)) (ρ : Env) : L2.St → As := fun σ F H T => p ∧ A π ρ σ F H T
theorem AP.stb {p : Prop} {σ : L2.St} : Stb (AP p π ρ σ) := ⟨fun h s => ⟨h.1, A.stb.up h.2 s⟩, fun h e k => ⟨h.1, A.stb.st h.2 e k⟩⟩
theorem do_fact {p : Prop} (h : p → Do B ts (A π ρ) q) : Do B ts (AP p π ρ) q := fun D σ F H T e st ⟨hp, x⟩ => h hp D σ F H T e st x
theorem im_ap {σ : L2.St} {p : Prop} (hp : p) (l : EnLe ρ ρ') : Im (A π ρ σ) (AP p π ρ' σ) := fun F H T h => ⟨hp, h.1, En.le l h.2⟩
theorem Do.ap {p : Prop} (h : Do B ts P ⟨A π ρ, rt, bk, ct⟩) (hp : p) (l : EnLe ρ ρ') : Do B ts P ⟨AP p π ρ', rt, bk, ct⟩ := h.post fun σ => im_ap hp l
theorem do_nextP {p : Prop} (hp : p) (l : EnLe ρ ρ') : Do B tNext (A π ρ) ⟨AP p π ρ', rt, bk, ct⟩ := do_next fun σ => im_ap hp l
theorem do_nextA (l : EnLe ρ ρ') : Do B tNext (A π ρ) ⟨A π ρ', rt, bk, ct⟩ := do_next fun σ => Im.A l
theorem do_brkP {p : Prop} (hp : p) (l : EnLe ρ ρ') : Do B tBreak (A π ρ) ⟨n, rt, AP p π ρ', ct⟩ := do_brk fun σ => im_ap hp l
theorem do_brkA (l : EnLe ρ ρ') : Do B tBreak (A π ρ) ⟨n, rt, A π ρ', ct⟩ := do_brk fun σ => Im.A l
theorem do_contP {p : Prop} (hp : p) (l : EnLe ρ ρ') : Do B tCont (A π ρ) ⟨n, rt, bk, AP p π ρ'⟩ := do_cont fun σ => im_ap hp l
theorem do_contA (l : EnLe ρ ρ') : Do B tCont (A π ρ) ⟨n, rt, bk, A π ρ'⟩ := do_cont fun σ => Im.A l
/-- the end of a statement: what is known is more than what is asked -/
theorem Do.to (h : Do B ts P ⟨A π ρ, rt, bk, ct⟩) (l : EnLe ρ ρ') : Do B ts P ⟨A π ρ', rt, bk, ct⟩ := h.post fun σ => Im.A l
/-- for: a fact of the turns that are done -/
theorem do_forP {wi : TI} {g : TG} (pf : Nat → Prop) (ρs : Nat → Env) (ρg : Nat → PyData → Env) (h : Iw K B wi ρ ds ρ1) (p0 : pf 0) (h0 : EnLe ρ1 (ρs 0)) (hg : ∀ (i : Nat) d, ds[i]? = some d → Tgt K π g d (ρs i) (ρg i d))
    (hb : ∀ (i : Nat) d, ds[i]? = some d → pf i → Do B ts (A π (ρg i d)) ⟨AP (pf (i + 1)) π (ρs (i + 1)), rt, AP (pf ds.length) π (ρs ds.length), AP (pf (i + 1)) π (ρs (i + 1))⟩) : Do B (tFor wi g ts) (A π ρ) ⟨AP (pf ds.length) π (ρs ds.length), rt, bk, ct⟩ :=
  do_for (fun i => AP (pf i) π (ρs i)) (fun i d => AP (pf i) π (ρg i d)) (fun _ _ => AP.stb) h (fun σ => im_ap p0 h0) (fun i d hd v σ F H T e q ⟨hp, x⟩ Q hQ => hg i d hd v σ F H T e q x Q fun σ' x' => hQ σ' ⟨hp, x'⟩) (fun i d hd => do_fact (hb i d hd)) fun _ => Im.refl _
/-- the same, broken off or not: what holds behind it is told by itself -/
theorem do_forB {wi : TI} {g : TG} {p' : Prop} (pf : Nat → Prop) (ρs : Nat → Env) (ρg : Nat → PyData → Env) (h : Iw K B wi ρ ds ρ1) (p0 : pf 0) (h0 : EnLe ρ1 (ρs 0)) (hg : ∀ (i : Nat) d, ds[i]? = some d → Tgt K π g d (ρs i) (ρg i d))
    (hb : ∀ (i : Nat) d, ds[i]? = some d → pf i → Do B ts (A π (ρg i d)) ⟨AP (pf (i + 1)) π (ρs (i + 1)), rt, AP p' π ρ', AP (pf (i + 1)) π (ρs (i + 1))⟩) (hn : pf ds.length → p') (hl : EnLe (ρs ds.length) ρ') : Do B (tFor wi g ts) (A π ρ) ⟨AP p' π ρ', rt, bk, ct⟩ :=
  do_for (fun i => AP (pf i) π (ρs i)) (fun i d => AP (pf i) π (ρg i d)) (fun _ _ => AP.stb) h (fun σ => im_ap p0 h0) (fun i d hd v σ F H T e q ⟨hp, x⟩ Q hQ => hg i d hd v σ F H T e q x Q fun σ' x' => hQ σ' ⟨hp, x'⟩) (fun i d hd => do_fact (hb i d hd)) fun _ F H T ⟨hp, x⟩ => ⟨hn hp, Im.A hl F H T x⟩
/-- an owned list that a variable holds becomes data where it stands -/
theorem do_frz {k : Nat} (h : ρ[k]? = some (some (lst K ds))) (hd : Do B ts (A π (ρ.set k (some (dat K (.list ds))))) q) : Do B ts (A π ρ) q := fun D σ F H T e st ⟨pp, p⟩ => by
  obtain ⟨v, ev, T1, T2, dj, u1, u2, ⟨a, vs, ea, ta, ha, qa⟩, y⟩ := En.split h p
  subst ea
  have na : ¬ T2 a := fun z => dj a ta z
  have s2 : St B F H (T2.un fun b => b = a) := st.less (u2.un fun x hx => by subst hx; exact u1 _ ta)
  obtain ⟨s3, ee⟩ := s2.freeze na ha
  have y' := (En.stb _ _).st y ee fun _ _ => rfl
  have z := En.put (s := dat K (.list ds)) (n := k) ev ⟨Fp.no, T2, Dj.no, Sub.no, Sub.refl _, .lst upd_same (DqAll.ext ee qa), y'⟩
  rw [List.set_set] at z
  exact hd D σ _ H T2 (e.on ee) s3 ⟨pp, z⟩
theorem do_frzI {k : Nat} (h : ρ[k]? = some (some (oL K ns))) (hd : Do B ts (A π (ρ.set k (some (dL K ns)))) q) : Do B ts (A π ρ) q := do_frz h hd
/-- owned lists are told differently -/
theorem eo_int (h : Ev B te ρ (dI K i) ρ1) : Ev B te ρ (dI K i) ρ1 := h
/-- [e] * n -/
theorem cutI_none {α : Type} {ns : List α} : cutI ns none none = ns := by
  unfold cutI
  simp [HT.sIx]
theorem cutI_to {α : Type} {ns : List α} {j : Int} (h : 0 ≤ j) : cutI ns none (some j) = ns.take j.toNat := by
  obtain ⟨m, rfl⟩ := Int.eq_ofNat_of_zero_le h
  unfold cutI
  rw [HT.sIx_nat]
  simp only [HT.sIx, List.drop_zero, Nat.sub_zero, Int.toNat_natCast]
  apply List.ext_getElem?
  intro k
  simp only [List.getElem?_take]
  split <;> split <;> first | rfl | (rw [List.getElem?_eq_none (by omega)]) | (symm; rw [List.getElem?_eq_none (by omega)]) | omega
theorem cutI_from {α : Type} {ns : List α} {j : Int} (h : 0 ≤ j) : cutI ns (some j) none = ns.drop j.toNat := by
  obtain ⟨m, rfl⟩ := Int.eq_ofNat_of_zero_le h
  unfold cutI
  rw [HT.sIx_nat]
  simp only [HT.sIx, Int.toNat_natCast]
  apply List.ext_getElem?
  intro k
  simp only [List.getElem?_take, List.getElem?_drop]
  split
  · congr 1
    omega
  · rw [List.getElem?_eq_none (by omega)]
theorem cutI_at {α : Type} {ns : List α} {i j : Int} (h : 0 ≤ i) (h' : 0 ≤ j) : cutI ns (some i) (some j) = (ns.drop i.toNat).take (j.toNat - i.toNat) := by
  obtain ⟨m, rfl⟩ := Int.eq_ofNat_of_zero_le h
  obtain ⟨k, rfl⟩ := Int.eq_ofNat_of_zero_le h'
  unfold cutI
  rw [HT.sIx_nat, HT.sIx_nat]
  simp only [Int.toNat_natCast]
  apply List.ext_getElem?
  intro l
  simp only [List.getElem?_take, List.getElem?_drop]
  split
  · split
    · congr 1
      omega
    · rw [List.getElem?_eq_none (by omega)]
  · split
    · rw [List.getElem?_eq_none (by omega)]
    · rfl
theorem do_aug1 {k : Nat} {f : Int → Int → Int} {x y : Int} (h : Ev B te ρ (dI K y) ρ1) (h0 : ρ[k]? = some (some (dI K x))) (hi : k < ρ1.length) (hf : free π k = true) : Do B (tAug k te (ipI f)) (A π ρ) ⟨A π (ρ1.set k (some (dI K (f x y)))), rt, bk, ct⟩ := do_aug h h0 hi hf
theorem findSome_first {α : Type} {f : Nat → Option α} {n i : Nat} {x : α} (hi : i < n) (h : ∀ j, j < i → f j = none) (hx : f i = some x) : (List.range n).findSome? f = some x := by
  induction n with
  | zero => omega
  | succ n ih =>
    rw [List.range_succ, List.findSome?_append]
    by_cases hn : i < n
    · rw [ih hn]; rfl
    · have e : i = n := by omega
      subst e
      rw [List.findSome?_eq_none_iff.mpr fun j hj => h j (List.mem_range.mp hj)]
      simp [hx]
theorem findSome_none {α : Type} {f : Nat → Option α} {n : Nat} (h : ∀ j, j < n → f j = none) : (List.range n).findSome? f = none := List.findSome?_eq_none_iff.mpr fun j hj => h j (List.mem_range.mp hj)
end
end Z
/-! Z12: calls with data, the slots written out. -/
namespace Z
open PySem L2
section
variable {B : Base} {te ta tb tl : TE} {ρ ρ1 ρ2 ρ' ρr ps ps' : Env} {s s1 s2 s3 s0 r : Sl} {K : PySem.W.Frag} {d e : PyData} {ds es : List PyData} {t : TA}
def Eds (K : PySem.W.Frag) (B : Base) (t : TA) (ρ : Env) (ps : Env) (ρ' : Env) : Prop := ∃ ds, ds.map (fun d => some (dat K d)) = ps ∧ Ed K B t ρ ds ρ'
theorem eds_nil : Eds K B tNil ρ [] ρ := ⟨[], rfl, ed_nil⟩
theorem eds_cons (h : Ev B te ρ (dat K d) ρ1) (hr : Eds K B t ρ1 ps ρ2) : Eds K B (tCons te t) ρ (some (dat K d) :: ps) ρ2 := by
  obtain ⟨ds, e, h2⟩ := hr
  exact ⟨d :: ds, by rw [← e]; rfl, ed_cons h h2⟩
theorem ev_ce {sp : Sp} {E : XK} (ha : Eds K B t ρ ps ρ1) (hc : Ct sp ps s ps') : Ev B (tCall sp [] E t) ρ s ρ1 := by
  obtain ⟨ds, e, h2⟩ := ha
  exact ev_cd h2 e hc
end
end Z
/-! Z13: errors: raised, let through, caught; isinstance. -/
namespace Z
open PySem L2
/-- an error: its class, and the fields of its own dict, if it has one -/
structure Err where
  cls : Value
  fs : Option (List (Str × PyData))
def ErrAt (K : PySem.W.Frag) (e : Err) (d : Option Addr) (F : Hp) : Prop := match e.fs with
  | none => d = none
  | some fs => ∃ a l, d = some a ∧ F a = some (.xd l) ∧ l.map (·.1) = fs.map (·.1) ∧ DqAll K F (l.map (·.2)) (fs.map (·.2))
section
variable {B : Base} {te ta tb tl : TE} {ρ ρ1 ρ2 ρ' ρr ps ps' : Env} {s s1 s2 s3 s0 r : Sl} {K : PySem.W.Frag} {d : PyData} {ds es : List PyData} {i j : Int} {b c : Bool} {t tr : TA} {as : List Arg} {ns ms : List Int}
variable {π : List (Option V)} {ts tu tw : TS} {P P' M n n' bk ct bk' ct' : L2.St → As} {rt : V → As} {q : Po} {vs : List V} {e : Err} {E : XK}
theorem ErrAt.ext {d : Option Addr} {F F' : Hp} (x : Ex F F') (h : ErrAt K e d F) : ErrAt K e d F' := by
  unfold ErrAt at *
  split at h
  · exact h
  · obtain ⟨a, l, h1, h2, h3, h4⟩ := h
    exact ⟨a, l, h1, x _ _ h2, h3, DqAll.ext x h4⟩
/-- the form of a promise of a def that may raise -/
def SpX (K : PySem.W.Frag) {α : Type} (pre : α → Prop) (ps : α → Env) (bad : α → Option Err) (r : α → Sl) (ps' : α → Env) : Sp := fun vs H Q E => ∃ x F T, pre x ∧ WF F H T ∧ En (ps x) (vs.map some) F H T ∧
  (bad x = none → ∀ v F' H' T', St ⟨F, H, T⟩ F' H' T' → sep ((r x).p v) (En (ps' x) (vs.map some)) F' H' T' → Q v H') ∧
  (∀ e, bad x = some e → ∀ d F' H' T', St ⟨F, H, T⟩ F' H' T' → ErrAt K e d F' → En (ps' x) (vs.map some) F' H' T' → E e.cls d H')
theorem SpX.ctO {α : Type} {pre : α → Prop} {ps : α → Env} {bad : α → Option Err} {r : α → Sl} {ps' : α → Env} (x : α) (hp : pre x) (hb : bad x = none) : Ct (SpX K pre ps bad r ps') (ps x) (r x) (ps' x) :=
  fun E vs F H T w p Q hQ => ⟨x, F, T, hp, w, p, fun _ => hQ, fun e h => (by rw [hb] at h; cases h)⟩
/-- sp raises e from the slots ps -/
def CtX (K : PySem.W.Frag) (sp : Sp) (ps : Env) (e : Err) (ps' : Env) : Prop := ∀ (E : XK) (vs : List V) F H T, WF F H T → En ps (vs.map some) F H T → ∀ Q : VK, (∀ d F' H' T', St ⟨F, H, T⟩ F' H' T' → ErrAt K e d F' → En ps' (vs.map some) F' H' T' → E e.cls d H') → sp vs H Q E
theorem SpX.cx {α : Type} {pre : α → Prop} {ps : α → Env} {bad : α → Option Err} {r : α → Sl} {ps' : α → Env} (x : α) (hp : pre x) (hb : bad x = some e) : CtX K (SpX K pre ps bad r ps') (ps x) e (ps' x) :=
  fun E vs F H T w p Q hE => ⟨x, F, T, hp, w, p, fun h => (by rw [hb] at h; cases h), fun e' h => (by rw [hb] at h; cases h; exact hE)⟩
theorem SpX.len {α : Type} {pre : α → Prop} {ps : α → Env} {bad : α → Option Err} {r : α → Sl} {ps' : α → Env} {n : Nat} (hn : ∀ x, (ps x).length = n) {vs : List V} {H : Hp} {Q : VK} {E : XK} (h : SpX K pre ps bad r ps' vs H Q E) : vs.length = n := by
  obtain ⟨x, F, T, _, _, p, _⟩ := h
  have := En.len p
  rw [List.length_map, hn] at this
  exact this
/-- the way out by an error is accepted -/
def Ex1 (K : PySem.W.Frag) (B : Base) (E : XK) (b : Option Err) (ps' : Env) (vs : List V) : Prop := ∀ e, b = some e → ∀ d F H T, St B F H T → ErrAt K e d F → En ps' (vs.map some) F H T → E e.cls d H
def RtX (b : Option Err) (r : Sl) (ps' : Env) (vs : List V) : V → As := fun v F H T => b = none ∧ Rt r ps' vs v F H T
theorem bodyX {α : Type} {pre : α → Prop} {ps : α → Env} {bad : α → Option Err} {r : α → Sl} {ps' : α → Env} {N : List Str} {vs : List V} {H : Hp} {Q : VK} {E : XK} (h : SpX K pre ps bad r ps' vs H Q E)
    (hb : ∀ (x : α), pre x → vs.length = (ps x).length → ∃ π, (∀ (i : Nat) (v : V), π[i]? = some (some v) → vs[i]? = some v) ∧ ∀ B, Ex1 K B E (bad x) (ps' x) vs → Do B ts (A π (pad N.length (ps x))) ⟨no, RtX (bad x) (r x) (ps' x) vs, no, no⟩) :
    ts { nx := fun _ H' => Q .non H', rt := Q } (L2.start N vs) H := by
  obtain ⟨x, F, T, hp, w, p, k, k2⟩ := h
  have hl : vs.length = (ps x).length := by have := En.len p; rw [List.length_map] at this; exact this
  obtain ⟨π, hπ, hd⟩ := hb x hp hl
  exact hd ⟨F, H, T⟩ k2 _ (L2.start N vs) F H T ⟨fun _ _ _ _ _ _ z => z.elim, fun v F' H' T' s' _ q => k q.1 v F' H' T' s' q.2, fun _ _ _ _ _ _ z => z.elim, fun _ _ _ _ _ _ z => z.elim⟩ w.st ⟨pin_start hπ, En.start p⟩
/-- the same for a def whose end is reached without a return -/
def FallX (b : Option Err) (ps' : Env) (vs : List V) : L2.St → As := fun _ F H T => b = none ∧ En ps' (vs.map some) F H T
theorem bodyXN {α : Type} {pre : α → Prop} {ps : α → Env} {bad : α → Option Err} {ps' : α → Env} {N : List Str} {vs : List V} {H : Hp} {Q : VK} {E : XK} (h : SpX K pre ps bad (fun _ => dN K) ps' vs H Q E)
    (hb : ∀ (x : α), pre x → vs.length = (ps x).length → ∃ π, (∀ (i : Nat) (v : V), π[i]? = some (some v) → vs[i]? = some v) ∧ ∀ B, Ex1 K B E (bad x) (ps' x) vs → Do B ts (A π (pad N.length (ps x))) ⟨FallX (bad x) (ps' x) vs, RtX (bad x) (dN K) (ps' x) vs, no, no⟩) :
    ts { nx := fun _ H' => Q .non H', rt := Q } (L2.start N vs) H := by
  obtain ⟨x, F, T, hp, w, p, k, k2⟩ := h
  have hl : vs.length = (ps x).length := by have := En.len p; rw [List.length_map] at this; exact this
  obtain ⟨π, hπ, hd⟩ := hb x hp hl
  exact hd ⟨F, H, T⟩ k2 _ (L2.start N vs) F H T ⟨fun _ F' H' T' s' _ q => k q.1 .non F' H' T' s' ⟨Fp.no, T', Dj.no, Sub.no, Sub.refl _, .non, q.2⟩, fun v F' H' T' s' _ q => k q.1 v F' H' T' s' q.2, fun _ _ _ _ _ _ z => z.elim, fun _ _ _ _ _ _ z => z.elim⟩ w.st ⟨pin_start hπ, En.start p⟩
theorem do_retX {x : Option Err} (h : Ev B te ρ s ρ1) (ho : x = none) (e : s = r) (hb : Back π ρ1 ps' vs) : Do B (tRet te) (A π ρ) ⟨n, RtX x r ps' vs, bk, ct⟩ := by
  subst e
  exact do_ret h fun v σ pp => fun F H T q => ⟨ho, sep_mono (Im.refl _) (fun F H T q => hb.en pp q) F H T q⟩
/-! ### raise -/
def WO (E : XK) : WX := fun cls d _ H => E cls d H
/-- raise X('m'): the class at c -/
def tRaiseO (c : Value) (W : WX) : TS := fun _ σ H => W c none σ H
theorem do_raiseO {x : Option Err} {c : Value} (hE : Ex1 K B E x ps' vs) (hx : x = some ⟨c, none⟩) (hb : Back π ρ ps' vs) : Do B (tRaiseO c (WO E)) (A π ρ) q := fun D σ F H T e st ⟨pp, p⟩ =>
  hE _ hx none F H T st rfl (hb.en pp p)
/-! ### calls of defs that may raise -/
theorem ev_ceS {sp : Sp} {E : L2.St → XK} (ha : Eds K B t ρ ps ρ1) (hc : Ct sp ps s ps') : Ev B (tCallS sp E t) ρ s ρ1 := fun σ => by
  have h := ev_ce (E := E σ) ha hc σ
  have e : tCall sp [] (E σ) t σ = tCallS sp E t σ := by
    funext H Q
    unfold tCall tCallS
    simp only [List.append_nil]
  rw [← e]
  exact h
theorem ev_cbS {sp : Sp} {E : L2.St → XK} (ha : Ea B t ρ as ρ1) (e1 : gath as ρ1 = (ps, ρr)) (hc : Ct sp ps s ps') (e2 : scat as ps' ρr = ρ') : Ev B (tCallS sp E t) ρ s ρ' := fun σ => by
  have h := ev_cb (E := E σ) ha e1 hc e2 σ
  have e : tCall sp [] (E σ) t σ = tCallS sp E t σ := by
    funext H Q
    unfold tCall tCallS
    simp only [List.append_nil]
  rw [← e]
  exact h
/-- te surely ends by an error (that what stands behind it accepts) -/
def Rz (B : Base) (te : TE) (P : L2.St → As) : Prop := ∀ σ F H T, St B F H T → P σ F H T → ∀ Q : VK, te σ H Q
/-- the errors that W accepts -/
def Hit (K : PySem.W.Frag) (B : Base) (W : WX) (e : Err) (P : L2.St → As) : Prop := ∀ σ d F H T, St B F H T → ErrAt K e d F → P σ F H T → W e.cls d σ H
theorem en_dat {F H : Hp} {T : Fp} : ∀ {ds : List PyData} {vs : List V}, DqAll K F vs ds → En (ds.map fun d => some (dat K d)) (vs.map some) F H T
  | [], _, h => by cases h; trivial
  | d :: ds, _, h => by cases h with | cons q qa => exact ⟨Fp.no, T, Dj.no, Sub.no, Sub.refl _, q, en_dat qa⟩
theorem rz_call {sp : Sp} {W : WX} (ha : Eds K B t ρ ps ρ1) (hc : CtX K sp ps e ps') (hW : Hit K B W e (A π ρ1)) : Rz B (tCallS sp (WE W) t) (A π ρ) := fun σ F H T st ⟨pp, p⟩ Q => by
  obtain ⟨ds, ee, h2⟩ := ha
  subst ee
  refine h2 σ F H T Fp.no (st.less ((Sub.refl _).un Sub.no)) Dj.no.symm p _ fun vs F1 H1 T1 s1 d1 k1 e1 ⟨U1, U2, du, u1, u2, x, y⟩ => ?_
  have s1' := s1.less Sub.l
  have hs : St B F1 H1 (U1.un U2) := s1'.less (u1.un u2)
  refine hc (WE W σ) vs F1 H1 U1 (s1'.less u1).wf (en_dat x) Q fun d F' H' T' st' he _ => ?_
  obtain ⟨s3, d3, k3, e3⟩ := hs.call du st'
  have y' := (En.stb ρ1 σ).st y e3 fun b hb => k3 b hb
  exact hW σ d F' H' _ s3 he ⟨pp, (En.stb _ _).up y' Sub.r⟩
theorem do_ret_rz (h : Rz B te P) : Do B (tRet te) P q := fun D σ F H T e st p => h σ F H T st p _
theorem do_drop_rz (h : Rz B te P) : Do B (tDrop te) P q := fun D σ F H T e st p => h σ F H T st p _
theorem do_asg_rz {g : TG} (h : Rz B te P) : Do B (tAsg te g) P q := fun D σ F H T e st p => h σ F H T st p _
theorem do_seq_rz (h : Do B ts P ⟨no, rt, bk, ct⟩) : Do B (tSeq ts tu) P ⟨n, rt, bk, ct⟩ := fun D σ F H T e st p =>
  h _ σ F H T ⟨fun _ _ _ _ _ _ z => z.elim, e.rt, e.bk, e.ct⟩ st p
/-- W := WO E: the error goes on to the caller -/
theorem hit_out {x : Option Err} (hE : Ex1 K B E x ps' vs) (hx : x = some e) (hb : Back π ρ ps' vs) : Hit K B (WO E) e (A π ρ) := fun σ d F H T st he ⟨pp, p⟩ => hE _ hx d F H T st he (hb.en pp p)
/-! ### try .. except c as .. -/
def tTryAs (K : PySem.W.Frag) (c : Value) (i : Nat) (ts : Addr → Value → Option Addr → TS) (Wout : WX) (tb : WX → TS) : TS := fun D σ H => tb (wAs K c i ts Wout D) D σ H
def tTryOnly (K : PySem.W.Frag) (c : Value) (ts : Addr → Value → Option Addr → TS) (Wout : WX) (tb : WX → TS) : TS := fun D σ H => tb (wOnly K c ts Wout D) D σ H
section
variable {k : Nat} {cv : Value} {hs : Addr → Value → Option Addr → TS} {Wout : WX} {tb : WX → TS}
theorem do_try_ok (h : ∀ W, Do B (tb W) P q) : Do B (tTryAs K cv k hs Wout tb) P q := fun D σ F H T e st p => h _ D σ F H T e st p
theorem do_try_ok0 (h : ∀ W, Do B (tb W) P q) : Do B (tTryOnly K cv hs Wout tb) P q := fun D σ F H T e st p => h _ D σ F H T e st p
theorem En.gone : ∀ {ρ : Env} {σ : L2.St} {k : Nat} {F H : Hp} {T : Fp}, En ρ σ F H T → En (ρ.set k none) (σ.set k none) F H T
  | [], [], _, _, _, _, h => h
  | [], _ :: _, _, _, _, _, h => h.elim
  | .none :: ρ, [], _, _, _, _, h => h.elim
  | .some s :: ρ, [], _, _, _, _, h => h.elim
  | .none :: ρ, x :: σ, 0, _, _, _, h => h
  | .none :: ρ, x :: σ, k + 1, _, _, _, h => En.gone (ρ := ρ) (σ := σ) (k := k) h
  | .some s :: ρ, .none :: σ, _, _, _, _, h => h.elim
  | .some s :: ρ, .some v :: σ, 0, _, _, _, ⟨T1, T2, d, s1, s2, x, y⟩ => (En.stb ρ σ).up y s2
  | .some s :: ρ, .some v :: σ, k + 1, _, _, _, ⟨T1, T2, d, s1, s2, x, y⟩ => ⟨T1, T2, d, s1, s2, x, En.gone (ρ := ρ) (σ := σ) (k := k) y⟩
theorem goneA {σ : L2.St} (hf : free π k = true) : Im (A π ρ σ) (A π (ρ.set k none) (σ.set k none)) := fun F H T ⟨pp, p⟩ => ⟨pp.set hf, En.gone p⟩
/-- in a suite: what is known of the error, and the environment -/
def EA (K : PySem.W.Frag) (e : Err) (d : Option Addr) (π : List (Option V)) (ρ : Env) : L2.St → As := fun σ F H T => ErrAt K e d F ∧ A π ρ σ F H T
theorem do_try_hit {n1 b1 c1 : L2.St → As} (hb : ∀ B' W, Hit K B' W e (A π ρ1) → Do B' (tb W) (A π ρ) ⟨no, fun _ _ _ _ => False, no, no⟩) (hm : PySem.W.exmOne K e.cls cv = some true) (hk : k < ρ1.length) (hf : free π k = true)
    (hs' : ∀ a d, Do B (hs a e.cls d) (EA K e d π (ρ1.set k (some (val (.ref a))))) ⟨n1, rt, b1, c1⟩) (hn : ∀ σ, Im (n1 σ) (n (σ.set k none))) (hb1 : ∀ σ, Im (b1 σ) (bk (σ.set k none))) (hc1 : ∀ σ, Im (c1 σ) (ct (σ.set k none))) :
    Do B (tTryAs K cv k hs Wout tb) (A π ρ) ⟨n, rt, bk, ct⟩ := fun D σ F H T e0 st p => by
  have no2 : ∀ {X : Prop}, False → X := fun z => z.elim
  refine hb ⟨F, H, T⟩ (wAs K cv k hs Wout D) (fun σ1 d F1 H1 T1 s1 he ⟨pp1, p1⟩ => ⟨true, hm, fun _ a na => ?_, fun z => nomatch z⟩) D σ F H T ⟨fun _ _ _ _ _ _ z => z.elim, fun _ _ _ _ _ _ z => z.elim, fun _ _ _ _ _ _ z => z.elim, fun _ _ _ _ _ _ z => z.elim⟩ st.wf.st p
  obtain ⟨s2, _, _, ex⟩ := (st.less (T' := T.un Fp.no) ((Sub.refl _).un Sub.no)).call Dj.no.symm s1
  have e1 := e0.on ex
  exact hs' a d _ _ F1 H1 T1 ⟨fun σ' F' H' T' s' x m => e1.nx _ F' H' T' s' x (hn σ' F' H' T' m), e1.rt, fun σ' F' H' T' s' x m => e1.bk _ F' H' T' s' x (hb1 σ' F' H' T' m), fun σ' F' H' T' s' x m => e1.ct _ F' H' T' s' x (hc1 σ' F' H' T' m)⟩ (s2.less Sub.l)
    ⟨he, pp1.set hf, En.store hk ⟨Fp.no, T1, Dj.no, Sub.no, Sub.refl _, rfl, p1⟩⟩
theorem do_try_hit0 (hb : ∀ B' W, Hit K B' W e (A π ρ1) → Do B' (tb W) (A π ρ) ⟨no, fun _ _ _ _ => False, no, no⟩) (hm : PySem.W.exmOne K e.cls cv = some true)
    (hs' : ∀ a d, Do B (hs a e.cls d) (EA K e d π ρ1) ⟨n, rt, bk, ct⟩) :
    Do B (tTryOnly K cv hs Wout tb) (A π ρ) ⟨n, rt, bk, ct⟩ := fun D σ F H T e0 st p => by
  refine hb ⟨F, H, T⟩ (wOnly K cv hs Wout D) (fun σ1 d F1 H1 T1 s1 he ⟨pp1, p1⟩ => ⟨true, hm, fun _ a na => ?_, fun z => nomatch z⟩) D σ F H T ⟨fun _ _ _ _ _ _ z => z.elim, fun _ _ _ _ _ _ z => z.elim, fun _ _ _ _ _ _ z => z.elim, fun _ _ _ _ _ _ z => z.elim⟩ st.wf.st p
  obtain ⟨s2, _, _, ex⟩ := (st.less (T' := T.un Fp.no) ((Sub.refl _).un Sub.no)).call Dj.no.symm s1
  exact hs' a d _ _ F1 H1 T1 (e0.on ex) (s2.less Sub.l) ⟨he, pp1, p1⟩
end
/-! ### isinstance -/
/-- isinstance(e, C), e the error that a suite holds at a: its class must say what ExcC wants -/
def rIsX (K : PySem.W.Frag) (a : Addr) (cls : Value) (d : Option Addr) : List V → Hp → VK → Prop := fun xs H Q => ∃ D, cls = .ref D ∧ d = none ∧ ExcC K D ∧ rIsE K D a xs H Q
theorem call_isX {X : Cx} {a : Addr} {cls : Value} {d : Option Addr} {oe : Obj} {pn : List (Addr × Obj)} (hz : Zc cls d oe) (hf : ∃ vs, oe.data = .fields vs) : CallR (X.suite a ((a, oe) :: pn)) (.builtin "isinstance") (rIsX X.K a cls d) := by
  intro pins s σ H xs us Q I r ⟨D, e1, e2, C, h⟩
  subst e1 e2
  exact call_isE C hz hf pins s σ H xs us Q I r h
theorem ev_isX {k : Nat} {a D C : Addr} {b : Bool} (h : ρ[k]? = some (some (val (.ref a)))) (hc : ExcC K D) (hb : PySem.W.kitOne K (.ref D) (.ref C) = some b) : Ev B (tCB (rIsX K a (.ref D) none) (tCons (tVar k) (tCons (tC (.ref C)) tNil))) ρ (dB K b) ρ := fun σ F H T R st dj p kk hk => by
  obtain ⟨v, ev, _, _, _, _, _, x, _⟩ := En.split h p
  cases x
  refine ⟨_, ev, ⟨D, rfl, rfl, hc, .ref C, .ref C, b, rfl, fun u r => r, hb, hk (.bl b) F H T st dj (fun _ _ => rfl) (Ex.refl _) ⟨Fp.no, T, Dj.no, Sub.no, Sub.refl _, .bl b, p⟩⟩⟩
/-- isinstance(x, t), t a built-in type: by x's own type -/
def Ty (K : PySem.W.Frag) (s : Sl) (t : String) : Prop := ∀ v F H T, Ex F H → s.p v F H T → TyX K H v (.type t)
theorem ty_int : Ty K (dI K i) "int" := fun v F H T e p => by cases p; exact .base (.int _)
theorem ty_bl : Ty K (dB K b) "bool" := fun v F H T e p => by cases p; exact .base (.bl _)
theorem ty_str {x : Str} : Ty K (dS K x) "str" := fun v F H T e p => by cases p; exact .base (.str _)
theorem ty_non : Ty K (dN K) "NoneType" := fun v F H T e p => by cases p; exact .base .non
theorem ty_list : Ty K (dat K (.list ds)) "list" := fun v F H T e p => by cases p with | lst q a => exact .base (.lst (e _ _ q))
theorem ty_lst : Ty K (lst K ds) "list" := fun v F H T e ⟨a, vs, ev, _, ha, q⟩ => by subst ev; exact .base (.lst ha)
def rIsZ (K : PySem.W.Frag) : List V → Hp → VK → Prop := rIsi K
theorem ev_isB {t : String} {u : String} (h : Ev B te ρ s ρ') (ht : Ty K s t) (hb : kitB t u = some b) : Ev B (tCB (rIsi K) (tCons te (tCons (tC (.ty u)) tNil))) ρ (dB K b) ρ' := fun σ F H T R st dj p kk hk =>
  h σ F H T R st dj p _ fun v F1 H1 T1 s1 d1 k1 e1 ⟨U1, U2, du, u1, u2, x, y⟩ =>
    ⟨v, .ty u, .type t, .type u, b, rfl, .ty u, ht v F1 H1 U1 s1.ex x, kit_ty hb, hk (.bl b) F1 H1 T1 s1 d1 k1 e1 ⟨Fp.no, T1, Dj.no, Sub.no, Sub.refl _, .bl b, (En.stb _ _).up y u2⟩⟩
end
end Z
/-! Z14: the rules for errors, by the names of their classes. -/
namespace Z
open PySem L2
/-- an own error class without a maker of its own -/
structure XO (K : PySem.W.Frag) (mg : Str → Option Value) (x : Str) : Prop where
  g : mg x = some (.ref (He.ga K x))
  q : PySem.W.excIn K (He.ga K x) He.veBase "ValueError.__new__" = true
  k : PySem.W.keepIn K (.ref (He.ga K x)) = true
  b : PySem.W.subIn K (.ref (He.ga K x)) (.type "BaseException") = some true
  t : PySem.W.typeIn K (.ref (He.ga K x)) = some (.type "type")
def xcV (K : PySem.W.Frag) (x : Str) : V := .ref (He.ga K x)
def xc (K : PySem.W.Frag) (x : Str) : Value := .ref (He.ga K x)
section
variable {X : Cx} {W : WX} {E : XK} {x m : Str} {j k : Nat} {p p2 pos pos2 : Pos} {ps : List PySem.Str} {sp : Sp} {e : Expr} {es : List Expr} {t : TA}
theorem takesO (hs : X.stack = X.env :: X.outer) (hf : X.env.frame = some X.env.locals) (hex : X.ex = []) {E₁ : Value → Shared → Prop}
    (hx : X.xe = fun e s' => wpAny (model X.prog X.w) X.A (leaving X.env e) (fun _ s'' => L2.CX X.prog X.w X.outer X.H_0 X.s_0 E e s'') E₁ s') : Takes X (WO E) := takes_of hs hf hex hx
theorem ps_raiseO (hc : X.calm = true) (tk : Takes X W) (h : XO X.K X.mg x) (hg : Gl X x) (hdb : (x == ("__debug__" : Str)) = false := by decide) :
    PS X (.Raise (some (.Call (.Name x p) [.Constant (.str m) j p2] [] pos)) none pos2) (tRaiseO (xc X.K x) W) :=
  ps_raise hc tk (pmk_own PySem.F.excBase_ValueError h.q h.g h.k (raises_own h.b h.t) hg hdb)
/-- a def that may raise; what it raises goes where W says -/
theorem pe_callZS (h : Has X.prog X.w X.K X.mg X.base (L2.CX X.prog X.w) k x ps sp) (hr : Room k X.A) (tk : Takes X W) (hg : Gl X x) (ha : PA X (e :: es) t) (hdb : (x == ("__debug__" : PySem.Str)) = false := by decide)
    (he : starEach (e :: es) X.env = (false, eval e X.env) :: starEach es X.env := by rfl) (hpl : (backTo pos (starEach es X.env)).any (·.1) = false := by rfl) : PE X (.Call (.Name x p) (e :: es) [] pos) (tCallS sp (WE W) t) := by
  obtain ⟨fd, G, b⟩ := h.fn
  exact pe_callS G hr hg h.gl h.kp b (fun σ => passAt tk σ) ha hdb he hpl
end
end Z
/-! Z15 -/
namespace Z
open PySem L2
section
variable {B : Base} {te ta tb tl : TE} {ρ ρ1 ρ2 ρ' ρr ps ps' : Env} {s s1 s2 s3 s0 r : Sl} {K : PySem.W.Frag} {d : PyData} {ds es : List PyData} {i j : Int} {b c : Bool} {t tr : TA} {as : List Arg} {ns ms : List Int}
variable {π : List (Option V)} {ts tu tw : TS} {P P' M n n' bk ct bk' ct' : L2.St → As} {rt : V → As} {q : Po} {vs : List V}
theorem ty_tuple : Ty K (dat K (.tuple ds)) "tuple" := fun v F H T e p => by
  cases p with
  | tup q a =>
    rcases SqT.ext e q with (h | ⟨o, h⟩) | ⟨o, its, n, h1, h2, _⟩
    · exact .base (.tup h)
    · exact .fTuple h
    · exact .kTuple h1 h2
/-- the error's own fields are none -/
theorem do_plain {e : Err} {d : Option Addr} (hx : e.fs = none) (h : d = none → Do B ts (A π ρ) q) : Do B ts (EA K e d π ρ) q := fun D σ F H T e0 st ⟨he, p⟩ => by
  unfold ErrAt at he
  rw [hx] at he
  exact h he D σ F H T e0 st p
/-- calls, a list lent -/
theorem ev_c1b {sp : Sp} {k : Nat} {y : Option Sl} (h : ρ[k]? = some (some (lst K ds))) (hc : Ct sp [some (lst K ds)] s [y]) : Ev B (tCall sp [] E0 (tCons (tVar k) tNil)) ρ s (ρ.set k y) := by
  refine ev_cb (ps := [some (lst K ds)]) (ps' := [y]) (ρr := ρ.set k none) (ea_bor h ea_nil) ?_ hc ?_
  · show (slotAt ρ k :: (gath [] (ρ.set k none)).1, (gath [] (ρ.set k none)).2) = _
    have e : slotAt ρ k = some (lst K ds) := by unfold slotAt; rw [h]
    rw [e]
    rfl
  · have e : scat [] [] (ρ.set k none) = ρ.set k none := by unfold scat; rfl
    cases y with
    | none => exact e
    | some u =>
      show (scat [] [] (ρ.set k none)).set k (some u) = _
      rw [e, List.set_set]
theorem ev_c2b {sp : Sp} {k : Nat} {x y : Option Sl} (h1 : Ev B te ρ (dat K d) ρ1) (h : ρ1[k]? = some (some (lst K ds))) (hc : Ct sp [some (dat K d), some (lst K ds)] s [x, y]) : Ev B (tCall sp [] E0 (tCons te (tCons (tVar k) tNil))) ρ s (ρ1.set k y) := by
  refine ev_cb (ps := [some (dat K d), some (lst K ds)]) (ps' := [x, y]) (ρr := ρ1.set k none) (ea_cons h1 (ea_bor h ea_nil)) ?_ hc ?_
  · show (some (dat K d) :: slotAt ρ1 k :: (gath [] (ρ1.set k none)).1, (gath [] (ρ1.set k none)).2) = _
    have e : slotAt ρ1 k = some (lst K ds) := by unfold slotAt; rw [h]
    rw [e]
    rfl
  · have e : scat [] [] (ρ1.set k none) = ρ1.set k none := by unfold scat; rfl
    cases y with
    | none => exact e
    | some u =>
      show (scat [] [] (ρ1.set k none)).set k (some u) = _
      rw [e, List.set_set]
theorem ev_c2l {sp : Sp} {k : Nat} {x y : Option Sl} (h0 : ρ[k]? = some (some (lst K es))) (h1 : Ev B te ρ (dat K d) ρ1) (h : ρ1[k]? = some (some (lst K ds))) (hc : Ct sp [some (lst K ds), some (dat K d)] s [y, x]) : Ev B (tCall sp [] E0 (tCons (tVar k) (tCons te tNil))) ρ s (ρ1.set k y) := by
  refine ev_cb (ps := [some (lst K ds), some (dat K d)]) (ps' := [y, x]) (ρr := ρ1.set k none) (ea_bor h0 (ea_cons h1 ea_nil)) ?_ hc ?_
  · show (slotAt ρ1 k :: some (dat K d) :: (gath [] (ρ1.set k none)).1, (gath [] (ρ1.set k none)).2) = _
    have e : slotAt ρ1 k = some (lst K ds) := by unfold slotAt; rw [h]
    rw [e]
    rfl
  · have e : scat [.sl (dat K d)] [x] (ρ1.set k none) = ρ1.set k none := by
      cases x <;> (unfold scat; unfold scat; rfl)
    cases y with
    | none => exact e
    | some u =>
      show (scat [.sl (dat K d)] [x] (ρ1.set k none)).set k (some u) = _
      rw [e, List.set_set]
/-- a call with one list lent, told by its promise -/
theorem kb_ii : kitB "int" "int" = some true := by decide +kernel
theorem kb_ib : kitB "int" "bool" = some false := by decide +kernel
theorem kb_ll : kitB "list" "list" = some true := by decide +kernel
theorem kb_tt : kitB "tuple" "tuple" = some true := by decide +kernel
theorem kb_nt : kitB "NoneType" "tuple" = some false := by decide +kernel
theorem kb_nl : kitB "NoneType" "list" = some false := by decide +kernel
theorem kb_bb : kitB "bool" "bool" = some true := by decide +kernel
theorem kb_bi : kitB "bool" "int" = some true := by decide +kernel
theorem kb_ss : kitB "str" "str" = some true := by decide +kernel
theorem kb_dd : kitB "dict" "dict" = some true := by decide +kernel
/-- [f d for d in ..]: the element's evaluation moves on -/
theorem ev_lcd {wi : TI} {k : Nat} (f : Nat → PyData) (ρs : Nat → Env) (h : Iw K B wi ρ ds ρ1) (h0 : EnLe ρ1 (ρs 0)) (hk : ∀ i, (ρs i)[k]? = some none) (hs : ∀ (i : Nat) d, ds[i]? = some d → ∃ ρe, Ev B te ((ρs i).set k (some (dat K d))) (dat K (f i)) ρe ∧ EnLe ρe (ρs (i + 1))) (hz : ds.length ≤ sizeLine) :
    Ev B (tLc wi (gName k) tYes te [k]) ρ (lst K ((List.range ds.length).map f)) (ρs ds.length) := by
  refine ev_lc ρs (fun i => (List.range i).map f) h h0 rfl (fun i _ v hv => by rw [List.mem_singleton.mp hv, hk i]) (fun i d hd => ?_) hz
  obtain ⟨ρe, h1, h2⟩ := hs i d hd
  refine ⟨_, tgc_name (List.mem_singleton.mpr rfl) (List.getElem?_eq_some_iff.mp (hk i)).1, true, _, et_yes, fun _ => ⟨f i, ρe, h1, h2, ?_⟩, fun e => by cases e⟩
  rw [List.range_succ, List.map_append]
  rfl
theorem DqAll.rep {F : Hp} {vs : List V} {ds : List PyData} (h : DqAll K F vs ds) : ∀ n : Nat, DqAll K F (List.replicate n vs).flatten (List.replicate n ds).flatten
  | 0 => .nil
  | n + 1 => by
    rw [List.replicate_succ, List.replicate_succ, List.flatten_cons, List.flatten_cons]
    exact h.append (DqAll.rep h n)
theorem rr_rep (h1 : -(2 ^ 63) ≤ i ∧ i < 2 ^ 63) (h2 : ds.length * i.toNat ≤ sizeLine) : RR zMul (lst K ds) (dI K i) (lst K (List.replicate i.toNat ds).flatten) := RR.or2 fun B v1 v2 => by
  refine (Ho.newL (ds := (List.replicate i.toNat ds).flatten) (Stb.sep ((lst K ds).s v1) ((dI K i).s v2)) fun F H T e ⟨U1, U2, du, u1, u2, ⟨a, vs, ea, ta, ha, qa⟩, y⟩ => ?_).conseq (Im.refl _) fun u => sep_left ((lst K _).s u)
  cases y
  subst ea
  exact ⟨_, DqAll.rep qa i.toNat, fun Q q => ⟨a, i, vs, rfl, rfl, ha, h1.1, h1.2, by rw [qa.length]; exact h2, q⟩⟩
theorem rr_repI (h1 : -(2 ^ 63) ≤ i ∧ i < 2 ^ 63) (h2 : ns.length * i.toNat ≤ sizeLine) : RR zMul (oL K ns) (dI K i) (oL K (List.replicate i.toNat ns).flatten) := by
  have := rr_rep (K := K) (ds := ns.map PyData.int) (i := i) h1 (by simpa using h2)
  rwa [← List.map_replicate, ← List.map_flatten] at this
/-- [f d for d in .. if p d], nothing is changed meanwhile -/
theorem ev_lcf {wi : TI} {k : Nat} {tt : TT} (p : Nat → Bool) (f : Nat → PyData) (h : Iw K B wi ρ ds ρ1) (hk : k < ρ1.length) (ht : ∀ (i : Nat) d, ds[i]? = some d → Et B tt (ρ1.set k (some (dat K d))) (p i) (ρ1.set k (some (dat K d))))
    (hs : ∀ (i : Nat) d, ds[i]? = some d → Ev B te (ρ1.set k (some (dat K d))) (dat K (f i)) (ρ1.set k (some (dat K d)))) (hz : ds.length ≤ sizeLine) :
    Ev B (tLc wi (gName k) tt te [k]) ρ (lst K (((List.range ds.length).filter p).map f)) (ρ1.set k none) := by
  have hb : Blind (ρ1.set k none) [k] := fun v hv => by
    rw [List.mem_singleton.mp hv, List.getElem?_set_self hk]
  have hle : ∀ {x : Option Sl}, EnLe (ρ1.set k x) (ρ1.set k none) := fun {x} => by
    clear h ht hs hb
    induction ρ1 generalizing k with
    | nil => exact .nil
    | cons y r ih =>
      cases k with
      | zero => exact .less (EnLe.refl _)
      | succ k => exact .same (ih (by simpa using hk))
  have hle0 : EnLe ρ1 (ρ1.set k none) := by
    clear h ht hs hb hle
    induction ρ1 generalizing k with
    | nil => exact .nil
    | cons y r ih =>
      cases k with
      | zero => exact .less (EnLe.refl _)
      | succ k => exact .same (ih (by simpa using hk))
  refine ev_lc (fun _ => ρ1.set k none) (fun i => ((List.range i).filter p).map f) h hle0 rfl (fun _ _ => hb) (fun i d hd => ?_) hz
  refine ⟨_, tgc_name (List.mem_singleton.mpr rfl) (by rw [List.length_set]; exact hk), p i, _, by rw [List.set_set]; exact ht i d hd, fun e => ⟨f i, _, hs i d hd, hle, ?_⟩, fun e => ⟨hle, ?_⟩⟩
  · rw [List.range_succ, List.filter_append, List.map_append, List.filter_cons_of_pos (by exact e)]
    rfl
  · rw [List.range_succ, List.filter_append, List.map_append, List.filter_cons_of_neg (by rw [e]; exact Bool.false_ne_true)]
    exact List.append_nil _
theorem filter_getD {xs : List Int} {q : Int → Bool} : ((List.range xs.length).filter fun i => q (xs.getD i 0)).map (fun i => PyData.int (xs.getD i 0)) = (xs.filter q).map PyData.int := by
  have e : xs = (List.range xs.length).map fun i => xs.getD i 0 := by
    apply List.ext_getElem?
    intro i
    rw [List.getElem?_map]
    by_cases hi : i < xs.length
    · rw [List.getElem?_range hi, List.getElem?_eq_getElem hi]
      simp [List.getD, hi]
    · rw [List.getElem?_eq_none (by omega), List.getElem?_eq_none (by simp; omega)]
      rfl
  conv => rhs; rw [e]
  rw [List.filter_map, List.map_map]
  rfl
theorem map_getD {xs : List Int} : (List.range xs.length).map (fun i => xs.getD i 0) = xs := by
  apply List.ext_getElem?
  intro i
  rw [List.getElem?_map]
  by_cases hi : i < xs.length
  · rw [List.getElem?_range hi, List.getElem?_eq_getElem hi]
    simp [List.getD, hi]
  · rw [List.getElem?_eq_none (by simp; omega), List.getElem?_eq_none (by omega)]
    rfl
theorem ev_toL (h : Ev B te ρ (lst K ds) ρ') (e : ds = ns.map PyData.int) : Ev B te ρ (dL K ns) ρ' := by
  subst e
  exact ev_fz h
theorem ev_toO (h : Ev B te ρ (lst K ds) ρ') (e : ds = ns.map PyData.int) : Ev B te ρ (oL K ns) ρ' := by
  subst e
  exact h
theorem findSome_congr {α : Type} {f g : Nat → Option α} {n : Nat} (h : ∀ i < n, f i = g i) : (List.range n).findSome? f = (List.range n).findSome? g := by
  have : ∀ l : List Nat, (∀ i ∈ l, f i = g i) → l.findSome? f = l.findSome? g := by
    intro l
    induction l with
    | nil => intro _; rfl
    | cons a l ih =>
      intro h
      rw [List.findSome?_cons, List.findSome?_cons, h a List.mem_cons_self, ih fun i hi => h i (List.mem_cons_of_mem _ hi)]
  exact this _ fun i hi => h i (List.mem_range.mp hi)
theorem ea_borL {k : Nat} (h : ρ[k]? = some (some (lst K ds))) (hr : Ea B t ρ as ρ2) : Ea B (tCons (tVar k) t) ρ (.bor k :: as) ρ2 := ea_bor h hr
/-! ### the script -/
/-- the list that a law is given -/
def scr (K : PySem.W.Frag) (ns : List Int) : Sl := ⟨fun v F _ _ => ∃ a, v = .ref a ∧ SqL K F a (ns.map V.int), fun v => ⟨fun h _ => h, fun ⟨a, e, h⟩ x _ => ⟨a, e, SqL.ext x h⟩⟩⟩
theorem dqa_ints {F : Hp} : ∀ ns : List Int, DqAll K F (ns.map V.int) (ns.map PyData.int)
  | [] => .nil
  | n :: ns => .cons (.int n) (dqa_ints ns)
theorem wlk_scr : Wlk K (scr K ns) (ns.map PyData.int) := fun v F H T e ⟨a, ev, h⟩ => ⟨a, _, ev, h, dqa_ints ns⟩
theorem ev_c1s {sp : Sp} {k : Nat} {y : Option Sl} (h : ρ[k]? = some (some (scr K ns))) (hc : Ct sp [some (scr K ns)] s [y]) : Ev B (tCall sp [] E0 (tCons (tVar k) tNil)) ρ s (ρ.set k y) := by
  refine ev_cb (ps := [some (scr K ns)]) (ps' := [y]) (ρr := ρ.set k none) (ea_bor h ea_nil) ?_ hc ?_
  · show (slotAt ρ k :: (gath [] (ρ.set k none)).1, (gath [] (ρ.set k none)).2) = _
    have e : slotAt ρ k = some (scr K ns) := by unfold slotAt; rw [h]
    rw [e]
    rfl
  · have e : scat [] [] (ρ.set k none) = ρ.set k none := by unfold scat; rfl
    cases y with
    | none => exact e
    | some u =>
      show (scat [] [] (ρ.set k none)).set k (some u) = _
      rw [e, List.set_set]
/-- the law's promise, where it is called -/
theorem law_in {pre : List Int → Prop} {H : Hp} {a : Addr} {E : XK} (hO : Only H) (hS : SqL K H a (ns.map V.int)) (hp : pre ns) : SpZ pre (fun ns => [some (scr K ns)]) (fun _ => dB K true) (fun _ => [none]) [.ref a] H (fun v _ => v = .bl true) E :=
  ⟨ns, H, Fp.no, hp, ⟨Ex.refl _, fun b z => z.elim⟩, ⟨Fp.no, Fp.no, Dj.no, Sub.no, Sub.no, ⟨a, rfl, hS⟩, trivial⟩, fun v F' H' T' _ ⟨_, _, _, _, _, x, _⟩ => by
    cases x
    rfl⟩
/-! ### what a head tells of an own error's class -/
def exB (K : PySem.W.Frag) (x : Str) : Bool := He.eqO (PySem.W.findIn K (.ref (He.ga K x)) "__getattribute__") (some (some (.builtin "BaseException.__getattribute__"))) && (He.eqO (PySem.W.findIn K (.ref (He.ga K x)) "__getattr__") (some none) &&
  (decide (PySem.W.subIn K (.ref (He.ga K x)) (.type "BaseException") = some true) && (PySem.W.hasDictIn K (He.ga K x) && (He.eqO (PySem.W.findIn K (.ref (He.ga K x)) "__class__") (some (some (.builtin "object.__class__"))) &&
  (decide (PySem.W.specialIn K (.builtin "object.__class__") "__get__" = some (some (.builtin "getset_descriptor.__get__"))) && (decide (PySem.W.takesIn K (.builtin "object.__class__") = some true) && decide (PySem.W.mroIn K (He.ga K x) (.type "object") = some true)))))))
theorem exB_ok {x : Str} (h : exB K x = true) : ExcC K (He.ga K x) := by
  unfold exB at h
  obtain ⟨h1, h⟩ := He.ba h
  obtain ⟨h2, h⟩ := He.ba h
  obtain ⟨h3, h⟩ := He.ba h
  obtain ⟨h4, h⟩ := He.ba h
  obtain ⟨h5, h⟩ := He.ba h
  obtain ⟨h6, h⟩ := He.ba h
  obtain ⟨h7, h8⟩ := He.ba h
  exact ⟨He.eqO_ok h1, He.eqO_ok h2, of_decide_eq_true h3, h4, He.eqO_ok h5, of_decide_eq_true h6, of_decide_eq_true h7, of_decide_eq_true h8⟩
end
end Z
namespace L61
open PySem PySem.Spec PyProof.Rows L2 Z
def top (i : Nat) : Stmt := PySem.Challenge.pw_plinth_k61_planted_images_are_known.main.body.getD i (.Pass ⟨0, 0, 0, 0⟩)
structure Tx (K : PySem.W.Frag) (mg : PySem.Str → Option Value) : Prop where
  b_any : mg "any" = none
  b_bool : mg "bool" = none
  b_int : mg "int" = none
  b_isinstance : mg "isinstance" = none
  b_len : mg "len" = none
  b_list : mg "list" = none
  b_range : mg "range" = none
  b_tuple : mg "tuple" = none
  x_BadTrap : XO K mg "BadTrap"
  x_NotPlantable : XO K mg "NotPlantable"
  x_NotPlanted : XO K mg "NotPlanted"
  x_PlinthError : XO K mg "PlinthError"
  i_BASE : ∃ t, mg "BASE" = some (.int 1000000 t)
  i_CALL : ∃ t, mg "CALL" = some (.int 40 t)
  i_CELL : ∃ t, mg "CELL" = some (.int 38 t)
  i_DOUBLE : ∃ t, mg "DOUBLE" = some (.int 34 t)
  i_DROP : ∃ t, mg "DROP" = some (.int 95 t)
  i_FIXED : ∃ t, mg "FIXED" = some (.int 14 t)
  i_GIVE : ∃ t, mg "GIVE" = some (.int 46 t)
  i_MOST_EXTRA : ∃ t, mg "MOST_EXTRA" = some (.int 24 t)
  i_MOST_LURE : ∃ t, mg "MOST_LURE" = some (.int 12 t)
  i_PLUS : ∃ t, mg "PLUS" = some (.int 43 t)
  i_PUSH : ∃ t, mg "PUSH" = some (.int 35 t)
  i_RETURN : ∃ t, mg "RETURN" = some (.int 41 t)
  i_REWIND : ∃ t, mg "REWIND" = some (.int 94 t)
  i_SAME : ∃ t, mg "SAME" = some (.int 126 t)
  i_TAKE : ∃ t, mg "TAKE" = some (.int 44 t)
  i_TEST : ∃ t, mg "TEST" = some (.int 63 t)
/-! nodes_of -/
abbrev st_nodes_of : Stmt := top 6
abbrev N_nodes_of : List PySem.Str := ["image", "start"]
abbrev P_nodes_of : List PySem.Str := ["image"]
theorem sc_nodes_of : FnScope N_nodes_of P_nodes_of (defScope st_nodes_of) := ⟨rfl, rfl, rfl, by decide +kernel, rfl, by decide +kernel, by decide +kernel⟩
def t_nodes_of (K : PySem.W.Frag) : TS :=
  (tRet (tLc (iRng3 (tCons (tC (.int 0)) (tCons (tOp zSub (tCB (rLenZ K) (tCons (tVar 0) tNil)) (tC (.int 3))) (tCons (tC (.int 4)) tNil)))) (gName 1) tYes (tCB (rTupZ K) (tCons (tSl (rSlL K) (tVar 0) (tPart (tVar 1)) (tPart (tOp zAdd (tVar 1) (tC (.int 4))))) tNil)) [1]))
theorem dv_nodes_of {P : Program} {w : World} {K : PySem.W.Frag} {mg : PySem.Str → Option Value} {base : Heap} {f : Addr} {cdv : Value} {A : Around} {outer : List PySem.Env} {s : Shared} {H : Hp} {E : XK} (T : Tx K mg)
    (hr : Room 0 (A.deeper (envOfC "nodes_of" (defScope st_nodes_of) s.heap.objs.size f cdv))) : PSs (cxOf CX0 P w K mg base N_nodes_of "nodes_of" (defScope st_nodes_of) f cdv A outer s H E).nox (defBody st_nodes_of) (t_nodes_of K) := by
  have nd := sc_nodes_of.nd
  have hu := hu_of hr
  exact (pss_one (ps_ret (pe_lc (own := [("start", 1)]) (g := (gName 1)) (by rfl) nd (pi_range3 rfl T.b_range (pa_cons pe_int (pa_cons (pe_op op_zSub (pe_callB call_lenZ (by rfl) T.b_len (by decide +kernel) (pa_cons (pv 0) pa_nil)) pe_int) (pa_cons pe_int pa_nil)))) (blkOk_by (own := [("start", 1)]) (N := N_nodes_of) (sc := defScope st_nodes_of) (by decide +kernel)) (fun _ _ _ _ _ => (pg_name (i := 1) nd rfl (by first | exact Or.inl rfl | exact Or.inr rfl))) (fun _ _ _ _ _ => pts_nil) (fun _ _ _ _ _ => (pe_callTy call_tupZ (by rfl) T.b_tuple (by decide +kernel) (pa_cons (pe_slice sl_list (pv 0) (po_some (pv 1)) (po_some (pe_op op_zAdd (pv 1) pe_int))) pa_nil))))))
/-! image_of -/
abbrev st_image_of : Stmt := top 7
abbrev N_image_of : List PySem.Str := ["nodes", "image", "number", "operation", "argument", "successor"]
abbrev P_image_of : List PySem.Str := ["nodes"]
theorem sc_image_of : FnScope N_image_of P_image_of (defScope st_image_of) := ⟨rfl, rfl, rfl, by decide +kernel, rfl, by decide +kernel, by decide +kernel⟩
def t_image_of (K : PySem.W.Frag) : TS :=
  (tSeq (tAsg (tLst tNil) (gName 1))
  (tSeq (tFor (iList K (tVar 0)) (gTup K 4 (gCons (gName 2) (gCons (gName 3) (gCons (gName 4) (gCons (gName 5) gNil)))))
  (tDrop (tBM K "list" rExtend (tVar 1) (tCons (tLst (tCons (tVar 2) (tCons (tVar 3) (tCons (tVar 4) (tCons (tVar 5) tNil))))) tNil))))
  (tRet (tVar 1))))
theorem dv_image_of {P : Program} {w : World} {K : PySem.W.Frag} {mg : PySem.Str → Option Value} {base : Heap} {f : Addr} {cdv : Value} {A : Around} {outer : List PySem.Env} {s : Shared} {H : Hp} {E : XK} (T : Tx K mg)
    (hr : Room 0 (A.deeper (envOfC "image_of" (defScope st_image_of) s.heap.objs.size f cdv))) : PSs (cxOf CX0 P w K mg base N_image_of "image_of" (defScope st_image_of) f cdv A outer s H E).nox (defBody st_image_of) (t_image_of K) := by
  have nd := sc_image_of.nd
  have hu := hu_of hr
  exact (pss_cons (ps_set (i := 1) nd rfl (by first | exact Or.inl rfl | exact Or.inr rfl) (pe_lst pa_nil))
    (pss_cons (ps_for PassesOwn.never rfl (pi_list (pv 0)) (pg_tup (by rfl) (pgs_cons (pg_name (i := 2) nd rfl (by first | exact Or.inl rfl | exact Or.inr rfl)) (pgs_cons (pg_name (i := 3) nd rfl (by first | exact Or.inl rfl | exact Or.inr rfl)) (pgs_cons (pg_name (i := 4) nd rfl (by first | exact Or.inl rfl | exact Or.inr rfl)) (pgs_cons (pg_name (i := 5) nd rfl (by first | exact Or.inl rfl | exact Or.inr rfl)) pgs_nil))))) (pss_one (ps_expr (pe_bm PySem.F.plainAttrs_list PySem.F.slot_list_extend PySem.F.type_list_extend mt_extend (pv 1) (pa_cons (pe_lst (pa_cons (pv 2) (pa_cons (pv 3) (pa_cons (pv 4) (pa_cons (pv 5) pa_nil))))) pa_nil)))))
    (pss_one (ps_ret (pv 1)))))
/-! is_trap -/
abbrev st_is_trap : Stmt := top 25
abbrev N_is_trap : List PySem.Str := ["lure", "extra", "code"]
abbrev P_is_trap : List PySem.Str := ["lure", "extra"]
theorem sc_is_trap : FnScope N_is_trap P_is_trap (defScope st_is_trap) := ⟨rfl, rfl, rfl, by decide +kernel, rfl, by decide +kernel, by decide +kernel⟩
def t_is_trap (K : PySem.W.Frag) : TS :=
  (tSeq (tIfS (tNot (tTest (tChain zLe zLe (tC (.int 1)) (tCB (rLenZ K) (tCons (tVar 0) tNil)) (tC (.int 12)))))
  (tRet (tC (.bl false)))
  tNext)
  (tSeq (tIfS (tTruZ K (tCB (rAny K) (tCons (tLc (iList K (tVar 0)) (gName 2) tYes (tNotV (tChain zLe zLe (tC (.int 0)) (tVar 2) (tC (.int 126)))) [2]) tNil)))
  (tRet (tC (.bl false)))
  tNext)
  (tRet (tAndV (tOp zLe (tCB (rLenZ K) (tCons (tVar 1) tNil)) (tC (.int 24))) (tOp (zEq K) (tOp zMod (tCB (rLenZ K) (tCons (tVar 1) tNil)) (tC (.int 4))) (tC (.int 0)))))))
theorem dv_is_trap {P : Program} {w : World} {K : PySem.W.Frag} {mg : PySem.Str → Option Value} {base : Heap} {f : Addr} {cdv : Value} {A : Around} {outer : List PySem.Env} {s : Shared} {H : Hp} {E : XK} (T : Tx K mg)
    (hr : Room 0 (A.deeper (envOfC "is_trap" (defScope st_is_trap) s.heap.objs.size f cdv))) : PSs (cxOf CX0 P w K mg base N_is_trap "is_trap" (defScope st_is_trap) f cdv A outer s H E).nox (defBody st_is_trap) (t_is_trap K) := by
  have nd := sc_is_trap.nd
  have hu := hu_of hr
  exact (pss_cons (ps_if (pt_not (pt_chain op_zLe op_zLe pe_int (pe_callB call_lenZ (by rfl) T.b_len (by decide +kernel) (pa_cons (pv 0) pa_nil)) (pe_gi T.i_MOST_LURE rfl))) (pss_one (ps_ret pe_bl)) pss_nil)
    (pss_cons (ps_if (pt_truth (pe_callB (cr_any rfl) (by rfl) T.b_any (by decide +kernel) (pa_cons (pe_lc (own := [("code", 2)]) (g := (gName 2)) (by rfl) nd (pi_list (pv 0)) (blkOk_by (own := [("code", 2)]) (N := N_is_trap) (sc := defScope st_is_trap) (by decide +kernel)) (fun _ _ _ _ _ => (pg_name (i := 2) nd rfl (by first | exact Or.inl rfl | exact Or.inr rfl))) (fun _ _ _ _ _ => pts_nil) (fun _ _ _ _ _ => (pe_not (pe_chain op_zLe op_zLe pe_int (pv 2) pe_int)))) pa_nil)) (by intro _; rfl)) (pss_one (ps_ret pe_bl)) pss_nil)
    (pss_one (ps_ret (pe_and (pe_cmpR op_zLe (pe_callB call_lenZ (by rfl) T.b_len (by decide +kernel) (pa_cons (pv 1) pa_nil)) (pe_gi T.i_MOST_EXTRA rfl) (nomark _)) (pe_one (pe_cmpR (op_zEq hr.units) (pe_op op_zMod (pe_callB call_lenZ (by rfl) T.b_len (by decide +kernel) (pa_cons (pv 1) pa_nil)) pe_int) pe_int (nomark _))))))))
/-! is_plantable -/
abbrev st_is_plantable : Stmt := top 26
abbrev N_is_plantable : List PySem.Str := ["image", "number", "operation", "_"]
abbrev P_is_plantable : List PySem.Str := ["image"]
theorem sc_is_plantable : FnScope N_is_plantable P_is_plantable (defScope st_is_plantable) := ⟨rfl, rfl, rfl, by decide +kernel, rfl, by decide +kernel, by decide +kernel⟩
def t_is_plantable (K : PySem.W.Frag) (sp_nodes_of : Sp) : TS :=
  (tSeq (tIfS (tOr (tTest (tOp zLt (tCB (rLenZ K) (tCons (tVar 0) tNil)) (tC (.int 4)))) (tOr (tTest (tOp (zNe K) (tOp zMod (tCB (rLenZ K) (tCons (tVar 0) tNil)) (tC (.int 4))) (tC (.int 0)))) (tTest (tOp (zNe K) (tSl (rSlL K) (tVar 0) tNoPart (tPart (tC (.int 3)))) (tLst (tCons (tC (.int 0)) (tCons (tC (.int 32)) (tCons (tC (.int 0)) tNil))))))))
  (tRet (tC (.bl false)))
  tNext)
  (tSeq (tFor (iList K (tCall sp_nodes_of [] E0 (tCons (tSl (rSlL K) (tVar 0) (tPart (tC (.int 4))) tNoPart) tNil))) (gTup K 4 (gCons (gName 1) (gCons (gName 2) (gCons (gName 3) (gCons (gName 3) gNil)))))
  (tIfS (tOr (tTest (tOp (zEq K) (tVar 1) (tC (.int 0)))) (tOr (tTest (tOp zGe (tVar 1) (tC (.int 1000000)))) (tTest (tOp (zEq K) (tVar 2) (tC (.int 38))))))
  (tRet (tC (.bl false)))
  tNext))
  (tRet (tC (.bl true)))))
theorem dv_is_plantable {P : Program} {w : World} {K : PySem.W.Frag} {mg : PySem.Str → Option Value} {base : Heap} {f : Addr} {cdv : Value} {A : Around} {outer : List PySem.Env} {s : Shared} {H : Hp} {E : XK} {sp_nodes_of : Sp} (T : Tx K mg) (C_nodes_of : Has P w K mg base CX0 1 "nodes_of" P_nodes_of sp_nodes_of)
    (hr : Room 1 (A.deeper (envOfC "is_plantable" (defScope st_is_plantable) s.heap.objs.size f cdv))) : PSs (cxOf CX0 P w K mg base N_is_plantable "is_plantable" (defScope st_is_plantable) f cdv A outer s H E).nox (defBody st_is_plantable) (t_is_plantable K sp_nodes_of) := by
  have nd := sc_is_plantable.nd
  have hu := hu_of hr
  exact (pss_cons (ps_if (PW.pt (pw_or (pt_cmpR op_zLt (pe_callB call_lenZ (by rfl) T.b_len (by decide +kernel) (pa_cons (pv 0) pa_nil)) pe_int (nomark _)) (pw_or (pt_cmpR (op_zNe hr.units) (pe_op op_zMod (pe_callB call_lenZ (by rfl) T.b_len (by decide +kernel) (pa_cons (pv 0) pa_nil)) pe_int) pe_int (nomark _)) (pw_or1 (pt_cmpR (op_zNe hr.units) (pe_slice sl_list (pv 0) po_none (po_some pe_int)) (pe_lst (pa_cons pe_int (pa_cons pe_int (pa_cons pe_int pa_nil)))) (nomark _)))))) (pss_one (ps_ret pe_bl)) pss_nil)
    (pss_cons (ps_for PassesOwn.never rfl (pi_list (pe_callZ C_nodes_of (hr.mono (by decide)) rfl (pa_cons (pe_slice sl_list (pv 0) (po_some pe_int) po_none) pa_nil))) (pg_tup (by rfl) (pgs_cons (pg_name (i := 1) nd rfl (by first | exact Or.inl rfl | exact Or.inr rfl)) (pgs_cons (pg_name (i := 2) nd rfl (by first | exact Or.inl rfl | exact Or.inr rfl)) (pgs_cons (pg_name (i := 3) nd rfl (by first | exact Or.inl rfl | exact Or.inr rfl)) (pgs_cons (pg_name (i := 3) nd rfl (by first | exact Or.inl rfl | exact Or.inr rfl)) pgs_nil))))) (pss_one (ps_if (PW.pt (pw_or (pt_cmpR (op_zEq hr.units) (pv 1) pe_int (nomark _)) (pw_or (pt_cmpR op_zGe (pv 1) (pe_gi T.i_BASE rfl) (nomark _)) (pw_or1 (pt_cmpR (op_zEq hr.units) (pv 2) (pe_gi T.i_CELL rfl) (nomark _)))))) (pss_one (ps_ret pe_bl)) pss_nil)))
    (pss_one (ps_ret pe_bl))))
/-! beginning -/
abbrev st_beginning : Stmt := top 27
abbrev N_beginning : List PySem.Str := []
abbrev P_beginning : List PySem.Str := []
theorem sc_beginning : FnScope N_beginning P_beginning (defScope st_beginning) := ⟨rfl, rfl, rfl, by decide +kernel, rfl, by decide +kernel, by decide +kernel⟩
def t_beginning (K : PySem.W.Frag) : TS :=
  (tRet (tLst (tCons (tTup (tCons (tC (.int 0)) (tCons (tC (.int 35)) (tCons (tC (.int 3)) (tCons (tC (.int 1000000)) tNil))))) (tCons (tTup (tCons (tC (.int 1000000)) (tCons (tC (.int 38)) (tCons (tC (.int 0)) (tCons (tOp zAdd (tC (.int 1000000)) (tC (.int 1))) tNil))))) (tCons (tTup (tCons (tOp zAdd (tC (.int 1000000)) (tC (.int 1))) (tCons (tC (.int 40)) (tCons (tC (.int 0)) (tCons (tOp zAdd (tC (.int 1000000)) (tC (.int 2))) tNil))))) (tCons (tTup (tCons (tOp zAdd (tC (.int 1000000)) (tC (.int 2))) (tCons (tC (.int 94)) (tCons (tC (.int 0)) (tCons (tOp zAdd (tC (.int 1000000)) (tC (.int 3))) tNil))))) tNil))))))
theorem dv_beginning {P : Program} {w : World} {K : PySem.W.Frag} {mg : PySem.Str → Option Value} {base : Heap} {f : Addr} {cdv : Value} {A : Around} {outer : List PySem.Env} {s : Shared} {H : Hp} {E : XK} (T : Tx K mg)
    (hr : Room 0 (A.deeper (envOfC "beginning" (defScope st_beginning) s.heap.objs.size f cdv))) : PSs (cxOf CX0 P w K mg base N_beginning "beginning" (defScope st_beginning) f cdv A outer s H E).nox (defBody st_beginning) (t_beginning K) := by
  have nd := sc_beginning.nd
  have hu := hu_of hr
  exact (pss_one (ps_ret (pe_lst (pa_cons (pe_tup (pa_cons pe_int (pa_cons (pe_gi T.i_PUSH rfl) (pa_cons pe_int (pa_cons (pe_gi T.i_BASE rfl) pa_nil))))) (pa_cons (pe_tup (pa_cons (pe_gi T.i_BASE rfl) (pa_cons (pe_gi T.i_CELL rfl) (pa_cons pe_int (pa_cons (pe_op op_zAdd (pe_gi T.i_BASE rfl) pe_int) pa_nil))))) (pa_cons (pe_tup (pa_cons (pe_op op_zAdd (pe_gi T.i_BASE rfl) pe_int) (pa_cons (pe_gi T.i_CALL rfl) (pa_cons pe_int (pa_cons (pe_op op_zAdd (pe_gi T.i_BASE rfl) pe_int) pa_nil))))) (pa_cons (pe_tup (pa_cons (pe_op op_zAdd (pe_gi T.i_BASE rfl) pe_int) (pa_cons (pe_gi T.i_REWIND rfl) (pa_cons pe_int (pa_cons (pe_op op_zAdd (pe_gi T.i_BASE rfl) pe_int) pa_nil))))) pa_nil)))))))
/-! comparison -/
abbrev st_comparison : Stmt := top 28
abbrev N_comparison : List PySem.Str := ["at", "code", "end"]
abbrev P_comparison : List PySem.Str := ["at", "code", "end"]
theorem sc_comparison : FnScope N_comparison P_comparison (defScope st_comparison) := ⟨rfl, rfl, rfl, by decide +kernel, rfl, by decide +kernel, by decide +kernel⟩
def t_comparison (K : PySem.W.Frag) : TS :=
  (tRet (tLst (tCons (tTup (tCons (tVar 0) (tCons (tC (.int 44)) (tCons (tC (.int 0)) (tCons (tOp zAdd (tVar 0) (tC (.int 1))) tNil))))) (tCons (tTup (tCons (tOp zAdd (tVar 0) (tC (.int 1))) (tCons (tC (.int 35)) (tCons (tVar 1) (tCons (tOp zAdd (tVar 0) (tC (.int 2))) tNil))))) (tCons (tTup (tCons (tOp zAdd (tVar 0) (tC (.int 2))) (tCons (tC (.int 126)) (tCons (tC (.int 0)) (tCons (tOp zAdd (tVar 0) (tC (.int 3))) tNil))))) (tCons (tTup (tCons (tOp zAdd (tVar 0) (tC (.int 3))) (tCons (tC (.int 63)) (tCons (tVar 2) (tCons (tOp zAdd (tVar 0) (tC (.int 4))) tNil))))) tNil))))))
theorem dv_comparison {P : Program} {w : World} {K : PySem.W.Frag} {mg : PySem.Str → Option Value} {base : Heap} {f : Addr} {cdv : Value} {A : Around} {outer : List PySem.Env} {s : Shared} {H : Hp} {E : XK} (T : Tx K mg)
    (hr : Room 0 (A.deeper (envOfC "comparison" (defScope st_comparison) s.heap.objs.size f cdv))) : PSs (cxOf CX0 P w K mg base N_comparison "comparison" (defScope st_comparison) f cdv A outer s H E).nox (defBody st_comparison) (t_comparison K) := by
  have nd := sc_comparison.nd
  have hu := hu_of hr
  exact (pss_one (ps_ret (pe_lst (pa_cons (pe_tup (pa_cons (pv 0) (pa_cons (pe_gi T.i_TAKE rfl) (pa_cons pe_int (pa_cons (pe_op op_zAdd (pv 0) pe_int) pa_nil))))) (pa_cons (pe_tup (pa_cons (pe_op op_zAdd (pv 0) pe_int) (pa_cons (pe_gi T.i_PUSH rfl) (pa_cons (pv 1) (pa_cons (pe_op op_zAdd (pv 0) pe_int) pa_nil))))) (pa_cons (pe_tup (pa_cons (pe_op op_zAdd (pv 0) pe_int) (pa_cons (pe_gi T.i_SAME rfl) (pa_cons pe_int (pa_cons (pe_op op_zAdd (pv 0) pe_int) pa_nil))))) (pa_cons (pe_tup (pa_cons (pe_op op_zAdd (pv 0) pe_int) (pa_cons (pe_gi T.i_TEST rfl) (pa_cons (pv 2) (pa_cons (pe_op op_zAdd (pv 0) pe_int) pa_nil))))) pa_nil)))))))
/-! writing -/
abbrev st_writing : Stmt := top 29
abbrev N_writing : List PySem.Str := ["at", "number"]
abbrev P_writing : List PySem.Str := ["at", "number"]
theorem sc_writing : FnScope N_writing P_writing (defScope st_writing) := ⟨rfl, rfl, rfl, by decide +kernel, rfl, by decide +kernel, by decide +kernel⟩
def t_writing (K : PySem.W.Frag) : TS :=
  (tRet (tLst (tCons (tTup (tCons (tVar 0) (tCons (tC (.int 35)) (tCons (tVar 1) (tCons (tOp zAdd (tVar 0) (tC (.int 1))) tNil))))) (tCons (tTup (tCons (tOp zAdd (tVar 0) (tC (.int 1))) (tCons (tC (.int 46)) (tCons (tC (.int 0)) (tCons (tOp zAdd (tVar 0) (tC (.int 2))) tNil))))) tNil))))
theorem dv_writing {P : Program} {w : World} {K : PySem.W.Frag} {mg : PySem.Str → Option Value} {base : Heap} {f : Addr} {cdv : Value} {A : Around} {outer : List PySem.Env} {s : Shared} {H : Hp} {E : XK} (T : Tx K mg)
    (hr : Room 0 (A.deeper (envOfC "writing" (defScope st_writing) s.heap.objs.size f cdv))) : PSs (cxOf CX0 P w K mg base N_writing "writing" (defScope st_writing) f cdv A outer s H E).nox (defBody st_writing) (t_writing K) := by
  have nd := sc_writing.nd
  have hu := hu_of hr
  exact (pss_one (ps_ret (pe_lst (pa_cons (pe_tup (pa_cons (pv 0) (pa_cons (pe_gi T.i_PUSH rfl) (pa_cons (pv 1) (pa_cons (pe_op op_zAdd (pv 0) pe_int) pa_nil))))) (pa_cons (pe_tup (pa_cons (pe_op op_zAdd (pv 0) pe_int) (pa_cons (pe_gi T.i_GIVE rfl) (pa_cons pe_int (pa_cons (pe_op op_zAdd (pv 0) pe_int) pa_nil))))) pa_nil)))))
/-! copying -/
abbrev st_copying : Stmt := top 30
abbrev N_copying : List PySem.Str := ["at", "cells", "end"]
abbrev P_copying : List PySem.Str := ["at", "cells"]
theorem sc_copying : FnScope N_copying P_copying (defScope st_copying) := ⟨rfl, rfl, rfl, by decide +kernel, rfl, by decide +kernel, by decide +kernel⟩
def t_copying (K : PySem.W.Frag) : TS :=
  (tSeq (tAsg (tOp zAdd (tVar 0) (tC (.int 9))) (gName 2))
  (tRet (tLst (tCons (tTup (tCons (tVar 0) (tCons (tC (.int 35)) (tCons (tUn zNeg (tVar 1)) (tCons (tOp zAdd (tVar 0) (tC (.int 1))) tNil))))) (tCons (tTup (tCons (tOp zAdd (tVar 0) (tC (.int 1))) (tCons (tC (.int 34)) (tCons (tC (.int 0)) (tCons (tOp zAdd (tVar 0) (tC (.int 2))) tNil))))) (tCons (tTup (tCons (tOp zAdd (tVar 0) (tC (.int 2))) (tCons (tC (.int 38)) (tCons (tC (.int 0)) (tCons (tOp zAdd (tVar 0) (tC (.int 3))) tNil))))) (tCons (tTup (tCons (tOp zAdd (tVar 0) (tC (.int 3))) (tCons (tC (.int 46)) (tCons (tC (.int 0)) (tCons (tOp zAdd (tVar 0) (tC (.int 4))) tNil))))) (tCons (tTup (tCons (tOp zAdd (tVar 0) (tC (.int 4))) (tCons (tC (.int 35)) (tCons (tC (.int 1)) (tCons (tOp zAdd (tVar 0) (tC (.int 5))) tNil))))) (tCons (tTup (tCons (tOp zAdd (tVar 0) (tC (.int 5))) (tCons (tC (.int 43)) (tCons (tC (.int 0)) (tCons (tOp zAdd (tVar 0) (tC (.int 6))) tNil))))) (tCons (tTup (tCons (tOp zAdd (tVar 0) (tC (.int 6))) (tCons (tC (.int 34)) (tCons (tC (.int 0)) (tCons (tOp zAdd (tVar 0) (tC (.int 7))) tNil))))) (tCons (tTup (tCons (tOp zAdd (tVar 0) (tC (.int 7))) (tCons (tC (.int 63)) (tCons (tOp zAdd (tVar 0) (tC (.int 8))) (tCons (tOp zAdd (tVar 0) (tC (.int 1))) tNil))))) (tCons (tTup (tCons (tOp zAdd (tVar 0) (tC (.int 8))) (tCons (tC (.int 95)) (tCons (tC (.int 0)) (tCons (tVar 2) tNil))))) (tCons (tTup (tCons (tVar 2) (tCons (tC (.int 41)) (tCons (tC (.int 0)) (tCons (tOp zAdd (tVar 2) (tC (.int 1))) tNil))))) tNil)))))))))))))
theorem dv_copying {P : Program} {w : World} {K : PySem.W.Frag} {mg : PySem.Str → Option Value} {base : Heap} {f : Addr} {cdv : Value} {A : Around} {outer : List PySem.Env} {s : Shared} {H : Hp} {E : XK} (T : Tx K mg)
    (hr : Room 0 (A.deeper (envOfC "copying" (defScope st_copying) s.heap.objs.size f cdv))) : PSs (cxOf CX0 P w K mg base N_copying "copying" (defScope st_copying) f cdv A outer s H E).nox (defBody st_copying) (t_copying K) := by
  have nd := sc_copying.nd
  have hu := hu_of hr
  exact (pss_cons (ps_set (i := 2) nd rfl (by first | exact Or.inl rfl | exact Or.inr rfl) (pe_op op_zAdd (pv 0) pe_int))
    (pss_one (ps_ret (pe_lst (pa_cons (pe_tup (pa_cons (pv 0) (pa_cons (pe_gi T.i_PUSH rfl) (pa_cons (pe_un un_zNeg (pv 1)) (pa_cons (pe_op op_zAdd (pv 0) pe_int) pa_nil))))) (pa_cons (pe_tup (pa_cons (pe_op op_zAdd (pv 0) pe_int) (pa_cons (pe_gi T.i_DOUBLE rfl) (pa_cons pe_int (pa_cons (pe_op op_zAdd (pv 0) pe_int) pa_nil))))) (pa_cons (pe_tup (pa_cons (pe_op op_zAdd (pv 0) pe_int) (pa_cons (pe_gi T.i_CELL rfl) (pa_cons pe_int (pa_cons (pe_op op_zAdd (pv 0) pe_int) pa_nil))))) (pa_cons (pe_tup (pa_cons (pe_op op_zAdd (pv 0) pe_int) (pa_cons (pe_gi T.i_GIVE rfl) (pa_cons pe_int (pa_cons (pe_op op_zAdd (pv 0) pe_int) pa_nil))))) (pa_cons (pe_tup (pa_cons (pe_op op_zAdd (pv 0) pe_int) (pa_cons (pe_gi T.i_PUSH rfl) (pa_cons pe_int (pa_cons (pe_op op_zAdd (pv 0) pe_int) pa_nil))))) (pa_cons (pe_tup (pa_cons (pe_op op_zAdd (pv 0) pe_int) (pa_cons (pe_gi T.i_PLUS rfl) (pa_cons pe_int (pa_cons (pe_op op_zAdd (pv 0) pe_int) pa_nil))))) (pa_cons (pe_tup (pa_cons (pe_op op_zAdd (pv 0) pe_int) (pa_cons (pe_gi T.i_DOUBLE rfl) (pa_cons pe_int (pa_cons (pe_op op_zAdd (pv 0) pe_int) pa_nil))))) (pa_cons (pe_tup (pa_cons (pe_op op_zAdd (pv 0) pe_int) (pa_cons (pe_gi T.i_TEST rfl) (pa_cons (pe_op op_zAdd (pv 0) pe_int) (pa_cons (pe_op op_zAdd (pv 0) pe_int) pa_nil))))) (pa_cons (pe_tup (pa_cons (pe_op op_zAdd (pv 0) pe_int) (pa_cons (pe_gi T.i_DROP rfl) (pa_cons pe_int (pa_cons (pv 2) pa_nil))))) (pa_cons (pe_tup (pa_cons (pv 2) (pa_cons (pe_gi T.i_RETURN rfl) (pa_cons pe_int (pa_cons (pe_op op_zAdd (pv 2) pe_int) pa_nil))))) pa_nil))))))))))))))
/-! trap_nodes -/
abbrev st_trap_nodes : Stmt := top 31
abbrev N_trap_nodes : List PySem.Str := ["lure", "extra", "start", "after", "nodes", "at", "code", "number", "cells"]
abbrev P_trap_nodes : List PySem.Str := ["lure", "extra"]
theorem sc_trap_nodes : FnScope N_trap_nodes P_trap_nodes (defScope st_trap_nodes) := ⟨rfl, rfl, rfl, by decide +kernel, rfl, by decide +kernel, by decide +kernel⟩
def t_trap_nodes (K : PySem.W.Frag) (sp_beginning : Sp) (sp_comparison : Sp) (sp_writing : Sp) (sp_copying : Sp) : TS :=
  (tSeq (tAsg (tOp zAdd (tC (.int 1000000)) (tC (.int 3))) (gName 2))
  (tSeq (tAsg (tOp zAdd (tOp zAdd (tVar 2) (tOp zMul (tC (.int 4)) (tCB (rLenZ K) (tCons (tVar 0) tNil)))) (tOp zMul (tC (.int 2)) (tCB (rLenZ K) (tCons (tVar 1) tNil)))) (gName 3))
  (tSeq (tAsg (tCall sp_beginning [] E0 tNil) (gName 4))
  (tSeq (tAsg (tVar 2) (gName 5))
  (tSeq (tFor (iList K (tVar 0)) (gName 6)
  (tSeq (tDrop (tBM K "list" rExtend (tVar 4) (tCons (tCall sp_comparison [] E0 (tCons (tVar 5) (tCons (tVar 6) (tCons (tOp zAdd (tVar 3) (tC (.int 9))) tNil)))) tNil)))
  (tAug 5 (tC (.int 4)) (ipI fun i j => i + j))))
  (tSeq (tFor (iList K (tVar 1)) (gName 7)
  (tSeq (tDrop (tBM K "list" rExtend (tVar 4) (tCons (tCall sp_writing [] E0 (tCons (tVar 5) (tCons (tVar 7) tNil))) tNil)))
  (tAug 5 (tC (.int 2)) (ipI fun i j => i + j))))
  (tSeq (tAsg (tOp zMul (tC (.int 4)) (tOp zAdd (tOp zAdd (tC (.int 14)) (tOp zMul (tC (.int 4)) (tCB (rLenZ K) (tCons (tVar 0) tNil)))) (tOp zMul (tC (.int 2)) (tCB (rLenZ K) (tCons (tVar 1) tNil))))) (gName 8))
  (tSeq (tDrop (tBM K "list" rExtend (tVar 4) (tCons (tCall sp_copying [] E0 (tCons (tVar 3) (tCons (tVar 8) tNil))) tNil)))
  (tRet (tVar 4))))))))))
theorem dv_trap_nodes {P : Program} {w : World} {K : PySem.W.Frag} {mg : PySem.Str → Option Value} {base : Heap} {f : Addr} {cdv : Value} {A : Around} {outer : List PySem.Env} {s : Shared} {H : Hp} {E : XK} {sp_beginning sp_comparison sp_writing sp_copying : Sp} (T : Tx K mg) (C_beginning : Has P w K mg base CX0 1 "beginning" P_beginning sp_beginning) (C_comparison : Has P w K mg base CX0 1 "comparison" P_comparison sp_comparison) (C_writing : Has P w K mg base CX0 1 "writing" P_writing sp_writing) (C_copying : Has P w K mg base CX0 1 "copying" P_copying sp_copying)
    (hr : Room 1 (A.deeper (envOfC "trap_nodes" (defScope st_trap_nodes) s.heap.objs.size f cdv))) : PSs (cxOf CX0 P w K mg base N_trap_nodes "trap_nodes" (defScope st_trap_nodes) f cdv A outer s H E).nox (defBody st_trap_nodes) (t_trap_nodes K sp_beginning sp_comparison sp_writing sp_copying) := by
  have nd := sc_trap_nodes.nd
  have hu := hu_of hr
  exact (pss_cons (ps_set (i := 2) nd rfl (by first | exact Or.inl rfl | exact Or.inr rfl) (pe_op op_zAdd (pe_gi T.i_BASE rfl) pe_int))
    (pss_cons (ps_set (i := 3) nd rfl (by first | exact Or.inl rfl | exact Or.inr rfl) (pe_op op_zAdd (pe_op op_zAdd (pv 2) (pe_op op_zMul pe_int (pe_callB call_lenZ (by rfl) T.b_len (by decide +kernel) (pa_cons (pv 0) pa_nil)))) (pe_op op_zMul pe_int (pe_callB call_lenZ (by rfl) T.b_len (by decide +kernel) (pa_cons (pv 1) pa_nil)))))
    (pss_cons (ps_set (i := 4) nd rfl (by first | exact Or.inl rfl | exact Or.inr rfl) (pe_callZ0 C_beginning (hr.mono (by decide)) rfl))
    (pss_cons (ps_set (i := 5) nd rfl (by first | exact Or.inl rfl | exact Or.inr rfl) (pv 2))
    (pss_cons (ps_for PassesOwn.never rfl (pi_list (pv 0)) (pg_name (i := 6) nd rfl (by first | exact Or.inl rfl | exact Or.inr rfl)) (pss_cons (ps_expr (pe_bm PySem.F.plainAttrs_list PySem.F.slot_list_extend PySem.F.type_list_extend mt_extend (pv 4) (pa_cons (pe_callZ C_comparison (hr.mono (by decide)) rfl (pa_cons (pv 5) (pa_cons (pv 6) (pa_cons (pe_op op_zAdd (pv 3) pe_int) pa_nil)))) pa_nil)))
    (pss_one (ps_aug (i := 5) nd rfl (by first | exact Or.inl rfl | exact Or.inr rfl) pe_int ip_add))))
    (pss_cons (ps_for PassesOwn.never rfl (pi_list (pv 1)) (pg_name (i := 7) nd rfl (by first | exact Or.inl rfl | exact Or.inr rfl)) (pss_cons (ps_expr (pe_bm PySem.F.plainAttrs_list PySem.F.slot_list_extend PySem.F.type_list_extend mt_extend (pv 4) (pa_cons (pe_callZ C_writing (hr.mono (by decide)) rfl (pa_cons (pv 5) (pa_cons (pv 7) pa_nil))) pa_nil)))
    (pss_one (ps_aug (i := 5) nd rfl (by first | exact Or.inl rfl | exact Or.inr rfl) pe_int ip_add))))
    (pss_cons (ps_set (i := 8) nd rfl (by first | exact Or.inl rfl | exact Or.inr rfl) (pe_op op_zMul pe_int (pe_op op_zAdd (pe_op op_zAdd (pe_gi T.i_FIXED rfl) (pe_op op_zMul pe_int (pe_callB call_lenZ (by rfl) T.b_len (by decide +kernel) (pa_cons (pv 0) pa_nil)))) (pe_op op_zMul pe_int (pe_callB call_lenZ (by rfl) T.b_len (by decide +kernel) (pa_cons (pv 1) pa_nil))))))
    (pss_cons (ps_expr (pe_bm PySem.F.plainAttrs_list PySem.F.slot_list_extend PySem.F.type_list_extend mt_extend (pv 4) (pa_cons (pe_callZ C_copying (hr.mono (by decide)) rfl (pa_cons (pv 3) (pa_cons (pv 8) pa_nil))) pa_nil)))
    (pss_one (ps_ret (pv 4)))))))))))
/-! plant -/
abbrev st_plant : Stmt := top 32
abbrev N_plant : List PySem.Str := ["image", "lure", "extra"]
abbrev P_plant : List PySem.Str := ["image", "lure", "extra"]
theorem sc_plant : FnScope N_plant P_plant (defScope st_plant) := ⟨rfl, rfl, rfl, by decide +kernel, rfl, by decide +kernel, by decide +kernel⟩
def t_plant (K : PySem.W.Frag) (sp_is_trap : Sp) (sp_is_plantable : Sp) (sp_image_of : Sp) (sp_trap_nodes : Sp) (E : XK) : TS :=
  (tSeq (tIfS (tNot (tTruZ K (tCall sp_is_trap [] E0 (tCons (tVar 1) (tCons (tVar 2) tNil)))))
  (tRaiseO (xc K "BadTrap") (WO E))
  tNext)
  (tSeq (tIfS (tNot (tTruZ K (tCall sp_is_plantable [] E0 (tCons (tVar 0) tNil))))
  (tRaiseO (xc K "NotPlantable") (WO E))
  tNext)
  (tRet (tOp zAdd (tVar 0) (tCall sp_image_of [] E0 (tCons (tCall sp_trap_nodes [] E0 (tCons (tVar 1) (tCons (tVar 2) tNil))) tNil))))))
theorem dv_plant {P : Program} {w : World} {K : PySem.W.Frag} {mg : PySem.Str → Option Value} {base : Heap} {f : Addr} {cdv : Value} {A : Around} {outer : List PySem.Env} {s : Shared} {H : Hp} {E : XK} {sp_is_trap sp_is_plantable sp_image_of sp_trap_nodes : Sp} (T : Tx K mg) (C_is_trap : Has P w K mg base CX0 1 "is_trap" P_is_trap sp_is_trap) (C_is_plantable : Has P w K mg base CX0 2 "is_plantable" P_is_plantable sp_is_plantable) (C_image_of : Has P w K mg base CX0 1 "image_of" P_image_of sp_image_of) (C_trap_nodes : Has P w K mg base CX0 2 "trap_nodes" P_trap_nodes sp_trap_nodes)
    (hr : Room 2 (A.deeper (envOfC "plant" (defScope st_plant) s.heap.objs.size f cdv))) : PSs (cxOf (L2.CX P w) P w K mg base N_plant "plant" (defScope st_plant) f cdv A outer s H E) (defBody st_plant) (t_plant K sp_is_trap sp_is_plantable sp_image_of sp_trap_nodes E) := by
  have nd := sc_plant.nd
  have hu := hu_of hr
  exact (pss_cons (ps_if (pt_not (pt_truth (pe_callZ C_is_trap (hr.mono (by decide)) rfl (pa_cons (pv 1) (pa_cons (pv 2) pa_nil))) (by intro _; rfl))) (pss_one (ps_raiseO rfl (takesO rfl rfl rfl rfl) T.x_BadTrap rfl)) pss_nil)
    (pss_cons (ps_if (pt_not (pt_truth (pe_callZ C_is_plantable (hr.mono (by decide)) rfl (pa_cons (pv 0) pa_nil)) (by intro _; rfl))) (pss_one (ps_raiseO rfl (takesO rfl rfl rfl rfl) T.x_NotPlantable rfl)) pss_nil)
    (pss_one (ps_ret (pe_op op_zAdd (pv 0) (pe_callZ C_image_of (hr.mono (by decide)) rfl (pa_cons (pe_callZ C_trap_nodes (hr.mono (by decide)) rfl (pa_cons (pv 1) (pa_cons (pv 2) pa_nil))) pa_nil)))))))
/-! parts_of -/
abbrev st_parts_of : Stmt := top 33
abbrev N_parts_of : List PySem.Str := ["tail", "lures", "extras", "at", "lure", "_", "extra"]
abbrev P_parts_of : List PySem.Str := ["tail", "lures", "extras"]
theorem sc_parts_of : FnScope N_parts_of P_parts_of (defScope st_parts_of) := ⟨rfl, rfl, rfl, by decide +kernel, rfl, by decide +kernel, by decide +kernel⟩
def t_parts_of (K : PySem.W.Frag) : TS :=
  (tSeq (tAsg (tC (.int 4)) (gName 3))
  (tSeq (tAsg (tLst tNil) (gName 4))
  (tSeq (tFor (iRng1 (tCons (tVar 1) tNil)) (gName 5)
  (tSeq (tDrop (tBM K "list" rAppend (tVar 4) (tCons (tOp (rIx K) (tOp (rIx K) (tVar 0) (tOp zAdd (tVar 3) (tC (.int 1)))) (tC (.int 2))) tNil)))
  (tAug 3 (tC (.int 4)) (ipI fun i j => i + j))))
  (tSeq (tAsg (tLst tNil) (gName 6))
  (tSeq (tFor (iRng1 (tCons (tVar 2) tNil)) (gName 5)
  (tSeq (tDrop (tBM K "list" rAppend (tVar 6) (tCons (tOp (rIx K) (tOp (rIx K) (tVar 0) (tVar 3)) (tC (.int 2))) tNil)))
  (tAug 3 (tC (.int 2)) (ipI fun i j => i + j))))
  (tRet (tTup (tCons (tVar 4) (tCons (tVar 6) tNil)))))))))
theorem dv_parts_of {P : Program} {w : World} {K : PySem.W.Frag} {mg : PySem.Str → Option Value} {base : Heap} {f : Addr} {cdv : Value} {A : Around} {outer : List PySem.Env} {s : Shared} {H : Hp} {E : XK} (T : Tx K mg)
    (hr : Room 0 (A.deeper (envOfC "parts_of" (defScope st_parts_of) s.heap.objs.size f cdv))) : PSs (cxOf CX0 P w K mg base N_parts_of "parts_of" (defScope st_parts_of) f cdv A outer s H E).nox (defBody st_parts_of) (t_parts_of K) := by
  have nd := sc_parts_of.nd
  have hu := hu_of hr
  exact (pss_cons (ps_set (i := 3) nd rfl (by first | exact Or.inl rfl | exact Or.inr rfl) pe_int)
    (pss_cons (ps_set (i := 4) nd rfl (by first | exact Or.inl rfl | exact Or.inr rfl) (pe_lst pa_nil))
    (pss_cons (ps_for PassesOwn.never rfl (pi_range1 rfl T.b_range (pa_cons (pv 1) pa_nil)) (pg_name (i := 5) nd rfl (by first | exact Or.inl rfl | exact Or.inr rfl)) (pss_cons (ps_expr (pe_bm PySem.F.plainAttrs_list PySem.F.slot_list_append PySem.F.type_list_append mt_append (pv 4) (pa_cons (pe_ix ix_seq (pe_ix ix_seq (pv 0) (pe_op op_zAdd (pv 3) pe_int) (fun _ _ => rfl)) pe_int (fun _ _ => rfl)) pa_nil)))
    (pss_one (ps_aug (i := 3) nd rfl (by first | exact Or.inl rfl | exact Or.inr rfl) pe_int ip_add))))
    (pss_cons (ps_set (i := 6) nd rfl (by first | exact Or.inl rfl | exact Or.inr rfl) (pe_lst pa_nil))
    (pss_cons (ps_for PassesOwn.never rfl (pi_range1 rfl T.b_range (pa_cons (pv 2) pa_nil)) (pg_name (i := 5) nd rfl (by first | exact Or.inl rfl | exact Or.inr rfl)) (pss_cons (ps_expr (pe_bm PySem.F.plainAttrs_list PySem.F.slot_list_append PySem.F.type_list_append mt_append (pv 6) (pa_cons (pe_ix ix_seq (pe_ix ix_seq (pv 0) (pv 3) (fun _ _ => rfl)) pe_int (fun _ _ => rfl)) pa_nil)))
    (pss_one (ps_aug (i := 3) nd rfl (by first | exact Or.inl rfl | exact Or.inr rfl) pe_int ip_add))))
    (pss_one (ps_ret (pe_tup (pa_cons (pv 4) (pa_cons (pv 6) pa_nil))))))))))
/-! trap_at_end -/
abbrev st_trap_at_end : Stmt := top 34
abbrev N_trap_at_end : List PySem.Str := ["image", "lures", "extras", "cells", "tail", "lure", "extra"]
abbrev P_trap_at_end : List PySem.Str := ["image", "lures", "extras"]
theorem sc_trap_at_end : FnScope N_trap_at_end P_trap_at_end (defScope st_trap_at_end) := ⟨rfl, rfl, rfl, by decide +kernel, rfl, by decide +kernel, by decide +kernel⟩
def t_trap_at_end (K : PySem.W.Frag) (sp_parts_of : Sp) (sp_nodes_of : Sp) (sp_is_trap : Sp) (sp_image_of : Sp) (sp_trap_nodes : Sp) (sp_is_plantable : Sp) : TS :=
  (tSeq (tAsg (tOp zMul (tC (.int 4)) (tOp zAdd (tOp zAdd (tC (.int 14)) (tOp zMul (tC (.int 4)) (tVar 1))) (tOp zMul (tC (.int 2)) (tVar 2)))) (gName 3))
  (tSeq (tIfS (tTest (tOp zLt (tCB (rLenZ K) (tCons (tVar 0) tNil)) (tOp zAdd (tVar 3) (tC (.int 4)))))
  (tRet (tC .non))
  tNext)
  (tSeq (tAsg (tSl (rSlL K) (tVar 0) (tPart (tOp zSub (tCB (rLenZ K) (tCons (tVar 0) tNil)) (tVar 3))) tNoPart) (gName 4))
  (tSeq (tAsg (tCall sp_parts_of [] E0 (tCons (tCall sp_nodes_of [] E0 (tCons (tVar 4) tNil)) (tCons (tVar 1) (tCons (tVar 2) tNil)))) (gTup K 2 (gCons (gName 5) (gCons (gName 6) gNil))))
  (tSeq (tIfS (tOr (tNot (tTruZ K (tCall sp_is_trap [] E0 (tCons (tVar 5) (tCons (tVar 6) tNil))))) (tTest (tOp (zNe K) (tCall sp_image_of [] E0 (tCons (tCall sp_trap_nodes [] E0 (tCons (tVar 5) (tCons (tVar 6) tNil))) tNil)) (tVar 4))))
  (tRet (tC .non))
  tNext)
  (tSeq (tIfS (tNot (tTruZ K (tCall sp_is_plantable [] E0 (tCons (tSl (rSlL K) (tVar 0) tNoPart (tPart (tOp zSub (tCB (rLenZ K) (tCons (tVar 0) tNil)) (tVar 3)))) tNil))))
  (tRet (tC .non))
  tNext)
  (tRet (tTup (tCons (tVar 5) (tCons (tVar 6) tNil))))))))))
theorem dv_trap_at_end {P : Program} {w : World} {K : PySem.W.Frag} {mg : PySem.Str → Option Value} {base : Heap} {f : Addr} {cdv : Value} {A : Around} {outer : List PySem.Env} {s : Shared} {H : Hp} {E : XK} {sp_parts_of sp_nodes_of sp_is_trap sp_image_of sp_trap_nodes sp_is_plantable : Sp} (T : Tx K mg) (C_parts_of : Has P w K mg base CX0 1 "parts_of" P_parts_of sp_parts_of) (C_nodes_of : Has P w K mg base CX0 1 "nodes_of" P_nodes_of sp_nodes_of) (C_is_trap : Has P w K mg base CX0 1 "is_trap" P_is_trap sp_is_trap) (C_image_of : Has P w K mg base CX0 1 "image_of" P_image_of sp_image_of) (C_trap_nodes : Has P w K mg base CX0 2 "trap_nodes" P_trap_nodes sp_trap_nodes) (C_is_plantable : Has P w K mg base CX0 2 "is_plantable" P_is_plantable sp_is_plantable)
    (hr : Room 2 (A.deeper (envOfC "trap_at_end" (defScope st_trap_at_end) s.heap.objs.size f cdv))) : PSs (cxOf CX0 P w K mg base N_trap_at_end "trap_at_end" (defScope st_trap_at_end) f cdv A outer s H E).nox (defBody st_trap_at_end) (t_trap_at_end K sp_parts_of sp_nodes_of sp_is_trap sp_image_of sp_trap_nodes sp_is_plantable) := by
  have nd := sc_trap_at_end.nd
  have hu := hu_of hr
  exact (pss_cons (ps_set (i := 3) nd rfl (by first | exact Or.inl rfl | exact Or.inr rfl) (pe_op op_zMul pe_int (pe_op op_zAdd (pe_op op_zAdd (pe_gi T.i_FIXED rfl) (pe_op op_zMul pe_int (pv 1))) (pe_op op_zMul pe_int (pv 2)))))
    (pss_cons (ps_if (pt_cmpR op_zLt (pe_callB call_lenZ (by rfl) T.b_len (by decide +kernel) (pa_cons (pv 0) pa_nil)) (pe_op op_zAdd (pv 3) pe_int) (nomark _)) (pss_one (ps_ret pe_non)) pss_nil)
    (pss_cons (ps_set (i := 4) nd rfl (by first | exact Or.inl rfl | exact Or.inr rfl) (pe_slice sl_list (pv 0) (po_some (pe_op op_zSub (pe_callB call_lenZ (by rfl) T.b_len (by decide +kernel) (pa_cons (pv 0) pa_nil)) (pv 3))) po_none))
    (pss_cons (ps_asg (pe_callZ C_parts_of (hr.mono (by decide)) rfl (pa_cons (pe_callZ C_nodes_of (hr.mono (by decide)) rfl (pa_cons (pv 4) pa_nil)) (pa_cons (pv 1) (pa_cons (pv 2) pa_nil)))) (pg_tup (by rfl) (pgs_cons (pg_name (i := 5) nd rfl (by first | exact Or.inl rfl | exact Or.inr rfl)) (pgs_cons (pg_name (i := 6) nd rfl (by first | exact Or.inl rfl | exact Or.inr rfl)) pgs_nil))))
    (pss_cons (ps_if (PW.pt (pw_or (pt_not (pt_truth (pe_callZ C_is_trap (hr.mono (by decide)) rfl (pa_cons (pv 5) (pa_cons (pv 6) pa_nil))) (by intro _; rfl))) (pw_or1 (pt_cmpR (op_zNe hr.units) (pe_callZ C_image_of (hr.mono (by decide)) rfl (pa_cons (pe_callZ C_trap_nodes (hr.mono (by decide)) rfl (pa_cons (pv 5) (pa_cons (pv 6) pa_nil))) pa_nil)) (pv 4) (nomark _))))) (pss_one (ps_ret pe_non)) pss_nil)
    (pss_cons (ps_if (pt_not (pt_truth (pe_callZ C_is_plantable (hr.mono (by decide)) rfl (pa_cons (pe_slice sl_list (pv 0) po_none (po_some (pe_op op_zSub (pe_callB call_lenZ (by rfl) T.b_len (by decide +kernel) (pa_cons (pv 0) pa_nil)) (pv 3)))) pa_nil)) (by intro _; rfl))) (pss_one (ps_ret pe_non)) pss_nil)
    (pss_one (ps_ret (pe_tup (pa_cons (pv 5) (pa_cons (pv 6) pa_nil)))))))))))
/-! planted -/
abbrev st_planted : Stmt := top 35
abbrev N_planted : List PySem.Str := ["image", "lures", "extras", "found"]
abbrev P_planted : List PySem.Str := ["image"]
theorem sc_planted : FnScope N_planted P_planted (defScope st_planted) := ⟨rfl, rfl, rfl, by decide +kernel, rfl, by decide +kernel, by decide +kernel⟩
def t_planted (K : PySem.W.Frag) (sp_trap_at_end : Sp) : TS :=
  (tSeq (tIfS (tTest (tOp (zNe K) (tOp zMod (tCB (rLenZ K) (tCons (tVar 0) tNil)) (tC (.int 4))) (tC (.int 0))))
  (tRet (tC .non))
  tNext)
  (tSeq (tFor (iRng2 (tCons (tC (.int 1)) (tCons (tOp zAdd (tC (.int 12)) (tC (.int 1))) tNil))) (gName 1)
  (tFor (iRng3 (tCons (tC (.int 0)) (tCons (tOp zAdd (tC (.int 24)) (tC (.int 1))) (tCons (tC (.int 4)) tNil)))) (gName 2)
  (tSeq (tAsg (tCall sp_trap_at_end [] E0 (tCons (tVar 0) (tCons (tVar 1) (tCons (tVar 2) tNil)))) (gName 3))
  (tIfS (tTest (tOp zIsNot (tVar 3) (tC .non)))
  (tRet (tVar 3))
  tNext))))
  (tRet (tC .non))))
theorem dv_planted {P : Program} {w : World} {K : PySem.W.Frag} {mg : PySem.Str → Option Value} {base : Heap} {f : Addr} {cdv : Value} {A : Around} {outer : List PySem.Env} {s : Shared} {H : Hp} {E : XK} {sp_trap_at_end : Sp} (T : Tx K mg) (C_trap_at_end : Has P w K mg base CX0 3 "trap_at_end" P_trap_at_end sp_trap_at_end)
    (hr : Room 3 (A.deeper (envOfC "planted" (defScope st_planted) s.heap.objs.size f cdv))) : PSs (cxOf CX0 P w K mg base N_planted "planted" (defScope st_planted) f cdv A outer s H E).nox (defBody st_planted) (t_planted K sp_trap_at_end) := by
  have nd := sc_planted.nd
  have hu := hu_of hr
  exact (pss_cons (ps_if (pt_cmpR (op_zNe hr.units) (pe_op op_zMod (pe_callB call_lenZ (by rfl) T.b_len (by decide +kernel) (pa_cons (pv 0) pa_nil)) pe_int) pe_int (nomark _)) (pss_one (ps_ret pe_non)) pss_nil)
    (pss_cons (ps_for PassesOwn.never rfl (pi_range2 rfl T.b_range (pa_cons pe_int (pa_cons (pe_op op_zAdd (pe_gi T.i_MOST_LURE rfl) pe_int) pa_nil))) (pg_name (i := 1) nd rfl (by first | exact Or.inl rfl | exact Or.inr rfl)) (pss_one (ps_for PassesOwn.never rfl (pi_range3 rfl T.b_range (pa_cons pe_int (pa_cons (pe_op op_zAdd (pe_gi T.i_MOST_EXTRA rfl) pe_int) (pa_cons pe_int pa_nil)))) (pg_name (i := 2) nd rfl (by first | exact Or.inl rfl | exact Or.inr rfl)) (pss_cons (ps_set (i := 3) nd rfl (by first | exact Or.inl rfl | exact Or.inr rfl) (pe_callZ C_trap_at_end (hr.mono (by decide)) rfl (pa_cons (pv 0) (pa_cons (pv 1) (pa_cons (pv 2) pa_nil)))))
    (pss_one (ps_if (pt_cmpR op_zIsNot (pv 3) pe_non (nomark _)) (pss_one (ps_ret (pv 3))) pss_nil))))))
    (pss_one (ps_ret pe_non))))
/-! cleaned -/
abbrev st_cleaned : Stmt := top 36
abbrev N_cleaned : List PySem.Str := ["image", "found", "cells", "lure", "extra"]
abbrev P_cleaned : List PySem.Str := ["image"]
theorem sc_cleaned : FnScope N_cleaned P_cleaned (defScope st_cleaned) := ⟨rfl, rfl, rfl, by decide +kernel, rfl, by decide +kernel, by decide +kernel⟩
def t_cleaned (K : PySem.W.Frag) (sp_planted : Sp) (E : XK) : TS :=
  (tSeq (tAsg (tCall sp_planted [] E0 (tCons (tVar 0) tNil)) (gName 1))
  (tSeq (tIfS (tTest (tOp zIs (tVar 1) (tC .non)))
  (tRaiseO (xc K "NotPlanted") (WO E))
  tNext)
  (tSeq (tAsg (tVar 1) (gTup K 2 (gCons (gName 3) (gCons (gName 4) gNil))))
  (tSeq (tAsg (tOp zMul (tC (.int 4)) (tOp zAdd (tOp zAdd (tC (.int 14)) (tOp zMul (tC (.int 4)) (tCB (rLenZ K) (tCons (tVar 3) tNil)))) (tOp zMul (tC (.int 2)) (tCB (rLenZ K) (tCons (tVar 4) tNil))))) (gName 2))
  (tRet (tSl (rSlL K) (tVar 0) tNoPart (tPart (tOp zSub (tCB (rLenZ K) (tCons (tVar 0) tNil)) (tVar 2)))))))))
theorem dv_cleaned {P : Program} {w : World} {K : PySem.W.Frag} {mg : PySem.Str → Option Value} {base : Heap} {f : Addr} {cdv : Value} {A : Around} {outer : List PySem.Env} {s : Shared} {H : Hp} {E : XK} {sp_planted : Sp} (T : Tx K mg) (C_planted : Has P w K mg base CX0 4 "planted" P_planted sp_planted)
    (hr : Room 4 (A.deeper (envOfC "cleaned" (defScope st_cleaned) s.heap.objs.size f cdv))) : PSs (cxOf (L2.CX P w) P w K mg base N_cleaned "cleaned" (defScope st_cleaned) f cdv A outer s H E) (defBody st_cleaned) (t_cleaned K sp_planted E) := by
  have nd := sc_cleaned.nd
  have hu := hu_of hr
  exact (pss_cons (ps_set (i := 1) nd rfl (by first | exact Or.inl rfl | exact Or.inr rfl) (pe_callZ C_planted (hr.mono (by decide)) rfl (pa_cons (pv 0) pa_nil)))
    (pss_cons (ps_if (pt_cmpR op_zIs (pv 1) pe_non (nomark _)) (pss_one (ps_raiseO rfl (takesO rfl rfl rfl rfl) T.x_NotPlanted rfl)) pss_nil)
    (pss_cons (ps_asg (pv 1) (pg_tup (by rfl) (pgs_cons (pg_name (i := 3) nd rfl (by first | exact Or.inl rfl | exact Or.inr rfl)) (pgs_cons (pg_name (i := 4) nd rfl (by first | exact Or.inl rfl | exact Or.inr rfl)) pgs_nil))))
    (pss_cons (ps_set (i := 2) nd rfl (by first | exact Or.inl rfl | exact Or.inr rfl) (pe_op op_zMul pe_int (pe_op op_zAdd (pe_op op_zAdd (pe_gi T.i_FIXED rfl) (pe_op op_zMul pe_int (pe_callB call_lenZ (by rfl) T.b_len (by decide +kernel) (pa_cons (pv 3) pa_nil)))) (pe_op op_zMul pe_int (pe_callB call_lenZ (by rfl) T.b_len (by decide +kernel) (pa_cons (pv 4) pa_nil))))))
    (pss_one (ps_ret (pe_slice sl_list (pv 0) po_none (po_some (pe_op op_zSub (pe_callB call_lenZ (by rfl) T.b_len (by decide +kernel) (pa_cons (pv 0) pa_nil)) (pv 2))))))))))
/-! _law_number -/
abbrev st_u_law_number : Stmt := top 38
abbrev N_u_law_number : List PySem.Str := ["_law_cell"]
abbrev P_u_law_number : List PySem.Str := ["_law_cell"]
theorem sc_u_law_number : FnScope N_u_law_number P_u_law_number (defScope st_u_law_number) := ⟨rfl, rfl, rfl, by decide +kernel, rfl, by decide +kernel, by decide +kernel⟩
def t_u_law_number (K : PySem.W.Frag) : TS :=
  (tSeq (tIfS (tTest (tOp zLt (tVar 0) (tC (.int 0))))
  (tRet (tOp zSub (tC (.int 0)) (tVar 0)))
  tNext)
  (tRet (tVar 0)))
theorem dv_u_law_number {P : Program} {w : World} {K : PySem.W.Frag} {mg : PySem.Str → Option Value} {base : Heap} {f : Addr} {cdv : Value} {A : Around} {outer : List PySem.Env} {s : Shared} {H : Hp} {E : XK} (T : Tx K mg)
    (hr : Room 0 (A.deeper (envOfC "_law_number" (defScope st_u_law_number) s.heap.objs.size f cdv))) : PSs (cxOf CX0 P w K mg base N_u_law_number "_law_number" (defScope st_u_law_number) f cdv A outer s H E).nox (defBody st_u_law_number) (t_u_law_number K) := by
  have nd := sc_u_law_number.nd
  have hu := hu_of hr
  exact (pss_cons (ps_if (pt_cmpR op_zLt (pv 0) pe_int (nomark _)) (pss_one (ps_ret (pe_op op_zSub pe_int (pv 0)))) pss_nil)
    (pss_one (ps_ret (pv 0))))
/-! _law_draws -/
abbrev st_u_law_draws : Stmt := top 39
abbrev N_u_law_draws : List PySem.Str := ["_law_script", "_law_draws_here", "_law_cell", "_law_rest", "_law_k", "_law_once", "_law_twice"]
abbrev P_u_law_draws : List PySem.Str := ["_law_script"]
theorem sc_u_law_draws : FnScope N_u_law_draws P_u_law_draws (defScope st_u_law_draws) := ⟨rfl, rfl, rfl, by decide +kernel, rfl, by decide +kernel, by decide +kernel⟩
def t_u_law_draws (K : PySem.W.Frag) (sp_u_law_number : Sp) : TS :=
  (tSeq (tAsg (tLst tNil) (gName 1))
  (tSeq (tFor (iList K (tVar 0)) (gName 2)
  (tSeq (tAsg (tCall sp_u_law_number [] E0 (tCons (tVar 2) tNil)) (gName 3))
  (tIfS (tTest (tOp zGe (tVar 3) (tC (.int 1000000000000000000))))
  (tFor (iRng1 (tCons (tC (.int 60)) tNil)) (gName 4)
  (tSeq (tIfS (tTest (tOp (zEq K) (tVar 3) (tC (.int 0))))
  tBreak
  tNext)
  (tSeq (tDrop (tBM K "list" rAppend (tVar 1) (tCons (tOp zMod (tCB (rIntZ) (tCons (tVar 3) tNil)) (tC (.int 1000))) tNil)))
  (tAsg (tOp zDiv (tVar 3) (tC (.int 1000))) (gName 3)))))
  (tSeq (tAsg (tOp zMod (tCB (rIntZ) (tCons (tOp zAdd (tOp zMul (tVar 3) (tC (.int 48271))) (tC (.int 11))) tNil)) (tC (.int 2147483647))) (gName 5))
  (tSeq (tAsg (tOp zMod (tCB (rIntZ) (tCons (tOp zAdd (tOp zMul (tVar 5) (tC (.int 69621))) (tVar 3)) tNil)) (tC (.int 2147483629))) (gName 6))
  (tDrop (tBM K "list" rExtend (tVar 1) (tCons (tLst (tCons (tOp zMod (tCB (rIntZ) (tCons (tVar 3) tNil)) (tC (.int 1000))) (tCons (tOp zMod (tCB (rIntZ) (tCons (tVar 5) tNil)) (tC (.int 1000))) (tCons (tOp zMod (tCB (rIntZ) (tCons (tVar 6) tNil)) (tC (.int 1000))) tNil)))) tNil))))))))
  (tRet (tVar 1))))
theorem dv_u_law_draws {P : Program} {w : World} {K : PySem.W.Frag} {mg : PySem.Str → Option Value} {base : Heap} {f : Addr} {cdv : Value} {A : Around} {outer : List PySem.Env} {s : Shared} {H : Hp} {E : XK} {sp_u_law_number : Sp} (T : Tx K mg) (C_u_law_number : Has P w K mg base CX0 1 "_law_number" P_u_law_number sp_u_law_number)
    (hr : Room 1 (A.deeper (envOfC "_law_draws" (defScope st_u_law_draws) s.heap.objs.size f cdv))) : PSs (cxOf CX0 P w K mg base N_u_law_draws "_law_draws" (defScope st_u_law_draws) f cdv A outer s H E).nox (defBody st_u_law_draws) (t_u_law_draws K sp_u_law_number) := by
  have nd := sc_u_law_draws.nd
  have hu := hu_of hr
  exact (pss_cons (ps_set (i := 1) nd rfl (by first | exact Or.inl rfl | exact Or.inr rfl) (pe_lst pa_nil))
    (pss_cons (ps_for PassesOwn.never rfl (pi_list (pv 0)) (pg_name (i := 2) nd rfl (by first | exact Or.inl rfl | exact Or.inr rfl)) (pss_cons (ps_set (i := 3) nd rfl (by first | exact Or.inl rfl | exact Or.inr rfl) (pe_callZ C_u_law_number (hr.mono (by decide)) rfl (pa_cons (pv 2) pa_nil)))
    (pss_one (ps_if (pt_cmpR op_zGe (pv 3) pe_int (nomark _)) (pss_one (ps_for PassesOwn.never rfl (pi_range1 rfl T.b_range (pa_cons pe_int pa_nil)) (pg_name (i := 4) nd rfl (by first | exact Or.inl rfl | exact Or.inr rfl)) (pss_cons (ps_if (pt_cmpR (op_zEq hr.units) (pv 3) pe_int (nomark _)) (pss_one ps_break) pss_nil)
    (pss_cons (ps_expr (pe_bm PySem.F.plainAttrs_list PySem.F.slot_list_append PySem.F.type_list_append mt_append (pv 1) (pa_cons (pe_op op_zMod (pe_callTy call_intZ (by rfl) T.b_int (by decide +kernel) (pa_cons (pv 3) pa_nil)) pe_int) pa_nil)))
    (pss_one (ps_set (i := 3) nd rfl (by first | exact Or.inl rfl | exact Or.inr rfl) (pe_op op_zDiv (pv 3) pe_int))))))) (pss_cons (ps_set (i := 5) nd rfl (by first | exact Or.inl rfl | exact Or.inr rfl) (pe_op op_zMod (pe_callTy call_intZ (by rfl) T.b_int (by decide +kernel) (pa_cons (pe_op op_zAdd (pe_op op_zMul (pv 3) pe_int) pe_int) pa_nil)) pe_int))
    (pss_cons (ps_set (i := 6) nd rfl (by first | exact Or.inl rfl | exact Or.inr rfl) (pe_op op_zMod (pe_callTy call_intZ (by rfl) T.b_int (by decide +kernel) (pa_cons (pe_op op_zAdd (pe_op op_zMul (pv 5) pe_int) (pv 3)) pa_nil)) pe_int))
    (pss_one (ps_expr (pe_bm PySem.F.plainAttrs_list PySem.F.slot_list_extend PySem.F.type_list_extend mt_extend (pv 1) (pa_cons (pe_lst (pa_cons (pe_op op_zMod (pe_callTy call_intZ (by rfl) T.b_int (by decide +kernel) (pa_cons (pv 3) pa_nil)) pe_int) (pa_cons (pe_op op_zMod (pe_callTy call_intZ (by rfl) T.b_int (by decide +kernel) (pa_cons (pv 5) pa_nil)) pe_int) (pa_cons (pe_op op_zMod (pe_callTy call_intZ (by rfl) T.b_int (by decide +kernel) (pa_cons (pv 6) pa_nil)) pe_int) pa_nil)))) pa_nil))))))))))
    (pss_one (ps_ret (pv 1)))))
/-! _law_next -/
abbrev st_u_law_next : Stmt := top 40
abbrev N_u_law_next : List PySem.Str := ["_law_draws_here"]
abbrev P_u_law_next : List PySem.Str := ["_law_draws_here"]
theorem sc_u_law_next : FnScope N_u_law_next P_u_law_next (defScope st_u_law_next) := ⟨rfl, rfl, rfl, by decide +kernel, rfl, by decide +kernel, by decide +kernel⟩
def t_u_law_next (K : PySem.W.Frag) : TS :=
  (tSeq (tIfS (tTruZ K (tVar 0))
  (tRet (tBM0 K "list" rPop (tVar 0)))
  tNext)
  (tRet (tC (.int 0))))
theorem dv_u_law_next {P : Program} {w : World} {K : PySem.W.Frag} {mg : PySem.Str → Option Value} {base : Heap} {f : Addr} {cdv : Value} {A : Around} {outer : List PySem.Env} {s : Shared} {H : Hp} {E : XK} (T : Tx K mg)
    (hr : Room 0 (A.deeper (envOfC "_law_next" (defScope st_u_law_next) s.heap.objs.size f cdv))) : PSs (cxOf CX0 P w K mg base N_u_law_next "_law_next" (defScope st_u_law_next) f cdv A outer s H E).nox (defBody st_u_law_next) (t_u_law_next K) := by
  have nd := sc_u_law_next.nd
  have hu := hu_of hr
  exact (pss_cons (ps_if (pt_truth (pv 0) (by intro _; rfl)) (pss_one (ps_ret (pe_bm0 PySem.F.plainAttrs_list PySem.F.slot_list_pop PySem.F.type_list_pop mt_pop (pv 0)))) pss_nil)
    (pss_one (ps_ret pe_int)))
/-! _law_trap -/
abbrev st_u_law_trap : Stmt := top 41
abbrev N_u_law_trap : List PySem.Str := ["_law_lure", "_law_extra", "_law_b", "_law_nodes", "_law_p", "_law_r", "_law_end", "_law_code", "_law_number_here", "_law_cells", "_law_image_here", "_law_node"]
abbrev P_u_law_trap : List PySem.Str := ["_law_lure", "_law_extra"]
theorem sc_u_law_trap : FnScope N_u_law_trap P_u_law_trap (defScope st_u_law_trap) := ⟨rfl, rfl, rfl, by decide +kernel, rfl, by decide +kernel, by decide +kernel⟩
def t_u_law_trap (K : PySem.W.Frag) : TS :=
  (tSeq (tAsg (tC (.int 1000000)) (gName 2))
  (tSeq (tAsg (tLst (tCons (tTup (tCons (tC (.int 0)) (tCons (tC (.int 35)) (tCons (tC (.int 3)) (tCons (tVar 2) tNil))))) (tCons (tTup (tCons (tVar 2) (tCons (tC (.int 38)) (tCons (tC (.int 0)) (tCons (tOp zAdd (tVar 2) (tC (.int 1))) tNil))))) (tCons (tTup (tCons (tOp zAdd (tVar 2) (tC (.int 1))) (tCons (tC (.int 40)) (tCons (tC (.int 0)) (tCons (tOp zAdd (tVar 2) (tC (.int 2))) tNil))))) (tCons (tTup (tCons (tOp zAdd (tVar 2) (tC (.int 2))) (tCons (tC (.int 94)) (tCons (tC (.int 0)) (tCons (tOp zAdd (tVar 2) (tC (.int 3))) tNil))))) tNil))))) (gName 3))
  (tSeq (tAsg (tOp zAdd (tVar 2) (tC (.int 3))) (gName 4))
  (tSeq (tAsg (tOp zAdd (tOp zAdd (tVar 4) (tOp zMul (tC (.int 4)) (tCB (rLenZ K) (tCons (tVar 0) tNil)))) (tOp zMul (tC (.int 2)) (tCB (rLenZ K) (tCons (tVar 1) tNil)))) (gName 5))
  (tSeq (tAsg (tOp zAdd (tVar 5) (tC (.int 9))) (gName 6))
  (tSeq (tFor (iList K (tVar 0)) (gName 7)
  (tSeq (tDrop (tBM K "list" rExtend (tVar 3) (tCons (tLst (tCons (tTup (tCons (tVar 4) (tCons (tC (.int 44)) (tCons (tC (.int 0)) (tCons (tOp zAdd (tVar 4) (tC (.int 1))) tNil))))) (tCons (tTup (tCons (tOp zAdd (tVar 4) (tC (.int 1))) (tCons (tC (.int 35)) (tCons (tVar 7) (tCons (tOp zAdd (tVar 4) (tC (.int 2))) tNil))))) (tCons (tTup (tCons (tOp zAdd (tVar 4) (tC (.int 2))) (tCons (tC (.int 126)) (tCons (tC (.int 0)) (tCons (tOp zAdd (tVar 4) (tC (.int 3))) tNil))))) (tCons (tTup (tCons (tOp zAdd (tVar 4) (tC (.int 3))) (tCons (tC (.int 63)) (tCons (tVar 6) (tCons (tOp zAdd (tVar 4) (tC (.int 4))) tNil))))) tNil))))) tNil)))
  (tAsg (tOp zAdd (tVar 4) (tC (.int 4))) (gName 4))))
  (tSeq (tFor (iList K (tVar 1)) (gName 8)
  (tSeq (tDrop (tBM K "list" rExtend (tVar 3) (tCons (tLst (tCons (tTup (tCons (tVar 4) (tCons (tC (.int 35)) (tCons (tVar 8) (tCons (tOp zAdd (tVar 4) (tC (.int 1))) tNil))))) (tCons (tTup (tCons (tOp zAdd (tVar 4) (tC (.int 1))) (tCons (tC (.int 46)) (tCons (tC (.int 0)) (tCons (tOp zAdd (tVar 4) (tC (.int 2))) tNil))))) tNil))) tNil)))
  (tAsg (tOp zAdd (tVar 4) (tC (.int 2))) (gName 4))))
  (tSeq (tAsg (tOp zMul (tC (.int 4)) (tOp zAdd (tCB (rLenZ K) (tCons (tVar 3) tNil)) (tC (.int 10)))) (gName 9))
  (tSeq (tDrop (tBM K "list" rExtend (tVar 3) (tCons (tLst (tCons (tTup (tCons (tVar 5) (tCons (tC (.int 35)) (tCons (tOp zSub (tC (.int 0)) (tVar 9)) (tCons (tOp zAdd (tVar 5) (tC (.int 1))) tNil))))) (tCons (tTup (tCons (tOp zAdd (tVar 5) (tC (.int 1))) (tCons (tC (.int 34)) (tCons (tC (.int 0)) (tCons (tOp zAdd (tVar 5) (tC (.int 2))) tNil))))) (tCons (tTup (tCons (tOp zAdd (tVar 5) (tC (.int 2))) (tCons (tC (.int 38)) (tCons (tC (.int 0)) (tCons (tOp zAdd (tVar 5) (tC (.int 3))) tNil))))) (tCons (tTup (tCons (tOp zAdd (tVar 5) (tC (.int 3))) (tCons (tC (.int 46)) (tCons (tC (.int 0)) (tCons (tOp zAdd (tVar 5) (tC (.int 4))) tNil))))) tNil))))) tNil)))
  (tSeq (tDrop (tBM K "list" rExtend (tVar 3) (tCons (tLst (tCons (tTup (tCons (tOp zAdd (tVar 5) (tC (.int 4))) (tCons (tC (.int 35)) (tCons (tC (.int 1)) (tCons (tOp zAdd (tVar 5) (tC (.int 5))) tNil))))) (tCons (tTup (tCons (tOp zAdd (tVar 5) (tC (.int 5))) (tCons (tC (.int 43)) (tCons (tC (.int 0)) (tCons (tOp zAdd (tVar 5) (tC (.int 6))) tNil))))) (tCons (tTup (tCons (tOp zAdd (tVar 5) (tC (.int 6))) (tCons (tC (.int 34)) (tCons (tC (.int 0)) (tCons (tOp zAdd (tVar 5) (tC (.int 7))) tNil))))) (tCons (tTup (tCons (tOp zAdd (tVar 5) (tC (.int 7))) (tCons (tC (.int 63)) (tCons (tOp zAdd (tVar 5) (tC (.int 8))) (tCons (tOp zAdd (tVar 5) (tC (.int 1))) tNil))))) tNil))))) tNil)))
  (tSeq (tDrop (tBM K "list" rExtend (tVar 3) (tCons (tLst (tCons (tTup (tCons (tOp zAdd (tVar 5) (tC (.int 8))) (tCons (tC (.int 95)) (tCons (tC (.int 0)) (tCons (tVar 6) tNil))))) (tCons (tTup (tCons (tVar 6) (tCons (tC (.int 41)) (tCons (tC (.int 0)) (tCons (tOp zAdd (tVar 6) (tC (.int 1))) tNil))))) tNil))) tNil)))
  (tSeq (tAsg (tLst tNil) (gName 10))
  (tSeq (tFor (iList K (tVar 3)) (gName 11)
  (tDrop (tBM K "list" rExtend (tVar 10) (tCons (tLst (tCons (tOp (rIx K) (tVar 11) (tC (.int 0))) (tCons (tOp (rIx K) (tVar 11) (tC (.int 1))) (tCons (tOp (rIx K) (tVar 11) (tC (.int 2))) (tCons (tOp (rIx K) (tVar 11) (tC (.int 3))) tNil))))) tNil))))
  (tRet (tVar 10)))))))))))))))
theorem dv_u_law_trap {P : Program} {w : World} {K : PySem.W.Frag} {mg : PySem.Str → Option Value} {base : Heap} {f : Addr} {cdv : Value} {A : Around} {outer : List PySem.Env} {s : Shared} {H : Hp} {E : XK} (T : Tx K mg)
    (hr : Room 0 (A.deeper (envOfC "_law_trap" (defScope st_u_law_trap) s.heap.objs.size f cdv))) : PSs (cxOf CX0 P w K mg base N_u_law_trap "_law_trap" (defScope st_u_law_trap) f cdv A outer s H E).nox (defBody st_u_law_trap) (t_u_law_trap K) := by
  have nd := sc_u_law_trap.nd
  have hu := hu_of hr
  exact (pss_cons (ps_set (i := 2) nd rfl (by first | exact Or.inl rfl | exact Or.inr rfl) pe_int)
    (pss_cons (ps_set (i := 3) nd rfl (by first | exact Or.inl rfl | exact Or.inr rfl) (pe_lst (pa_cons (pe_tup (pa_cons pe_int (pa_cons pe_int (pa_cons pe_int (pa_cons (pv 2) pa_nil))))) (pa_cons (pe_tup (pa_cons (pv 2) (pa_cons pe_int (pa_cons pe_int (pa_cons (pe_op op_zAdd (pv 2) pe_int) pa_nil))))) (pa_cons (pe_tup (pa_cons (pe_op op_zAdd (pv 2) pe_int) (pa_cons pe_int (pa_cons pe_int (pa_cons (pe_op op_zAdd (pv 2) pe_int) pa_nil))))) (pa_cons (pe_tup (pa_cons (pe_op op_zAdd (pv 2) pe_int) (pa_cons pe_int (pa_cons pe_int (pa_cons (pe_op op_zAdd (pv 2) pe_int) pa_nil))))) pa_nil))))))
    (pss_cons (ps_set (i := 4) nd rfl (by first | exact Or.inl rfl | exact Or.inr rfl) (pe_op op_zAdd (pv 2) pe_int))
    (pss_cons (ps_set (i := 5) nd rfl (by first | exact Or.inl rfl | exact Or.inr rfl) (pe_op op_zAdd (pe_op op_zAdd (pv 4) (pe_op op_zMul pe_int (pe_callB call_lenZ (by rfl) T.b_len (by decide +kernel) (pa_cons (pv 0) pa_nil)))) (pe_op op_zMul pe_int (pe_callB call_lenZ (by rfl) T.b_len (by decide +kernel) (pa_cons (pv 1) pa_nil)))))
    (pss_cons (ps_set (i := 6) nd rfl (by first | exact Or.inl rfl | exact Or.inr rfl) (pe_op op_zAdd (pv 5) pe_int))
    (pss_cons (ps_for PassesOwn.never rfl (pi_list (pv 0)) (pg_name (i := 7) nd rfl (by first | exact Or.inl rfl | exact Or.inr rfl)) (pss_cons (ps_expr (pe_bm PySem.F.plainAttrs_list PySem.F.slot_list_extend PySem.F.type_list_extend mt_extend (pv 3) (pa_cons (pe_lst (pa_cons (pe_tup (pa_cons (pv 4) (pa_cons pe_int (pa_cons pe_int (pa_cons (pe_op op_zAdd (pv 4) pe_int) pa_nil))))) (pa_cons (pe_tup (pa_cons (pe_op op_zAdd (pv 4) pe_int) (pa_cons pe_int (pa_cons (pv 7) (pa_cons (pe_op op_zAdd (pv 4) pe_int) pa_nil))))) (pa_cons (pe_tup (pa_cons (pe_op op_zAdd (pv 4) pe_int) (pa_cons pe_int (pa_cons pe_int (pa_cons (pe_op op_zAdd (pv 4) pe_int) pa_nil))))) (pa_cons (pe_tup (pa_cons (pe_op op_zAdd (pv 4) pe_int) (pa_cons pe_int (pa_cons (pv 6) (pa_cons (pe_op op_zAdd (pv 4) pe_int) pa_nil))))) pa_nil))))) pa_nil)))
    (pss_one (ps_set (i := 4) nd rfl (by first | exact Or.inl rfl | exact Or.inr rfl) (pe_op op_zAdd (pv 4) pe_int)))))
    (pss_cons (ps_for PassesOwn.never rfl (pi_list (pv 1)) (pg_name (i := 8) nd rfl (by first | exact Or.inl rfl | exact Or.inr rfl)) (pss_cons (ps_expr (pe_bm PySem.F.plainAttrs_list PySem.F.slot_list_extend PySem.F.type_list_extend mt_extend (pv 3) (pa_cons (pe_lst (pa_cons (pe_tup (pa_cons (pv 4) (pa_cons pe_int (pa_cons (pv 8) (pa_cons (pe_op op_zAdd (pv 4) pe_int) pa_nil))))) (pa_cons (pe_tup (pa_cons (pe_op op_zAdd (pv 4) pe_int) (pa_cons pe_int (pa_cons pe_int (pa_cons (pe_op op_zAdd (pv 4) pe_int) pa_nil))))) pa_nil))) pa_nil)))
    (pss_one (ps_set (i := 4) nd rfl (by first | exact Or.inl rfl | exact Or.inr rfl) (pe_op op_zAdd (pv 4) pe_int)))))
    (pss_cons (ps_set (i := 9) nd rfl (by first | exact Or.inl rfl | exact Or.inr rfl) (pe_op op_zMul pe_int (pe_op op_zAdd (pe_callB call_lenZ (by rfl) T.b_len (by decide +kernel) (pa_cons (pv 3) pa_nil)) pe_int)))
    (pss_cons (ps_expr (pe_bm PySem.F.plainAttrs_list PySem.F.slot_list_extend PySem.F.type_list_extend mt_extend (pv 3) (pa_cons (pe_lst (pa_cons (pe_tup (pa_cons (pv 5) (pa_cons pe_int (pa_cons (pe_op op_zSub pe_int (pv 9)) (pa_cons (pe_op op_zAdd (pv 5) pe_int) pa_nil))))) (pa_cons (pe_tup (pa_cons (pe_op op_zAdd (pv 5) pe_int) (pa_cons pe_int (pa_cons pe_int (pa_cons (pe_op op_zAdd (pv 5) pe_int) pa_nil))))) (pa_cons (pe_tup (pa_cons (pe_op op_zAdd (pv 5) pe_int) (pa_cons pe_int (pa_cons pe_int (pa_cons (pe_op op_zAdd (pv 5) pe_int) pa_nil))))) (pa_cons (pe_tup (pa_cons (pe_op op_zAdd (pv 5) pe_int) (pa_cons pe_int (pa_cons pe_int (pa_cons (pe_op op_zAdd (pv 5) pe_int) pa_nil))))) pa_nil))))) pa_nil)))
    (pss_cons (ps_expr (pe_bm PySem.F.plainAttrs_list PySem.F.slot_list_extend PySem.F.type_list_extend mt_extend (pv 3) (pa_cons (pe_lst (pa_cons (pe_tup (pa_cons (pe_op op_zAdd (pv 5) pe_int) (pa_cons pe_int (pa_cons pe_int (pa_cons (pe_op op_zAdd (pv 5) pe_int) pa_nil))))) (pa_cons (pe_tup (pa_cons (pe_op op_zAdd (pv 5) pe_int) (pa_cons pe_int (pa_cons pe_int (pa_cons (pe_op op_zAdd (pv 5) pe_int) pa_nil))))) (pa_cons (pe_tup (pa_cons (pe_op op_zAdd (pv 5) pe_int) (pa_cons pe_int (pa_cons pe_int (pa_cons (pe_op op_zAdd (pv 5) pe_int) pa_nil))))) (pa_cons (pe_tup (pa_cons (pe_op op_zAdd (pv 5) pe_int) (pa_cons pe_int (pa_cons (pe_op op_zAdd (pv 5) pe_int) (pa_cons (pe_op op_zAdd (pv 5) pe_int) pa_nil))))) pa_nil))))) pa_nil)))
    (pss_cons (ps_expr (pe_bm PySem.F.plainAttrs_list PySem.F.slot_list_extend PySem.F.type_list_extend mt_extend (pv 3) (pa_cons (pe_lst (pa_cons (pe_tup (pa_cons (pe_op op_zAdd (pv 5) pe_int) (pa_cons pe_int (pa_cons pe_int (pa_cons (pv 6) pa_nil))))) (pa_cons (pe_tup (pa_cons (pv 6) (pa_cons pe_int (pa_cons pe_int (pa_cons (pe_op op_zAdd (pv 6) pe_int) pa_nil))))) pa_nil))) pa_nil)))
    (pss_cons (ps_set (i := 10) nd rfl (by first | exact Or.inl rfl | exact Or.inr rfl) (pe_lst pa_nil))
    (pss_cons (ps_for PassesOwn.never rfl (pi_list (pv 3)) (pg_name (i := 11) nd rfl (by first | exact Or.inl rfl | exact Or.inr rfl)) (pss_one (ps_expr (pe_bm PySem.F.plainAttrs_list PySem.F.slot_list_extend PySem.F.type_list_extend mt_extend (pv 10) (pa_cons (pe_lst (pa_cons (pe_ix ix_seq (pv 11) pe_int (fun _ _ => rfl)) (pa_cons (pe_ix ix_seq (pv 11) pe_int (fun _ _ => rfl)) (pa_cons (pe_ix ix_seq (pv 11) pe_int (fun _ _ => rfl)) (pa_cons (pe_ix ix_seq (pv 11) pe_int (fun _ _ => rfl)) pa_nil))))) pa_nil)))))
    (pss_one (ps_ret (pv 10))))))))))))))))
/-! _law_is_integer -/
abbrev st_u_law_is_integer : Stmt := top 42
abbrev N_u_law_is_integer : List PySem.Str := ["_law_actual"]
abbrev P_u_law_is_integer : List PySem.Str := ["_law_actual"]
theorem sc_u_law_is_integer : FnScope N_u_law_is_integer P_u_law_is_integer (defScope st_u_law_is_integer) := ⟨rfl, rfl, rfl, by decide +kernel, rfl, by decide +kernel, by decide +kernel⟩
def t_u_law_is_integer (K : PySem.W.Frag) : TS :=
  (tRet (tAndV (tCB (rIsi K) (tCons (tVar 0) (tCons (tC (.ty "int")) tNil))) (tNotV (tCB (rIsi K) (tCons (tVar 0) (tCons (tC (.ty "bool")) tNil))))))
theorem dv_u_law_is_integer {P : Program} {w : World} {K : PySem.W.Frag} {mg : PySem.Str → Option Value} {base : Heap} {f : Addr} {cdv : Value} {A : Around} {outer : List PySem.Env} {s : Shared} {H : Hp} {E : XK} (T : Tx K mg)
    (hr : Room 0 (A.deeper (envOfC "_law_is_integer" (defScope st_u_law_is_integer) s.heap.objs.size f cdv))) : PSs (cxOf CX0 P w K mg base N_u_law_is_integer "_law_is_integer" (defScope st_u_law_is_integer) f cdv A outer s H E).nox (defBody st_u_law_is_integer) (t_u_law_is_integer K) := by
  have nd := sc_u_law_is_integer.nd
  have hu := hu_of hr
  exact (pss_one (ps_ret (pe_and (pe_callB call_isi (by rfl) T.b_isinstance (by decide +kernel) (pa_cons (pv 0) (pa_cons (pe_bltn (v := .ty "int") (by rfl) T.b_int (u := .type "int") (by decide +kernel) rfl) pa_nil))) (pe_one (pe_not (pe_callB call_isi (by rfl) T.b_isinstance (by decide +kernel) (pa_cons (pv 0) (pa_cons (pe_bltn (v := .ty "bool") (by rfl) T.b_bool (u := .type "bool") (by decide +kernel) rfl) pa_nil))))))))
/-! _law_is_integers -/
abbrev st_u_law_is_integers : Stmt := top 43
abbrev N_u_law_is_integers : List PySem.Str := ["_law_actual", "_law_number_here"]
abbrev P_u_law_is_integers : List PySem.Str := ["_law_actual"]
theorem sc_u_law_is_integers : FnScope N_u_law_is_integers P_u_law_is_integers (defScope st_u_law_is_integers) := ⟨rfl, rfl, rfl, by decide +kernel, rfl, by decide +kernel, by decide +kernel⟩
def t_u_law_is_integers (K : PySem.W.Frag) (sp_u_law_is_integer : Sp) : TS :=
  (tSeq (tIfS (tNot (tTruZ K (tCB (rIsi K) (tCons (tVar 0) (tCons (tC (.ty "list")) tNil)))))
  (tRet (tC (.bl false)))
  tNext)
  (tSeq (tFor (iList K (tVar 0)) (gName 1)
  (tIfS (tNot (tTruZ K (tCall sp_u_law_is_integer [] E0 (tCons (tVar 1) tNil))))
  (tRet (tC (.bl false)))
  tNext))
  (tRet (tC (.bl true)))))
theorem dv_u_law_is_integers {P : Program} {w : World} {K : PySem.W.Frag} {mg : PySem.Str → Option Value} {base : Heap} {f : Addr} {cdv : Value} {A : Around} {outer : List PySem.Env} {s : Shared} {H : Hp} {E : XK} {sp_u_law_is_integer : Sp} (T : Tx K mg) (C_u_law_is_integer : Has P w K mg base CX0 1 "_law_is_integer" P_u_law_is_integer sp_u_law_is_integer)
    (hr : Room 1 (A.deeper (envOfC "_law_is_integers" (defScope st_u_law_is_integers) s.heap.objs.size f cdv))) : PSs (cxOf CX0 P w K mg base N_u_law_is_integers "_law_is_integers" (defScope st_u_law_is_integers) f cdv A outer s H E).nox (defBody st_u_law_is_integers) (t_u_law_is_integers K sp_u_law_is_integer) := by
  have nd := sc_u_law_is_integers.nd
  have hu := hu_of hr
  exact (pss_cons (ps_if (pt_not (pt_truth (pe_callB call_isi (by rfl) T.b_isinstance (by decide +kernel) (pa_cons (pv 0) (pa_cons (pe_bltn (v := .ty "list") (by rfl) T.b_list (u := .type "list") (by decide +kernel) rfl) pa_nil))) (by intro _; rfl))) (pss_one (ps_ret pe_bl)) pss_nil)
    (pss_cons (ps_for PassesOwn.never rfl (pi_list (pv 0)) (pg_name (i := 1) nd rfl (by first | exact Or.inl rfl | exact Or.inr rfl)) (pss_one (ps_if (pt_not (pt_truth (pe_callZ C_u_law_is_integer (hr.mono (by decide)) rfl (pa_cons (pv 1) pa_nil)) (by intro _; rfl))) (pss_one (ps_ret pe_bl)) pss_nil)))
    (pss_one (ps_ret pe_bl))))
/-! _law_image -/
abbrev st_u_law_image : Stmt := top 44
abbrev N_u_law_image : List PySem.Str := ["_law_draws_here", "_law_image_here", "_law_k", "_law_op"]
abbrev P_u_law_image : List PySem.Str := ["_law_draws_here"]
theorem sc_u_law_image : FnScope N_u_law_image P_u_law_image (defScope st_u_law_image) := ⟨rfl, rfl, rfl, by decide +kernel, rfl, by decide +kernel, by decide +kernel⟩
def t_u_law_image (K : PySem.W.Frag) (sp_u_law_next : Sp) : TS :=
  (tSeq (tAsg (tLst (tCons (tC (.int 0)) (tCons (tC (.int 32)) (tCons (tC (.int 0)) (tCons (tOp zAdd (tC (.int 200)) (tOp zMod (tCB (rIntZ) (tCons (tCall sp_u_law_next [] E0 (tCons (tVar 0) tNil)) tNil)) (tC (.int 9)))) tNil))))) (gName 1))
  (tSeq (tFor (iRng1 (tCons (tOp zMod (tCB (rIntZ) (tCons (tCall sp_u_law_next [] E0 (tCons (tVar 0) tNil)) tNil)) (tC (.int 20))) tNil)) (gName 2)
  (tSeq (tAsg (tOp zMod (tCB (rIntZ) (tCons (tCall sp_u_law_next [] E0 (tCons (tVar 0) tNil)) tNil)) (tC (.int 127))) (gName 3))
  (tSeq (tIfS (tTest (tOp (zEq K) (tVar 3) (tC (.int 38))))
  (tAsg (tC (.int 39)) (gName 3))
  tNext)
  (tDrop (tBM K "list" rExtend (tVar 1) (tCons (tLst (tCons (tOp zAdd (tC (.int 1)) (tOp zMod (tCB (rIntZ) (tCons (tCall sp_u_law_next [] E0 (tCons (tVar 0) tNil)) tNil)) (tC (.int 300)))) (tCons (tVar 3) (tCons (tOp zSub (tCall sp_u_law_next [] E0 (tCons (tVar 0) tNil)) (tC (.int 500))) (tCons (tCall sp_u_law_next [] E0 (tCons (tVar 0) tNil)) tNil))))) tNil))))))
  (tRet (tVar 1))))
theorem dv_u_law_image {P : Program} {w : World} {K : PySem.W.Frag} {mg : PySem.Str → Option Value} {base : Heap} {f : Addr} {cdv : Value} {A : Around} {outer : List PySem.Env} {s : Shared} {H : Hp} {E : XK} {sp_u_law_next : Sp} (T : Tx K mg) (C_u_law_next : Has P w K mg base CX0 1 "_law_next" P_u_law_next sp_u_law_next)
    (hr : Room 1 (A.deeper (envOfC "_law_image" (defScope st_u_law_image) s.heap.objs.size f cdv))) : PSs (cxOf CX0 P w K mg base N_u_law_image "_law_image" (defScope st_u_law_image) f cdv A outer s H E).nox (defBody st_u_law_image) (t_u_law_image K sp_u_law_next) := by
  have nd := sc_u_law_image.nd
  have hu := hu_of hr
  exact (pss_cons (ps_set (i := 1) nd rfl (by first | exact Or.inl rfl | exact Or.inr rfl) (pe_lst (pa_cons pe_int (pa_cons pe_int (pa_cons pe_int (pa_cons (pe_op op_zAdd pe_int (pe_op op_zMod (pe_callTy call_intZ (by rfl) T.b_int (by decide +kernel) (pa_cons (pe_callZ C_u_law_next (hr.mono (by decide)) rfl (pa_cons (pv 0) pa_nil)) pa_nil)) pe_int)) pa_nil))))))
    (pss_cons (ps_for PassesOwn.never rfl (pi_range1 rfl T.b_range (pa_cons (pe_op op_zMod (pe_callTy call_intZ (by rfl) T.b_int (by decide +kernel) (pa_cons (pe_callZ C_u_law_next (hr.mono (by decide)) rfl (pa_cons (pv 0) pa_nil)) pa_nil)) pe_int) pa_nil)) (pg_name (i := 2) nd rfl (by first | exact Or.inl rfl | exact Or.inr rfl)) (pss_cons (ps_set (i := 3) nd rfl (by first | exact Or.inl rfl | exact Or.inr rfl) (pe_op op_zMod (pe_callTy call_intZ (by rfl) T.b_int (by decide +kernel) (pa_cons (pe_callZ C_u_law_next (hr.mono (by decide)) rfl (pa_cons (pv 0) pa_nil)) pa_nil)) pe_int))
    (pss_cons (ps_if (pt_cmpR (op_zEq hr.units) (pv 3) pe_int (nomark _)) (pss_one (ps_set (i := 3) nd rfl (by first | exact Or.inl rfl | exact Or.inr rfl) pe_int)) pss_nil)
    (pss_one (ps_expr (pe_bm PySem.F.plainAttrs_list PySem.F.slot_list_extend PySem.F.type_list_extend mt_extend (pv 1) (pa_cons (pe_lst (pa_cons (pe_op op_zAdd pe_int (pe_op op_zMod (pe_callTy call_intZ (by rfl) T.b_int (by decide +kernel) (pa_cons (pe_callZ C_u_law_next (hr.mono (by decide)) rfl (pa_cons (pv 0) pa_nil)) pa_nil)) pe_int)) (pa_cons (pv 3) (pa_cons (pe_op op_zSub (pe_callZ C_u_law_next (hr.mono (by decide)) rfl (pa_cons (pv 0) pa_nil)) pe_int) (pa_cons (pe_callZ C_u_law_next (hr.mono (by decide)) rfl (pa_cons (pv 0) pa_nil)) pa_nil))))) pa_nil)))))))
    (pss_one (ps_ret (pv 1)))))
/-! _law_changed -/
abbrev st_u_law_changed : Stmt := top 45
abbrev N_u_law_changed : List PySem.Str := ["_law_image_here", "_law_draws_here", "_law_kind", "_law_at", "_law_place"]
abbrev P_u_law_changed : List PySem.Str := ["_law_image_here", "_law_draws_here"]
theorem sc_u_law_changed : FnScope N_u_law_changed P_u_law_changed (defScope st_u_law_changed) := ⟨rfl, rfl, rfl, by decide +kernel, rfl, by decide +kernel, by decide +kernel⟩
def t_u_law_changed (K : PySem.W.Frag) (sp_u_law_next : Sp) : TS :=
  (tSeq (tAsg (tOp zMod (tCB (rIntZ) (tCons (tCall sp_u_law_next [] E0 (tCons (tVar 1) tNil)) tNil)) (tC (.int 6))) (gName 2))
  (tSeq (tAsg (tOp zDiv (tOp zAdd (tOp zMul (tC (.int 1000)) (tCall sp_u_law_next [] E0 (tCons (tVar 1) tNil))) (tCall sp_u_law_next [] E0 (tCons (tVar 1) tNil))) (tC (.int 1))) (gName 3))
  (tSeq (tIfS (tTest (tOp zLt (tVar 2) (tC (.int 3))))
  (tSeq (tAsg (tOp zMod (tCB (rIntZ) (tCons (tVar 3) tNil)) (tCB (rLenZ K) (tCons (tVar 0) tNil))) (gName 4))
  (tRet (tOp zAdd (tOp zAdd (tSl (rSlL K) (tVar 0) tNoPart (tPart (tVar 4))) (tLst (tCons (tOp zAdd (tOp (rIx K) (tVar 0) (tVar 4)) (tOp (rIx K) (tLst (tCons (tC (.int 1)) (tCons (tUn zNeg (tC (.int 1))) (tCons (tC (.int 4)) tNil)))) (tVar 2))) tNil))) (tSl (rSlL K) (tVar 0) (tPart (tOp zAdd (tVar 4) (tC (.int 1)))) tNoPart))))
  tNext)
  (tSeq (tIfS (tTest (tOp (zEq K) (tVar 2) (tC (.int 3))))
  (tRet (tSl (rSlL K) (tVar 0) tNoPart (tPart (tOp zSub (tOp zSub (tCB (rLenZ K) (tCons (tVar 0) tNil)) (tC (.int 1))) (tOp zMod (tCB (rIntZ) (tCons (tVar 3) tNil)) (tC (.int 5)))))))
  tNext)
  (tSeq (tIfS (tTest (tOp (zEq K) (tVar 2) (tC (.int 4))))
  (tRet (tOp zAdd (tVar 0) (tOp zMul (tLst (tCons (tOp zMod (tCB (rIntZ) (tCons (tVar 3) tNil)) (tC (.int 7))) tNil)) (tOp zAdd (tC (.int 1)) (tOp zMod (tCB (rIntZ) (tCons (tVar 3) tNil)) (tC (.int 5)))))))
  tNext)
  (tRet (tOp zAdd (tSl (rSlL K) (tVar 0) (tPart (tC (.int 4))) tNoPart) (tSl (rSlL K) (tVar 0) tNoPart (tPart (tC (.int 4)))))))))))
theorem dv_u_law_changed {P : Program} {w : World} {K : PySem.W.Frag} {mg : PySem.Str → Option Value} {base : Heap} {f : Addr} {cdv : Value} {A : Around} {outer : List PySem.Env} {s : Shared} {H : Hp} {E : XK} {sp_u_law_next : Sp} (T : Tx K mg) (C_u_law_next : Has P w K mg base CX0 1 "_law_next" P_u_law_next sp_u_law_next)
    (hr : Room 1 (A.deeper (envOfC "_law_changed" (defScope st_u_law_changed) s.heap.objs.size f cdv))) : PSs (cxOf CX0 P w K mg base N_u_law_changed "_law_changed" (defScope st_u_law_changed) f cdv A outer s H E).nox (defBody st_u_law_changed) (t_u_law_changed K sp_u_law_next) := by
  have nd := sc_u_law_changed.nd
  have hu := hu_of hr
  exact (pss_cons (ps_set (i := 2) nd rfl (by first | exact Or.inl rfl | exact Or.inr rfl) (pe_op op_zMod (pe_callTy call_intZ (by rfl) T.b_int (by decide +kernel) (pa_cons (pe_callZ C_u_law_next (hr.mono (by decide)) rfl (pa_cons (pv 1) pa_nil)) pa_nil)) pe_int))
    (pss_cons (ps_set (i := 3) nd rfl (by first | exact Or.inl rfl | exact Or.inr rfl) (pe_op op_zDiv (pe_op op_zAdd (pe_op op_zMul pe_int (pe_callZ C_u_law_next (hr.mono (by decide)) rfl (pa_cons (pv 1) pa_nil))) (pe_callZ C_u_law_next (hr.mono (by decide)) rfl (pa_cons (pv 1) pa_nil))) pe_int))
    (pss_cons (ps_if (pt_cmpR op_zLt (pv 2) pe_int (nomark _)) (pss_cons (ps_set (i := 4) nd rfl (by first | exact Or.inl rfl | exact Or.inr rfl) (pe_op op_zMod (pe_callTy call_intZ (by rfl) T.b_int (by decide +kernel) (pa_cons (pv 3) pa_nil)) (pe_callB call_lenZ (by rfl) T.b_len (by decide +kernel) (pa_cons (pv 0) pa_nil))))
    (pss_one (ps_ret (pe_op op_zAdd (pe_op op_zAdd (pe_slice sl_list (pv 0) po_none (po_some (pv 4))) (pe_lst (pa_cons (pe_op op_zAdd (pe_ix ix_seq (pv 0) (pv 4) (fun _ _ => rfl)) (pe_ix ix_seq (pe_lst (pa_cons pe_int (pa_cons (pe_un un_zNeg pe_int) (pa_cons pe_int pa_nil)))) (pv 2) (fun _ _ => rfl))) pa_nil))) (pe_slice sl_list (pv 0) (po_some (pe_op op_zAdd (pv 4) pe_int)) po_none))))) pss_nil)
    (pss_cons (ps_if (pt_cmpR (op_zEq hr.units) (pv 2) pe_int (nomark _)) (pss_one (ps_ret (pe_slice sl_list (pv 0) po_none (po_some (pe_op op_zSub (pe_op op_zSub (pe_callB call_lenZ (by rfl) T.b_len (by decide +kernel) (pa_cons (pv 0) pa_nil)) pe_int) (pe_op op_zMod (pe_callTy call_intZ (by rfl) T.b_int (by decide +kernel) (pa_cons (pv 3) pa_nil)) pe_int)))))) pss_nil)
    (pss_cons (ps_if (pt_cmpR (op_zEq hr.units) (pv 2) pe_int (nomark _)) (pss_one (ps_ret (pe_op op_zAdd (pv 0) (pe_op op_zMul (pe_lst (pa_cons (pe_op op_zMod (pe_callTy call_intZ (by rfl) T.b_int (by decide +kernel) (pa_cons (pv 3) pa_nil)) pe_int) pa_nil)) (pe_op op_zAdd pe_int (pe_op op_zMod (pe_callTy call_intZ (by rfl) T.b_int (by decide +kernel) (pa_cons (pv 3) pa_nil)) pe_int)))))) pss_nil)
    (pss_one (ps_ret (pe_op op_zAdd (pe_slice sl_list (pv 0) (po_some pe_int) po_none) (pe_slice sl_list (pv 0) po_none (po_some pe_int))))))))))
/-! _law_plantable -/
abbrev st_u_law_plantable : Stmt := top 46
abbrev N_u_law_plantable : List PySem.Str := ["_law_image_here", "_law_k", "_law_number_here"]
abbrev P_u_law_plantable : List PySem.Str := ["_law_image_here"]
theorem sc_u_law_plantable : FnScope N_u_law_plantable P_u_law_plantable (defScope st_u_law_plantable) := ⟨rfl, rfl, rfl, by decide +kernel, rfl, by decide +kernel, by decide +kernel⟩
def t_u_law_plantable (K : PySem.W.Frag) : TS :=
  (tSeq (tIfS (tOr (tTest (tOp zLt (tCB (rLenZ K) (tCons (tVar 0) tNil)) (tC (.int 4)))) (tOr (tTest (tOp (zNe K) (tOp zMod (tCB (rLenZ K) (tCons (tVar 0) tNil)) (tC (.int 4))) (tC (.int 0)))) (tTest (tOp (zNe K) (tSl (rSlL K) (tVar 0) tNoPart (tPart (tC (.int 3)))) (tLst (tCons (tC (.int 0)) (tCons (tC (.int 32)) (tCons (tC (.int 0)) tNil))))))))
  (tRet (tC (.bl false)))
  tNext)
  (tSeq (tFor (iRng1 (tCons (tOp zDiv (tCB (rLenZ K) (tCons (tVar 0) tNil)) (tC (.int 4))) tNil)) (gName 1)
  (tSeq (tAsg (tOp (rIx K) (tVar 0) (tOp zMul (tC (.int 4)) (tVar 1))) (gName 2))
  (tIfS (tOr (tAnd (tTest (tOp zGt (tVar 1) (tC (.int 0)))) (tTest (tOp (zEq K) (tVar 2) (tC (.int 0))))) (tOr (tTest (tOp zGe (tVar 2) (tC (.int 1000000)))) (tTest (tOp (zEq K) (tOp (rIx K) (tVar 0) (tOp zAdd (tOp zMul (tC (.int 4)) (tVar 1)) (tC (.int 1)))) (tC (.int 38))))))
  (tRet (tC (.bl false)))
  tNext)))
  (tRet (tC (.bl true)))))
theorem dv_u_law_plantable {P : Program} {w : World} {K : PySem.W.Frag} {mg : PySem.Str → Option Value} {base : Heap} {f : Addr} {cdv : Value} {A : Around} {outer : List PySem.Env} {s : Shared} {H : Hp} {E : XK} (T : Tx K mg)
    (hr : Room 0 (A.deeper (envOfC "_law_plantable" (defScope st_u_law_plantable) s.heap.objs.size f cdv))) : PSs (cxOf CX0 P w K mg base N_u_law_plantable "_law_plantable" (defScope st_u_law_plantable) f cdv A outer s H E).nox (defBody st_u_law_plantable) (t_u_law_plantable K) := by
  have nd := sc_u_law_plantable.nd
  have hu := hu_of hr
  exact (pss_cons (ps_if (PW.pt (pw_or (pt_cmpR op_zLt (pe_callB call_lenZ (by rfl) T.b_len (by decide +kernel) (pa_cons (pv 0) pa_nil)) pe_int (nomark _)) (pw_or (pt_cmpR (op_zNe hr.units) (pe_op op_zMod (pe_callB call_lenZ (by rfl) T.b_len (by decide +kernel) (pa_cons (pv 0) pa_nil)) pe_int) pe_int (nomark _)) (pw_or1 (pt_cmpR (op_zNe hr.units) (pe_slice sl_list (pv 0) po_none (po_some pe_int)) (pe_lst (pa_cons pe_int (pa_cons pe_int (pa_cons pe_int pa_nil)))) (nomark _)))))) (pss_one (ps_ret pe_bl)) pss_nil)
    (pss_cons (ps_for PassesOwn.never rfl (pi_range1 rfl T.b_range (pa_cons (pe_op op_zDiv (pe_callB call_lenZ (by rfl) T.b_len (by decide +kernel) (pa_cons (pv 0) pa_nil)) pe_int) pa_nil)) (pg_name (i := 1) nd rfl (by first | exact Or.inl rfl | exact Or.inr rfl)) (pss_cons (ps_set (i := 2) nd rfl (by first | exact Or.inl rfl | exact Or.inr rfl) (pe_ix ix_seq (pv 0) (pe_op op_zMul pe_int (pv 1)) (fun _ _ => rfl)))
    (pss_one (ps_if (PW.pt (pw_or (PW.pt (pw_and (pt_cmpR op_zGt (pv 1) pe_int (nomark _)) (pw_and1 (pt_cmpR (op_zEq hr.units) (pv 2) pe_int (nomark _))))) (pw_or (pt_cmpR op_zGe (pv 2) pe_int (nomark _)) (pw_or1 (pt_cmpR (op_zEq hr.units) (pe_ix ix_seq (pv 0) (pe_op op_zAdd (pe_op op_zMul pe_int (pv 1)) pe_int) (fun _ _ => rfl)) pe_int (nomark _)))))) (pss_one (ps_ret pe_bl)) pss_nil))))
    (pss_one (ps_ret pe_bl))))
/-! _law_found -/
abbrev st_u_law_found : Stmt := top 47
abbrev N_u_law_found : List PySem.Str := ["_law_image_here", "_law_lures", "_law_groups", "_law_cells", "_law_start", "_law_lure", "_law_extra", "_law_good", "_law_k", "_law_code"]
abbrev P_u_law_found : List PySem.Str := ["_law_image_here"]
theorem sc_u_law_found : FnScope N_u_law_found P_u_law_found (defScope st_u_law_found) := ⟨rfl, rfl, rfl, by decide +kernel, rfl, by decide +kernel, by decide +kernel⟩
def t_u_law_found (K : PySem.W.Frag) (sp_u_law_trap : Sp) (sp_u_law_plantable : Sp) : TS :=
  (tSeq (tFor (iRng2 (tCons (tC (.int 1)) (tCons (tC (.int 13)) tNil))) (gName 1)
  (tFor (iRng1 (tCons (tC (.int 7)) tNil)) (gName 2)
  (tSeq (tAsg (tOp zMul (tC (.int 4)) (tOp zAdd (tOp zAdd (tC (.int 14)) (tOp zMul (tC (.int 4)) (tVar 1))) (tOp zMul (tC (.int 8)) (tVar 2)))) (gName 3))
  (tSeq (tAsg (tOp zSub (tCB (rLenZ K) (tCons (tVar 0) tNil)) (tVar 3)) (gName 4))
  (tSeq (tIfS (tOr (tTest (tOp zLt (tVar 4) (tC (.int 4)))) (tTest (tOp (zNe K) (tSl (rSlL K) (tVar 0) (tPart (tVar 4)) (tPart (tOp zAdd (tVar 4) (tC (.int 3))))) (tLst (tCons (tC (.int 0)) (tCons (tC (.int 35)) (tCons (tC (.int 3)) tNil)))))))
  tCont
  tNext)
  (tSeq (tAsg (tLc (iRng1 (tCons (tVar 1) tNil)) (gName 8) tYes (tOp (rIx K) (tVar 0) (tOp zAdd (tOp zAdd (tVar 4) (tOp zMul (tC (.int 4)) (tOp zAdd (tOp zAdd (tC (.int 4)) (tOp zMul (tC (.int 4)) (tVar 8))) (tC (.int 1))))) (tC (.int 2)))) [8]) (gName 5))
  (tSeq (tAsg (tLc (iRng1 (tCons (tOp zMul (tC (.int 4)) (tVar 2)) tNil)) (gName 8) tYes (tOp (rIx K) (tVar 0) (tOp zAdd (tOp zAdd (tVar 4) (tOp zMul (tC (.int 4)) (tOp zAdd (tOp zAdd (tC (.int 4)) (tOp zMul (tC (.int 4)) (tVar 1))) (tOp zMul (tC (.int 2)) (tVar 8))))) (tC (.int 2)))) [8]) (gName 6))
  (tSeq (tAsg (tOp (zEq K) (tCB (rLenZ K) (tCons (tLc (iList K (tVar 5)) (gName 9) (tTest (tChain zLe zLe (tC (.int 0)) (tVar 9) (tC (.int 126)))) (tVar 9) [9]) tNil)) (tVar 1)) (gName 7))
  (tIfS (tAnd (tTruZ K (tVar 7)) (tAnd (tTest (tOp (zEq K) (tCall sp_u_law_trap [] E0 (tCons (tVar 5) (tCons (tVar 6) tNil))) (tSl (rSlL K) (tVar 0) (tPart (tVar 4)) tNoPart))) (tTruZ K (tCall sp_u_law_plantable [] E0 (tCons (tSl (rSlL K) (tVar 0) tNoPart (tPart (tVar 4))) tNil)))))
  (tRet (tTup (tCons (tVar 5) (tCons (tVar 6) (tCons (tSl (rSlL K) (tVar 0) tNoPart (tPart (tVar 4))) tNil)))))
  tNext)))))))))
  (tRet (tTup (tCons (tLst tNil) (tCons (tLst tNil) (tCons (tLst tNil) tNil))))))
theorem dv_u_law_found {P : Program} {w : World} {K : PySem.W.Frag} {mg : PySem.Str → Option Value} {base : Heap} {f : Addr} {cdv : Value} {A : Around} {outer : List PySem.Env} {s : Shared} {H : Hp} {E : XK} {sp_u_law_trap sp_u_law_plantable : Sp} (T : Tx K mg) (C_u_law_trap : Has P w K mg base CX0 1 "_law_trap" P_u_law_trap sp_u_law_trap) (C_u_law_plantable : Has P w K mg base CX0 1 "_law_plantable" P_u_law_plantable sp_u_law_plantable)
    (hr : Room 1 (A.deeper (envOfC "_law_found" (defScope st_u_law_found) s.heap.objs.size f cdv))) : PSs (cxOf CX0 P w K mg base N_u_law_found "_law_found" (defScope st_u_law_found) f cdv A outer s H E).nox (defBody st_u_law_found) (t_u_law_found K sp_u_law_trap sp_u_law_plantable) := by
  have nd := sc_u_law_found.nd
  have hu := hu_of hr
  exact (pss_cons (ps_for PassesOwn.never rfl (pi_range2 rfl T.b_range (pa_cons pe_int (pa_cons pe_int pa_nil))) (pg_name (i := 1) nd rfl (by first | exact Or.inl rfl | exact Or.inr rfl)) (pss_one (ps_for PassesOwn.never rfl (pi_range1 rfl T.b_range (pa_cons pe_int pa_nil)) (pg_name (i := 2) nd rfl (by first | exact Or.inl rfl | exact Or.inr rfl)) (pss_cons (ps_set (i := 3) nd rfl (by first | exact Or.inl rfl | exact Or.inr rfl) (pe_op op_zMul pe_int (pe_op op_zAdd (pe_op op_zAdd pe_int (pe_op op_zMul pe_int (pv 1))) (pe_op op_zMul pe_int (pv 2)))))
    (pss_cons (ps_set (i := 4) nd rfl (by first | exact Or.inl rfl | exact Or.inr rfl) (pe_op op_zSub (pe_callB call_lenZ (by rfl) T.b_len (by decide +kernel) (pa_cons (pv 0) pa_nil)) (pv 3)))
    (pss_cons (ps_if (PW.pt (pw_or (pt_cmpR op_zLt (pv 4) pe_int (nomark _)) (pw_or1 (pt_cmpR (op_zNe hr.units) (pe_slice sl_list (pv 0) (po_some (pv 4)) (po_some (pe_op op_zAdd (pv 4) pe_int))) (pe_lst (pa_cons pe_int (pa_cons pe_int (pa_cons pe_int pa_nil)))) (nomark _))))) (pss_one ps_continue) pss_nil)
    (pss_cons (ps_setLc (i := 5) (own := [("_law_k", 8)]) (g := (gName 8)) (by rfl) nd rfl rfl (sw_true rfl rfl rfl (by decide +kernel)) (pi_range1 rfl T.b_range (pa_cons (pv 1) pa_nil)) (blkOk_by (own := [("_law_k", 8)]) (N := N_u_law_found) (sc := defScope st_u_law_found) (by decide +kernel)) (fun _ _ _ _ _ => (pg_name (i := 8) nd rfl (by first | exact Or.inl rfl | exact Or.inr rfl))) (fun _ _ _ _ _ => pts_nil) (fun _ _ _ _ _ => (pe_ix ix_seq (pv 0) (pe_op op_zAdd (pe_op op_zAdd (pv 4) (pe_op op_zMul pe_int (pe_op op_zAdd (pe_op op_zAdd pe_int (pe_op op_zMul pe_int (pv 8))) pe_int))) pe_int) (fun _ _ => rfl))))
    (pss_cons (ps_setLc (i := 6) (own := [("_law_k", 8)]) (g := (gName 8)) (by rfl) nd rfl rfl (sw_true rfl rfl rfl (by decide +kernel)) (pi_range1 rfl T.b_range (pa_cons (pe_op op_zMul pe_int (pv 2)) pa_nil)) (blkOk_by (own := [("_law_k", 8)]) (N := N_u_law_found) (sc := defScope st_u_law_found) (by decide +kernel)) (fun _ _ _ _ _ => (pg_name (i := 8) nd rfl (by first | exact Or.inl rfl | exact Or.inr rfl))) (fun _ _ _ _ _ => pts_nil) (fun _ _ _ _ _ => (pe_ix ix_seq (pv 0) (pe_op op_zAdd (pe_op op_zAdd (pv 4) (pe_op op_zMul pe_int (pe_op op_zAdd (pe_op op_zAdd pe_int (pe_op op_zMul pe_int (pv 1))) (pe_op op_zMul pe_int (pv 8))))) pe_int) (fun _ _ => rfl))))
    (pss_cons (ps_set (i := 7) nd rfl (by first | exact Or.inl rfl | exact Or.inr rfl) (pe_cmpR (op_zEq hr.units) (pe_callB call_lenZ (by rfl) T.b_len (by decide +kernel) (pa_cons (pe_lc (own := [("_law_code", 9)]) (g := (gName 9)) (by rfl) nd (pi_list (pv 5)) (blkOk_by (own := [("_law_code", 9)]) (N := N_u_law_found) (sc := defScope st_u_law_found) (by decide +kernel)) (fun _ _ _ _ _ => (pg_name (i := 9) nd rfl (by first | exact Or.inl rfl | exact Or.inr rfl))) (fun _ _ _ _ _ => (pts_one (pt_chain op_zLe op_zLe pe_int (pv 9) pe_int))) (fun _ _ _ _ _ => (pv 9))) pa_nil)) (pv 1) (nomark _)))
    (pss_one (ps_if (PW.pt (pw_and (pt_truth (pv 7) (by intro _; rfl)) (pw_and (pt_cmpR (op_zEq hr.units) (pe_callZ C_u_law_trap (hr.mono (by decide)) rfl (pa_cons (pv 5) (pa_cons (pv 6) pa_nil))) (pe_slice sl_list (pv 0) (po_some (pv 4)) po_none) (nomark _)) (pw_and1 (pt_truth (pe_callZ C_u_law_plantable (hr.mono (by decide)) rfl (pa_cons (pe_slice sl_list (pv 0) po_none (po_some (pv 4))) pa_nil)) (by intro _; rfl)))))) (pss_one (ps_ret (pe_tup (pa_cons (pv 5) (pa_cons (pv 6) (pa_cons (pe_slice sl_list (pv 0) po_none (po_some (pv 4))) pa_nil)))))) pss_nil)))))))))))
    (pss_one (ps_ret (pe_tup (pa_cons (pe_lst pa_nil) (pa_cons (pe_lst pa_nil) (pa_cons (pe_lst pa_nil) pa_nil)))))))
/-! _law_cleaned -/
abbrev st_u_law_cleaned : Stmt := top 48
abbrev N_u_law_cleaned : List PySem.Str := ["_law_image_here", "e"]
abbrev P_u_law_cleaned : List PySem.Str := ["_law_image_here"]
theorem sc_u_law_cleaned : FnScope N_u_law_cleaned P_u_law_cleaned (defScope st_u_law_cleaned) := ⟨rfl, rfl, rfl, by decide +kernel, rfl, by decide +kernel, by decide +kernel⟩
def t_u_law_cleaned (K : PySem.W.Frag) (sp_cleaned : Sp) : TS :=
  (tTryAs K (xc K "NotPlanted") 1 (fun a cls d => (tSeq (tIfS (tTruZ K (tCB (rIsX K a cls d) (tCons (tVar 1) (tCons (tC (xcV K "PlinthError")) tNil))))
  (tRet (tC .non))
  tNext)
  (tRet (tC (.int 7))))) (fun _ _ _ _ => False) (fun W => (tRet (tCallS sp_cleaned (WE W) (tCons (tVar 0) tNil)))))
theorem dv_u_law_cleaned {P : Program} {w : World} {K : PySem.W.Frag} {mg : PySem.Str → Option Value} {base : Heap} {f : Addr} {cdv : Value} {A : Around} {outer : List PySem.Env} {s : Shared} {H : Hp} {E : XK} {sp_cleaned : Sp} (T : Tx K mg) (C_cleaned : Has P w K mg base (L2.CX P w) 5 "cleaned" P_cleaned sp_cleaned)
    (hr : Room 5 (A.deeper (envOfC "_law_cleaned" (defScope st_u_law_cleaned) s.heap.objs.size f cdv))) : PSs (cxOf CX0 P w K mg base N_u_law_cleaned "_law_cleaned" (defScope st_u_law_cleaned) f cdv A outer s H E).nox (defBody st_u_law_cleaned) (t_u_law_cleaned K sp_cleaned) := by
  have nd := sc_u_law_cleaned.nd
  have hu := hu_of hr
  exact (pss_one (ps_try_as (i := 1) (tb := fun W => (tRet (tCallS sp_cleaned (WE W) (tCons (tVar 0) tNil)))) (ts := fun a cls d => (tSeq (tIfS (tTruZ K (tCB (rIsX K a cls d) (tCons (tVar 1) (tCons (tC (xcV K "PlinthError")) tNil))))
  (tRet (tC .non))
  tNext)
  (tRet (tC (.int 7))))) (Wout := (fun _ _ _ _ => False)) rfl rfl nd rfl rfl ⟨rfl, by decide, Or.inl T.x_NotPlanted.g⟩ takes0
    (fun W pn xe tk _ => (pss_one (ps_ret (pe_callZS C_cleaned (hr.mono (by decide)) tk rfl (pa_cons (pv 0) pa_nil)))))
    (fun a oe cls d pn hz hf => (pss_cons (ps_if (pt_truth (pe_callB (call_isX hz hf) (by rfl) T.b_isinstance (by decide +kernel) (pa_cons (pv 1) (pa_cons (pe_glob (by rfl) T.x_PlinthError.g rfl) pa_nil))) (by intro _; rfl)) (pss_one (ps_ret pe_non)) pss_nil)
    (pss_one (ps_ret pe_int))))))
/-! law -/
abbrev st_law : Stmt := top 49
abbrev N_law : List PySem.Str := ["_law_script", "_law_draws_here", "_law_choice", "_law_lure", "_law_extra", "_law_changes", "_law_start", "_law_image_here", "_law_passed", "_law_told", "_law_back", "_law_due_lure", "_law_due_extra", "_law_due_start", "_law_k"]
abbrev P_law : List PySem.Str := ["_law_script"]
theorem sc_law : FnScope N_law P_law (defScope st_law) := ⟨rfl, rfl, rfl, by decide +kernel, rfl, by decide +kernel, by decide +kernel⟩
def t_law (K : PySem.W.Frag) (sp_u_law_draws : Sp) (sp_u_law_next : Sp) (sp_u_law_image : Sp) (sp_plant : Sp) (sp_u_law_changed : Sp) (sp_u_law_found : Sp) (sp_planted : Sp) (sp_u_law_cleaned : Sp) (sp_u_law_is_integers : Sp) : TS :=
  (tSeq (tAsg (tCall sp_u_law_draws [] E0 (tCons (tVar 0) tNil)) (gName 1))
  (tSeq (tDrop (tBM0 K "list" rReverse (tVar 1)))
  (tSeq (tAsg (tCall sp_u_law_next [] E0 (tCons (tVar 1) tNil)) (gName 2))
  (tSeq (tAsg (tLc (iRng1 (tCons (tOp zAdd (tC (.int 1)) (tOp zMod (tCB (rIntZ) (tCons (tCall sp_u_law_next [] E0 (tCons (tVar 1) tNil)) tNil)) (tC (.int 12)))) tNil)) (gName 14) tYes (tOp zMod (tCB (rIntZ) (tCons (tCall sp_u_law_next [] E0 (tCons (tVar 1) tNil)) tNil)) (tC (.int 127))) [14]) (gName 3))
  (tSeq (tAsg (tLc (iRng1 (tCons (tOp zMul (tC (.int 4)) (tOp zMod (tCB (rIntZ) (tCons (tCall sp_u_law_next [] E0 (tCons (tVar 1) tNil)) tNil)) (tC (.int 7)))) tNil)) (gName 14) tYes (tOp zSub (tCall sp_u_law_next [] E0 (tCons (tVar 1) tNil)) (tC (.int 500))) [14]) (gName 4))
  (tSeq (tAsg (tLc (iRng1 (tCons (tC (.int 3)) tNil)) (gName 14) tYes (tCall sp_u_law_next [] E0 (tCons (tVar 1) tNil)) [14]) (gName 5))
  (tSeq (tAsg (tCall sp_u_law_image [] E0 (tCons (tVar 1) tNil)) (gName 6))
  (tSeq (tAsg (tCall sp_plant [] E0 (tCons (tVar 6) (tCons (tVar 3) (tCons (tVar 4) tNil)))) (gName 7))
  (tSeq (tIfS (tTest (tOp (zEq K) (tOp zMod (tCB (rIntZ) (tCons (tVar 2) tNil)) (tC (.int 4))) (tC (.int 1))))
  (tAsg (tVar 6) (gName 7))
  (tIfS (tTest (tOp zGt (tOp zMod (tCB (rIntZ) (tCons (tVar 2) tNil)) (tC (.int 4))) (tC (.int 1))))
  (tAsg (tCall sp_u_law_changed [] E0 (tCons (tVar 7) (tCons (tVar 5) tNil))) (gName 7))
  tNext))
  (tSeq (tAsg (tCall sp_u_law_found [] E0 (tCons (tVar 7) tNil)) (gTup K 3 (gCons (gName 11) (gCons (gName 12) (gCons (gName 13) gNil)))))
  (tSeq (tIfS (tAnd (tTest (tOp (zEq K) (tOp zMod (tCB (rIntZ) (tCons (tVar 2) tNil)) (tC (.int 4))) (tC (.int 0)))) (tTest (tOp (zNe K) (tVar 13) (tVar 6))))
  (tRet (tC (.bl false)))
  tNext)
  (tSeq (tAsg (tCB (rListZ K) (tCons (tVar 7) tNil)) (gName 8))
  (tSeq (tAsg (tCall sp_planted [] E0 (tCons (tVar 8) tNil)) (gName 9))
  (tSeq (tAsg (tCall sp_u_law_cleaned [] E0 (tCons (tVar 8) tNil)) (gName 10))
  (tSeq (tIfS (tTest (tOp (zNe K) (tVar 8) (tVar 7)))
  (tRet (tC (.bl false)))
  tNext)
  (tSeq (tIfS (tNot (tTruZ K (tVar 13)))
  (tRet (tAndV (tOp zIs (tVar 9) (tC .non)) (tOp zIs (tVar 10) (tC .non))))
  tNext)
  (tSeq (tIfS (tOr (tNot (tTruZ K (tCB (rIsi K) (tCons (tVar 9) (tCons (tC (.ty "tuple")) tNil))))) (tOr (tTest (tOp (zNe K) (tCB (rLenZ K) (tCons (tVar 9) tNil)) (tC (.int 2)))) (tNot (tTruZ K (tCall sp_u_law_is_integers [] E0 (tCons (tOp (rIx K) (tVar 9) (tC (.int 0))) tNil))))))
  (tRet (tC (.bl false)))
  tNext)
  (tSeq (tIfS (tOr (tNot (tTruZ K (tCall sp_u_law_is_integers [] E0 (tCons (tOp (rIx K) (tVar 9) (tC (.int 1))) tNil)))) (tOr (tTest (tOp (zNe K) (tOp (rIx K) (tVar 9) (tC (.int 0))) (tVar 11))) (tTest (tOp (zNe K) (tOp (rIx K) (tVar 9) (tC (.int 1))) (tVar 12)))))
  (tRet (tC (.bl false)))
  tNext)
  (tRet (tAndV (tCall sp_u_law_is_integers [] E0 (tCons (tVar 10) tNil)) (tOp (zEq K) (tVar 10) (tVar 13))))))))))))))))))))))
theorem dv_law {P : Program} {w : World} {K : PySem.W.Frag} {mg : PySem.Str → Option Value} {base : Heap} {f : Addr} {cdv : Value} {A : Around} {outer : List PySem.Env} {s : Shared} {H : Hp} {E : XK} {sp_u_law_draws sp_u_law_next sp_u_law_image sp_plant sp_u_law_changed sp_u_law_found sp_planted sp_u_law_cleaned sp_u_law_is_integers : Sp} (T : Tx K mg) (C_u_law_draws : Has P w K mg base CX0 2 "_law_draws" P_u_law_draws sp_u_law_draws) (C_u_law_next : Has P w K mg base CX0 1 "_law_next" P_u_law_next sp_u_law_next) (C_u_law_image : Has P w K mg base CX0 2 "_law_image" P_u_law_image sp_u_law_image) (C_plant : Has P w K mg base (L2.CX P w) 3 "plant" P_plant sp_plant) (C_u_law_changed : Has P w K mg base CX0 2 "_law_changed" P_u_law_changed sp_u_law_changed) (C_u_law_found : Has P w K mg base CX0 2 "_law_found" P_u_law_found sp_u_law_found) (C_planted : Has P w K mg base CX0 4 "planted" P_planted sp_planted) (C_u_law_cleaned : Has P w K mg base CX0 6 "_law_cleaned" P_u_law_cleaned sp_u_law_cleaned) (C_u_law_is_integers : Has P w K mg base CX0 2 "_law_is_integers" P_u_law_is_integers sp_u_law_is_integers)
    (hr : Room 6 (A.deeper (envOfC "law" (defScope st_law) s.heap.objs.size f cdv))) : PSs (cxOf CX0 P w K mg base N_law "law" (defScope st_law) f cdv A outer s H E).nox (defBody st_law) (t_law K sp_u_law_draws sp_u_law_next sp_u_law_image sp_plant sp_u_law_changed sp_u_law_found sp_planted sp_u_law_cleaned sp_u_law_is_integers) := by
  have nd := sc_law.nd
  have hu := hu_of hr
  exact (pss_cons (ps_set (i := 1) nd rfl (by first | exact Or.inl rfl | exact Or.inr rfl) (pe_callZ C_u_law_draws (hr.mono (by decide)) rfl (pa_cons (pv 0) pa_nil)))
    (pss_cons (ps_expr (pe_bm0 PySem.F.plainAttrs_list PySem.F.slot_list_reverse PySem.F.type_list_reverse mt_reverse (pv 1)))
    (pss_cons (ps_set (i := 2) nd rfl (by first | exact Or.inl rfl | exact Or.inr rfl) (pe_callZ C_u_law_next (hr.mono (by decide)) rfl (pa_cons (pv 1) pa_nil)))
    (pss_cons (ps_setLc (i := 3) (own := [("_law_k", 14)]) (g := (gName 14)) (by rfl) nd rfl rfl (sw_true rfl rfl rfl (by decide +kernel)) (pi_range1 rfl T.b_range (pa_cons (pe_op op_zAdd pe_int (pe_op op_zMod (pe_callTy call_intZ (by rfl) T.b_int (by decide +kernel) (pa_cons (pe_callZ C_u_law_next (hr.mono (by decide)) rfl (pa_cons (pv 1) pa_nil)) pa_nil)) pe_int)) pa_nil)) (blkOk_by (own := [("_law_k", 14)]) (N := N_law) (sc := defScope st_law) (by decide +kernel)) (fun _ _ _ _ _ => (pg_name (i := 14) nd rfl (by first | exact Or.inl rfl | exact Or.inr rfl))) (fun _ _ _ _ _ => pts_nil) (fun _ _ _ _ _ => (pe_op op_zMod (pe_callTy call_intZ (by rfl) T.b_int (by decide +kernel) (pa_cons (pe_callZ C_u_law_next (hr.mono (by decide)) rfl (pa_cons (pv 1) pa_nil)) pa_nil)) pe_int)))
    (pss_cons (ps_setLc (i := 4) (own := [("_law_k", 14)]) (g := (gName 14)) (by rfl) nd rfl rfl (sw_true rfl rfl rfl (by decide +kernel)) (pi_range1 rfl T.b_range (pa_cons (pe_op op_zMul pe_int (pe_op op_zMod (pe_callTy call_intZ (by rfl) T.b_int (by decide +kernel) (pa_cons (pe_callZ C_u_law_next (hr.mono (by decide)) rfl (pa_cons (pv 1) pa_nil)) pa_nil)) pe_int)) pa_nil)) (blkOk_by (own := [("_law_k", 14)]) (N := N_law) (sc := defScope st_law) (by decide +kernel)) (fun _ _ _ _ _ => (pg_name (i := 14) nd rfl (by first | exact Or.inl rfl | exact Or.inr rfl))) (fun _ _ _ _ _ => pts_nil) (fun _ _ _ _ _ => (pe_op op_zSub (pe_callZ C_u_law_next (hr.mono (by decide)) rfl (pa_cons (pv 1) pa_nil)) pe_int)))
    (pss_cons (ps_setLc (i := 5) (own := [("_law_k", 14)]) (g := (gName 14)) (by rfl) nd rfl rfl (sw_true rfl rfl rfl (by decide +kernel)) (pi_range1 rfl T.b_range (pa_cons pe_int pa_nil)) (blkOk_by (own := [("_law_k", 14)]) (N := N_law) (sc := defScope st_law) (by decide +kernel)) (fun _ _ _ _ _ => (pg_name (i := 14) nd rfl (by first | exact Or.inl rfl | exact Or.inr rfl))) (fun _ _ _ _ _ => pts_nil) (fun _ _ _ _ _ => (pe_callZ C_u_law_next (hr.mono (by decide)) rfl (pa_cons (pv 1) pa_nil))))
    (pss_cons (ps_set (i := 6) nd rfl (by first | exact Or.inl rfl | exact Or.inr rfl) (pe_callZ C_u_law_image (hr.mono (by decide)) rfl (pa_cons (pv 1) pa_nil)))
    (pss_cons (ps_set (i := 7) nd rfl (by first | exact Or.inl rfl | exact Or.inr rfl) (pe_callZL C_plant (hr.mono (by decide)) rfl (pa_cons (pv 6) (pa_cons (pv 3) (pa_cons (pv 4) pa_nil)))))
    (pss_cons (ps_if (pt_cmpR (op_zEq hr.units) (pe_op op_zMod (pe_callTy call_intZ (by rfl) T.b_int (by decide +kernel) (pa_cons (pv 2) pa_nil)) pe_int) pe_int (nomark _)) (pss_one (ps_set (i := 7) nd rfl (by first | exact Or.inl rfl | exact Or.inr rfl) (pv 6))) (pss_one (ps_if (pt_cmpR op_zGt (pe_op op_zMod (pe_callTy call_intZ (by rfl) T.b_int (by decide +kernel) (pa_cons (pv 2) pa_nil)) pe_int) pe_int (nomark _)) (pss_one (ps_set (i := 7) nd rfl (by first | exact Or.inl rfl | exact Or.inr rfl) (pe_callZ C_u_law_changed (hr.mono (by decide)) rfl (pa_cons (pv 7) (pa_cons (pv 5) pa_nil))))) pss_nil)))
    (pss_cons (ps_asg (pe_callZ C_u_law_found (hr.mono (by decide)) rfl (pa_cons (pv 7) pa_nil)) (pg_tup (by rfl) (pgs_cons (pg_name (i := 11) nd rfl (by first | exact Or.inl rfl | exact Or.inr rfl)) (pgs_cons (pg_name (i := 12) nd rfl (by first | exact Or.inl rfl | exact Or.inr rfl)) (pgs_cons (pg_name (i := 13) nd rfl (by first | exact Or.inl rfl | exact Or.inr rfl)) pgs_nil)))))
    (pss_cons (ps_if (PW.pt (pw_and (pt_cmpR (op_zEq hr.units) (pe_op op_zMod (pe_callTy call_intZ (by rfl) T.b_int (by decide +kernel) (pa_cons (pv 2) pa_nil)) pe_int) pe_int (nomark _)) (pw_and1 (pt_cmpR (op_zNe hr.units) (pv 13) (pv 6) (nomark _))))) (pss_one (ps_ret pe_bl)) pss_nil)
    (pss_cons (ps_set (i := 8) nd rfl (by first | exact Or.inl rfl | exact Or.inr rfl) (pe_callTy call_listZ (by rfl) T.b_list (by decide +kernel) (pa_cons (pv 7) pa_nil)))
    (pss_cons (ps_set (i := 9) nd rfl (by first | exact Or.inl rfl | exact Or.inr rfl) (pe_callZ C_planted (hr.mono (by decide)) rfl (pa_cons (pv 8) pa_nil)))
    (pss_cons (ps_set (i := 10) nd rfl (by first | exact Or.inl rfl | exact Or.inr rfl) (pe_callZ C_u_law_cleaned (hr.mono (by decide)) rfl (pa_cons (pv 8) pa_nil)))
    (pss_cons (ps_if (pt_cmpR (op_zNe hr.units) (pv 8) (pv 7) (nomark _)) (pss_one (ps_ret pe_bl)) pss_nil)
    (pss_cons (ps_if (pt_not (pt_truth (pv 13) (by intro _; rfl))) (pss_one (ps_ret (pe_and (pe_cmpR op_zIs (pv 9) pe_non (nomark _)) (pe_one (pe_cmpR op_zIs (pv 10) pe_non (nomark _)))))) pss_nil)
    (pss_cons (ps_if (PW.pt (pw_or (pt_not (pt_truth (pe_callB call_isi (by rfl) T.b_isinstance (by decide +kernel) (pa_cons (pv 9) (pa_cons (pe_bltn (v := .ty "tuple") (by rfl) T.b_tuple (u := .type "tuple") (by decide +kernel) rfl) pa_nil))) (by intro _; rfl))) (pw_or (pt_cmpR (op_zNe hr.units) (pe_callB call_lenZ (by rfl) T.b_len (by decide +kernel) (pa_cons (pv 9) pa_nil)) pe_int (nomark _)) (pw_or1 (pt_not (pt_truth (pe_callZ C_u_law_is_integers (hr.mono (by decide)) rfl (pa_cons (pe_ix ix_seq (pv 9) pe_int (fun _ _ => rfl)) pa_nil)) (by intro _; rfl))))))) (pss_one (ps_ret pe_bl)) pss_nil)
    (pss_cons (ps_if (PW.pt (pw_or (pt_not (pt_truth (pe_callZ C_u_law_is_integers (hr.mono (by decide)) rfl (pa_cons (pe_ix ix_seq (pv 9) pe_int (fun _ _ => rfl)) pa_nil)) (by intro _; rfl))) (pw_or (pt_cmpR (op_zNe hr.units) (pe_ix ix_seq (pv 9) pe_int (fun _ _ => rfl)) (pv 11) (nomark _)) (pw_or1 (pt_cmpR (op_zNe hr.units) (pe_ix ix_seq (pv 9) pe_int (fun _ _ => rfl)) (pv 12) (nomark _)))))) (pss_one (ps_ret pe_bl)) pss_nil)
    (pss_one (ps_ret (pe_and (pe_callZ C_u_law_is_integers (hr.mono (by decide)) rfl (pa_cons (pv 10) pa_nil)) (pe_one (pe_cmpR (op_zEq hr.units) (pv 10) (pv 13) (nomark _))))))))))))))))))))))))
end L61
open PySem PySem.Spec PyProof.Rows L2 Z
local macro_rules | `(tactic| walk_at "pre") => `(tactic| focus ((repeat' (first | assumption | exact trivial | omega | with_reducible apply And.intro)); done))
local macro_rules | `(tactic| walk_at "le") => `(tactic| first | exact EnLe.refl _ | (repeat (first | exact EnLe.nil | exact EnLe.refl _ | apply EnLe.same | apply EnLe.less)))
local macro_rules | `(tactic| walk_at "bk") => `(tactic| (repeat (first | exact Back.nil | apply Back.keep | apply Back.skip)))
local macro_rules | `(tactic| walk_at "len") => `(tactic| first | apply len_dL | apply len_oL | apply len_list | apply len_tup | apply len_lst)
local macro_rules | `(tactic| walk_at "tru") => `(tactic| first | apply tru_bl | apply tru_int | apply tru_non | apply tru_dL | apply tru_oL | apply tru_list | apply tru_tup | apply tru_lst)
local macro_rules | `(tactic| walk_at "mul") => `(tactic| first | exact Or.inl ⟨by decide, by decide⟩ | exact Or.inr ⟨by decide, by decide⟩ | exact Or.inl ⟨by omega, by omega⟩ | exact Or.inr ⟨by omega, by omega⟩ | assumption)
local macro_rules | `(tactic| walk_at "sz") => `(tactic| first | exact small _ rfl | exact le_line (by omega) | exact lt_line (by omega) | walk_at "pre")
local macro_rules | `(tactic| walk_at "ty") => `(tactic| with_reducible first | exact ty_int | exact ty_bl | exact ty_non | exact ty_list | exact ty_tuple | exact ty_lst | exact ty_str)
local macro_rules | `(tactic| walk_at "kb") => `(tactic| with_reducible first | exact kb_ii | exact kb_ib | exact kb_ll | exact kb_tt | exact kb_nt | exact kb_nl | exact kb_bb | exact kb_bi | exact kb_ss | exact kb_dd)
local macro_rules | `(tactic| walk_at "vw") => `(tactic| first | with_reducible exact vwi_d | with_reducible exact vwi_o)
local macro_rules | `(tactic| walk_at "rr") => `(tactic| first
  | with_reducible apply rr_addI | with_reducible apply rr_subI
  | ((with_reducible apply rr_mulI); walk_at "mul")
  | ((with_reducible apply rr_modI); first | decide | omega | assumption) | ((with_reducible apply rr_divI); first | exact ⟨by decide, by decide⟩ | walk_at "pre")
  | with_reducible apply rr_lt | with_reducible apply rr_le | with_reducible apply rr_gt | with_reducible apply rr_ge
  | with_reducible apply rr_eqI' | with_reducible apply rr_neI' | ((with_reducible apply rr_eqLL); walk_at "vw"; walk_at "vw") | ((with_reducible apply rr_neLL); walk_at "vw"; walk_at "vw")
  | ((with_reducible apply rr_addLi); walk_at "sz") | ((with_reducible apply rr_addLdo); walk_at "sz") | ((with_reducible apply rr_addLod); walk_at "sz") | ((with_reducible apply rr_addLdd); walk_at "sz")
  | ((with_reducible apply rr_repI); walk_at "pre"; walk_at "sz")
  | with_reducible apply rr_is | with_reducible apply rr_isnot
  | ((with_reducible apply rr_ixL'); first | exact rfl | assumption) | ((with_reducible apply rr_ixT'); first | exact rfl | assumption))
local macro_rules | `(tactic| walk_at "ed") => `(tactic| first
  | with_reducible exact ed_nil (K := by assumption)
  | ((with_reducible apply ed_cons); walk_at "z"; walk_at "ed"))
local macro_rules | `(tactic| walk_at "eds") => `(tactic| first
  | with_reducible exact eds_nil (K := by assumption)
  | ((with_reducible apply eds_cons); walk_at "z"; walk_at "eds"))
local macro_rules | `(tactic| walk_at "ea") => `(tactic| first
  | with_reducible exact ea_nil
  | ((with_reducible apply ea_borL); exact rfl; walk_at "ea")
  | ((with_reducible apply ea_cons); walk_at "z"; walk_at "ea"))
local macro_rules | `(tactic| walk_at "edi") => `(tactic| first
  | exact ed_ints_nil (K := by assumption)
  | ((apply ed_ints_cons); walk_at "z"; walk_at "edi"))
local macro_rules | `(tactic| walk_at "z") => `(tactic| first
  | with_reducible exact ev_int (K := by assumption) | with_reducible exact ev_bl (K := by assumption) | with_reducible exact ev_non (K := by assumption) | with_reducible exact ev_str (K := by assumption)
  | ((with_reducible apply ev_var); exact rfl)
  | ((with_reducible apply ev_op); walk_at "z"; walk_at "z"; walk_at "rr")
  | ((with_reducible apply ev_un); walk_at "z"; apply ru_neg)
  | ((with_reducible apply ev_int1); walk_at "z")
  | ((with_reducible apply ev_lenO); exact rfl; walk_at "len")
  | ((with_reducible apply ev_len); walk_at "z"; walk_at "len")
  | ((with_reducible apply ev_tup); walk_at "ed"; walk_at "sz")
  | ((with_reducible apply ev_lstI); walk_at "edi"; walk_at "sz")
  | ((with_reducible apply ev_lst); walk_at "ed"; walk_at "sz")
  | ((with_reducible apply et_test); walk_at "z")
  | ((with_reducible apply et_not); walk_at "z")
  | ((with_reducible apply et_truO); exact rfl; walk_at "tru")
  | ((with_reducible apply et_tru); walk_at "z"; walk_at "tru")
  | ((with_reducible apply ev_chain); walk_at "z"; walk_at "z"; exact fun _ _ _ _ h => dup_dat h; walk_at "rr"; (intro _); walk_at "z"; (intro _); walk_at "rr"; (intro _); walk_at "le")
  | ((with_reducible apply et_and); walk_at "z"; (intro _); walk_at "z"; (intro _); walk_at "le")
  | ((with_reducible apply et_or); walk_at "z"; (intro _); walk_at "z"; (intro _); walk_at "le")
  | ((with_reducible apply ev_andV); walk_at "z"; (intro _); walk_at "z"; (intro _); walk_at "le")
  | ((with_reducible apply ev_orV); walk_at "z"; (intro _); walk_at "z"; (intro _); walk_at "le")
  | ((with_reducible apply ev_notV); walk_at "z")
  | ((with_reducible apply ev_slLi); walk_at "z"; walk_at "eo"; walk_at "eo")
  | ((with_reducible apply ev_slLo); walk_at "z"; walk_at "eo"; walk_at "eo")
  | ((with_reducible apply ev_slOi); exact rfl; walk_at "eo"; walk_at "eo")
  | ((with_reducible apply ev_c1b); exact rfl; walk_at "ct")
  | ((with_reducible apply ev_c1s); exact rfl; walk_at "ct")
  | ((with_reducible apply ev_isB); walk_at "z"; walk_at "ty"; walk_at "kb")
  | ((with_reducible apply ev_ce); walk_at "eds"; walk_at "ct")
  | ((with_reducible apply ev_c2b); walk_at "z"; exact rfl; walk_at "ct")
  | ((with_reducible apply ev_c2l); exact rfl; walk_at "z"; exact rfl; walk_at "ct")
  | ((with_reducible apply ev_mv); exact rfl)
  | ((with_reducible apply ev_fz); walk_at "z"))
local macro_rules | `(tactic| walk_at "set") => `(tactic| (apply do_seq; (with_reducible apply do_set1); walk_at "z"; exact Nat.le_of_ble_eq_true rfl; exact rfl))
local macro_rules | `(tactic| walk_at "ret") => `(tactic| ((with_reducible apply do_ret1); walk_at "z"))
local macro_rules | `(tactic| walk_at "iw") => `(tactic| first
  | ((apply iw_listD); walk_at "z")
  | ((apply iw_listO); walk_at "z")
  | ((apply iw_rng1); walk_at "ed"; first | exact ⟨by omega, by omega⟩ | walk_at "pre")
  | ((apply iw_rng2); walk_at "ed"; first | exact ⟨by omega, by omega, by omega, by omega⟩ | walk_at "pre")
  | ((apply iw_rng3); walk_at "ed")
  | ((apply iw_tup); walk_at "z"))
local macro_rules | `(tactic| walk_at "eo") => `(tactic| first | exact eo_none | ((apply eo_some); walk_at "z"))
local macro_rules | `(tactic| walk_at "sl") => `(tactic| first
  | ((apply ev_slLi); walk_at "z"; walk_at "eo"; walk_at "eo")
  | ((apply ev_slLo); walk_at "z"; walk_at "eo"; walk_at "eo")
  | ((apply ev_slOi); exact rfl; walk_at "eo"; walk_at "eo"))
local macro_rules | `(tactic| walk_at "lt") => `(tactic| exact Nat.le_of_ble_eq_true rfl)
local macro_rules | `(tactic| walk_at "setq") => `(tactic| (apply do_seq; (with_reducible apply do_set1)))
local macro_rules | `(tactic| walk_at "lr") => `(tactic| (exact Nat.le_of_ble_eq_true rfl; exact rfl))
local macro_rules | `(tactic| walk_at "pin") => `(tactic| (intro i v h; rcases i with _ | _ | _ | _ | _ | i <;> simp_all))
local macro_rules | `(tactic| walk_at "exi") => `(tactic| (apply Exists.intro; apply And.intro))
namespace L61
variable {K : PySem.W.Frag}
def aN (n : Int) : Int := if n < 0 then 0 - n else n
/-! _law_number -/
def sp_u_law_number (K : PySem.W.Frag) : Sp := SpZ (fun (n : (Int)) => True) (fun (n : (Int)) => [some (dI K n)]) (fun (n : (Int)) => dI K (aN n)) (fun (n : (Int)) => [none])
theorem pure_u_law_number (vs : List V) (H : Hp) (Q : VK) (E : XK) (h : sp_u_law_number K vs H Q E) : t_u_law_number K { nx := fun _ H' => Q .non H', rt := Q } (start N_u_law_number vs) H := by
  refine body h fun n hp hl => ?_
  match vs, hl with
  | [v1], _ =>
    replace hp : True := hp
    clear h hl
    refine ⟨[some v1], by walk_at "pin", fun B => ?_⟩
    unfold t_u_law_number
    show Do B _ (A [some v1] [some (dI K n)]) ⟨no, Rt (dI K (aN n)) [none] [v1], no, no⟩
    apply do_guard
    · walk_at "z"
    · intro e
      walk_at "ret"
      · have e' : n < 0 := of_decide_eq_true e
        rw [show aN n = 0 - n from if_pos e']
      · walk_at "bk"
    · intro e
      walk_at "ret"
      · have e' : ¬ n < 0 := of_decide_eq_false e
        rw [show aN n = n from if_neg e']
      · walk_at "bk"
theorem ct_u_law_number (n : Int) : Ct (sp_u_law_number K) [some (dI K n)] (dI K (aN n)) [none] := SpZ.ct (α := (Int)) n trivial
local macro_rules | `(tactic| walk_at "ct") => `(tactic| ((with_reducible apply L61.ct_u_law_number) <;> walk_at "pre"))
def nxt (ns : List Int) : Int := ns.getLast?.getD 0
/-! _law_next -/
def sp_u_law_next (K : PySem.W.Frag) : Sp := SpZ (fun (ns : (List Int)) => True) (fun (ns : (List Int)) => [some (oL K ns)]) (fun (ns : (List Int)) => dI K (nxt ns)) (fun (ns : (List Int)) => [some (oL K ns.dropLast)])
theorem pure_u_law_next (vs : List V) (H : Hp) (Q : VK) (E : XK) (h : sp_u_law_next K vs H Q E) : t_u_law_next K { nx := fun _ H' => Q .non H', rt := Q } (start N_u_law_next vs) H := by
  refine body h fun ns hp hl => ?_
  match vs, hl with
  | [v1], _ =>
    replace hp : True := hp
    clear h hl
    refine ⟨[some v1], by walk_at "pin", fun B => ?_⟩
    unfold t_u_law_next
    show Do B _ (A [some v1] [some (oL K ns)]) ⟨no, Rt (dI K (nxt ns)) [some (oL K ns.dropLast)] [v1], no, no⟩
    apply do_guard
    · walk_at "z"
    · intro e
      have hne : ns ≠ [] := by intro z; rw [z] at e; cases e
      obtain ⟨ms, m, rfl⟩ : ∃ ms m, ns = ms ++ [m] := ⟨ns.dropLast, ns.getLast hne, (List.dropLast_concat_getLast hne).symm⟩
      apply do_ret1
      · exact ev_popI rfl
      · simp [nxt]
      · rw [List.dropLast_concat]
        walk_at "bk"
    · intro e
      have hne : ns = [] := by cases ns with
        | nil => rfl
        | cons _ _ => cases e
      subst hne
      walk_at "ret"
      · rfl
      · walk_at "bk"
theorem ct_u_law_next (ns : List Int) : Ct (sp_u_law_next K) [some (oL K ns)] (dI K (nxt ns)) [some (oL K ns.dropLast)] := SpZ.ct (α := (List Int)) ns trivial
local macro_rules | `(tactic| walk_at "ct") => `(tactic| ((with_reducible apply L61.ct_u_law_next) <;> walk_at "pre"))
/-! nodes -/
/-- the nodes of an image -/
def nodesOf : List Int → List (List Int)
  | a :: b :: c :: d :: r => [a, b, c, d] :: nodesOf r
  | _ => []
abbrev tupI (ns : List Int) : PyData := .tuple (ns.map PyData.int)
abbrev nodesD (ns : List Int) : List PyData := (nodesOf ns).map tupI
theorem nodesOf_eq : ∀ (ns : List Int), (List.range (ns.length / 4)).map (fun i => (ns.drop (4 * i)).take 4) = nodesOf ns
  | [] => by simp [nodesOf]
  | [_] => by simp [nodesOf]
  | [_, _] => by simp [nodesOf]
  | [_, _, _] => by simp [nodesOf]
  | a :: b :: c :: d :: r => by
    have ih := nodesOf_eq r
    have e : (a :: b :: c :: d :: r).length / 4 = r.length / 4 + 1 := by simp only [List.length_cons]; omega
    rw [e, List.range_succ_eq_map, List.map_cons, List.map_map, show nodesOf (a :: b :: c :: d :: r) = [a, b, c, d] :: nodesOf r from rfl, ← ih]
    rfl
theorem cut_nat (ns : List Int) (i j : Nat) : cutI ns (some (i : Int)) (some (j : Int)) = (ns.drop i).take (j - i) := by
  unfold cutI
  rw [HT.sIx_nat, HT.sIx_nat]
  apply List.ext_getElem?
  intro k
  simp only [List.getElem?_take, List.getElem?_drop]
  split
  · split
    · congr 1
      omega
    · rw [List.getElem?_eq_none (by omega)]
  · split
    · rw [List.getElem?_eq_none (by omega)]
    · rfl
theorem cut_mul (ns : List Int) (i : Nat) : cutI ns (some ((i : Int) * 4)) (some ((i : Int) * 4 + 4)) = (ns.drop (4 * i)).take 4 := by
  rw [show ((i : Int) * 4) = ((4 * i : Nat) : Int) from by omega, show (((4 * i : Nat) : Int) + 4) = ((4 * i + 4 : Nat) : Int) from by omega, cut_nat, show 4 * i + 4 - 4 * i = 4 from by omega]
theorem rngD_inv {lo c : Int} {n i : Nat} {d : PyData} (h : (rngD lo c n)[i]? = some d) : i < n ∧ d = .int (lo + (i : Nat) * c) := by
  have hi := (List.getElem?_eq_some_iff.mp h).1
  rw [rngD_len] at hi
  rw [rngD_get hi] at h
  exact ⟨hi, (Option.some.inj h).symm⟩
def sp_nodes_of (K : PySem.W.Frag) : Sp := SpZ (fun ns : List Int => ns.length ≤ 1000000) (fun ns => [some (dL K ns)]) (fun ns => lst K (nodesD ns)) fun ns => [none]
theorem pure_nodes_of (vs : List V) (H : Hp) (Q : VK) (E : XK) (h : sp_nodes_of K vs H Q E) : t_nodes_of K { nx := fun _ H' => Q .non H', rt := Q } (start N_nodes_of vs) H := by
  refine body h fun ns hp hl => ?_
  match vs, hl with
  | [v], _ =>
    refine ⟨[some v], by walk_at "pin", fun B => ?_⟩
    unfold t_nodes_of
    apply do_ret1
    · apply ev_lcm (K := K) (fun i => tupI ((ns.drop (4 * i)).take 4))
      · apply iw_rng3 (n := ns.length / 4)
        · walk_at "ed"
        · refine RgC.up (by decide) (by decide) (by decide) (by decide) (by omega) (by omega) ?_
          split <;> omega
      · walk_at "lt"
      · intro i d hd
        obtain ⟨hi, rfl⟩ := rngD_inv hd
        rw [show tupI ((ns.drop (4 * i)).take 4) = .tuple ((cutI ns (some ((i : Int) * 4)) (some ((i : Int) * 4 + 4))).map PyData.int) from by rw [cut_mul], show (0 : Int) + (i : Nat) * 4 = (i : Int) * 4 from by omega]
        apply ev_tuple
        · walk_at "sl"
        · apply seqL_lst
      · rw [rngD_len]
        exact le_line (by omega)
    · rw [rngD_len]
      show lst K _ = lst K (nodesD ns)
      unfold nodesD
      rw [← nodesOf_eq, List.map_map]
      rfl
    · walk_at "bk"
theorem ct_nodes_of (ns : List Int) (h : ns.length ≤ 1000000) : Ct (sp_nodes_of K) [some (dL K ns)] (lst K (nodesD ns)) [none] := SpZ.ct (α := List Int) ns h
local macro_rules | `(tactic| walk_at "ct") => `(tactic| ((with_reducible apply L61.ct_nodes_of) <;> walk_at "pre"))
/-! image_of -/
abbrev imgD (ts : List (List Int)) : PyData := .list (ts.map tupI)
def sp_image_of (K : PySem.W.Frag) : Sp := SpZ (fun ts : List (List Int) => (∀ t ∈ ts, t.length = 4) ∧ ts.length ≤ 100000) (fun ts => [some (dat K (imgD ts))]) (fun ts => oL K ts.flatten) fun ts => [none]
theorem flat_len {ts : List (List Int)} (h : ∀ t ∈ ts, t.length = 4) : ts.flatten.length = 4 * ts.length := by
  induction ts with
  | nil => rfl
  | cons t ts ih =>
    rw [List.flatten_cons, List.length_append, ih fun u hu => h u (List.mem_cons_of_mem _ hu), h t List.mem_cons_self, List.length_cons]
    omega
theorem take_succ_flat {ts : List (List Int)} {i : Nat} {t : List Int} (h : ts[i]? = some t) : (ts.take (i + 1)).flatten = (ts.take i).flatten ++ t := by
  rw [List.take_succ, h]
  simp
theorem four {t : List Int} (h : t.length = 4) : ∃ a b c d, t = [a, b, c, d] := by
  match t, h with
  | [a, b, c, d], _ => exact ⟨a, b, c, d, rfl⟩
theorem pure_image_of (vs : List V) (H : Hp) (Q : VK) (E : XK) (h : sp_image_of K vs H Q E) : t_image_of K { nx := fun _ H' => Q .non H', rt := Q } (start N_image_of vs) H := by
  refine body h fun ts hp hl => ?_
  match vs, hl with
  | [v], _ =>
    obtain ⟨h4, hz⟩ := hp
    refine ⟨[some v], by walk_at "pin", fun B => ?_⟩
    unfold t_image_of
    walk_at "setq"
    · exact ev_lstI (K := K) (ns := []) ed_nil (Nat.zero_le _)
    walk_at "lr"
    apply do_seq
    · apply do_forE (fun i => [some (dat K (imgD ts)), some (oL K (ts.take i).flatten), none, none, none, none]) (fun i d => match ts[i]? with
        | some [a, b, c, d] => [some (dat K (imgD ts)), some (oL K (ts.take i).flatten), some (dI K a), some (dI K b), some (dI K c), some (dI K d)]
        | _ => [])
      · walk_at "iw"
      · walk_at "le"
      · intro i d hd
        rw [List.getElem?_map] at hd
        cases e : ts[i]? with
        | none => rw [e] at hd; cases hd
        | some t =>
          rw [e] at hd
          obtain ⟨a, b, c, d', rfl⟩ := four (h4 t (List.mem_of_getElem? e))
          cases hd
          exact tg_tup (tgs_cons tg_name (tgs_cons tg_name (tgs_cons tg_name (tgs_cons tg_name tgs_nil))))
      · intro i d hd
        rw [List.getElem?_map] at hd
        cases e : ts[i]? with
        | none => rw [e] at hd; cases hd
        | some t =>
          rw [e] at hd
          have hi := (List.getElem?_eq_some_iff.mp e).1
          obtain ⟨a, b, c, d', rfl⟩ := four (h4 t (List.mem_of_getElem? e))
          refine Do.post (do_drop (ev_extendI rfl (ev_lstI (ns := [a, b, c, d']) (ed_ints_cons (ev_var rfl) (ed_ints_cons (ev_var rfl) (ed_ints_cons (ev_var rfl) (ed_ints_cons (ev_var rfl) ed_ints_nil)))) (small _ rfl)) rfl ?_)) fun σ => Im.A ?_
          · rw [flat_len fun t ht => h4 t (List.mem_of_mem_take ht), List.length_take]
            exact le_line (by simp only [List.length_cons, List.length_nil]; omega)
          · rw [take_succ_flat e]
            walk_at "le"
    · apply do_ret1
      · exact ev_mv rfl
      · rw [List.length_map, List.take_length]
      · walk_at "bk"
theorem ct_image_of (ts : List (List Int)) (h : (∀ t ∈ ts, t.length = 4) ∧ ts.length ≤ 100000) : Ct (sp_image_of K) [some (dat K (imgD ts))] (oL K ts.flatten) [none] := SpZ.ct (α := List (List Int)) ts h
local macro_rules | `(tactic| walk_at "ct") => `(tactic| ((with_reducible apply L61.ct_image_of) <;> walk_at "pre"))
/-! is_trap -/
def inR (n : Int) : Bool := decide (0 ≤ n) && decide (n ≤ 126)
def isTrap (l e : List Int) : Bool := (decide (1 ≤ (l.length : Int)) && decide ((l.length : Int) ≤ 12)) && (l.all inR && (decide ((e.length : Int) ≤ 24) && decide ((e.length : Int) % 4 = 0)))
def sp_is_trap (K : PySem.W.Frag) : Sp := SpZ (fun x : List Int × List Int => x.1.length ≤ 1000000 ∧ x.2.length ≤ 1000000) (fun x => [some (dL K x.1), some (dL K x.2)]) (fun x => dB K (isTrap x.1 x.2)) fun x => [none, none]
theorem pure_is_trap (vs : List V) (H : Hp) (Q : VK) (E : XK) (h : sp_is_trap K vs H Q E) : t_is_trap K { nx := fun _ H' => Q .non H', rt := Q } (start N_is_trap vs) H := by
  refine body h fun ⟨l, e⟩ hp hl => ?_
  match vs, hl with
  | [v1, v2], _ =>
    obtain ⟨h1, h2⟩ := hp
    refine ⟨[some v1, some v2], by walk_at "pin", fun B => ?_⟩
    unfold t_is_trap
    apply do_guard
    · walk_at "z"
    · intro ht
      walk_at "ret"
      · unfold isTrap
        rw [Bool.not_eq_true'] at ht
        rw [ht]
        rfl
      · walk_at "bk"
    · intro ht
      have ht' : (decide (1 ≤ (l.length : Int)) && decide ((l.length : Int) ≤ 12)) = true := by simpa using ht
      apply do_guard
      · apply et_tru
        · apply ev_any (bs := l.map fun n => !inR n)
          · apply ev_lcm (K := K) (fun i => .bool (!inR (l.getD i 0)))
            · walk_at "iw"
            · walk_at "lt"
            · intro i d hd
              rw [List.getElem?_map] at hd
              cases e : l[i]? with
              | none => rw [e] at hd; cases hd
              | some n =>
                rw [e] at hd
                cases hd
                rw [show l.getD i 0 = n from by simp [List.getD, e]]
                unfold inR
                walk_at "z"
            · rw [List.length_map]
              exact le_line h1
          · rw [show (List.range (l.map PyData.int).length).map (fun i => PyData.bool (!inR (l.getD i 0))) = (l.map fun n => !inR n).map PyData.bool from by
              apply List.ext_getElem?
              intro i
              simp only [List.length_map, List.getElem?_map, List.getElem?_range']
              by_cases hi : i < l.length
              · rw [List.getElem?_range hi, List.getElem?_eq_getElem hi]
                simp [List.getD, hi]
              · rw [List.getElem?_eq_none (by simp; omega), List.getElem?_eq_none (by omega)]
                rfl]
            apply seqL_lst
        · walk_at "tru"
      · intro ha
        walk_at "ret"
        · unfold isTrap
          rw [ht']
          have : l.all inR = false := by
            rw [List.any_map] at ha
            rw [← Bool.not_eq_true, List.all_eq_true]
            intro hall
            rw [List.any_eq_true] at ha
            obtain ⟨x, hx, hy⟩ := ha
            have := hall x hx
            simp [this] at hy
          rw [this]
          rfl
        · walk_at "bk"
      · intro ha
        walk_at "ret"
        · unfold isTrap
          rw [ht']
          have : l.all inR = true := by
            rw [List.all_eq_true]
            intro x hx
            rw [List.any_map, ← Bool.not_eq_true, List.any_eq_true] at ha
            cases hh : inR x with
            | true => rfl
            | false => exact absurd ⟨x, hx, by simp [hh]⟩ ha
          rw [this]
          rfl
        · walk_at "bk"
theorem ct_is_trap (l e : List Int) (h : l.length ≤ 1000000 ∧ e.length ≤ 1000000) : Ct (sp_is_trap K) [some (dL K l), some (dL K e)] (dB K (isTrap l e)) [none, none] := SpZ.ct (α := List Int × List Int) (l, e) h
local macro_rules | `(tactic| walk_at "ct") => `(tactic| ((with_reducible apply L61.ct_is_trap) <;> walk_at "pre"))
/-! is_plantable -/
theorem nodesOf_four : ∀ (ns : List Int), ∀ t ∈ nodesOf ns, t.length = 4
  | [] => by simp [nodesOf]
  | [_] => by simp [nodesOf]
  | [_, _] => by simp [nodesOf]
  | [_, _, _] => by simp [nodesOf]
  | a :: b :: c :: d :: r => by
    intro t ht
    rw [show nodesOf (a :: b :: c :: d :: r) = [a, b, c, d] :: nodesOf r from rfl] at ht
    rcases List.mem_cons.mp ht with rfl | h
    · rfl
    · exact nodesOf_four r t h
theorem imgD_get {ts : List (List Int)} (h4 : ∀ t ∈ ts, t.length = 4) {i : Nat} {d : PyData} (h : (ts.map tupI)[i]? = some d) : ∃ a b c e, ts[i]? = some [a, b, c, e] ∧ d = tupI [a, b, c, e] := by
  rw [List.getElem?_map] at h
  cases e : ts[i]? with
  | none => rw [e] at h; cases h
  | some t =>
    rw [e] at h
    obtain ⟨a, b, c, d', rfl⟩ := four (h4 t (List.mem_of_getElem? e))
    exact ⟨a, b, c, d', rfl, (Option.some.inj h).symm⟩
def okN : List Int → Bool
  | [a, b, _, _] => !(decide (a = 0) || (decide (1000000 ≤ a) || decide (b = 38)))
  | _ => true
theorem okN_eq {a b c d : Int} : okN [a, b, c, d] = !(decide (a = 0) || (decide (1000000 ≤ a) || decide (b = 38))) := rfl
def plantable (ns : List Int) : Bool := !(decide ((ns.length : Int) < 4) || (!decide ((ns.length : Int) % 4 = 0) || !decide (cutI ns none (some 3) = [0, 32, 0]))) && (nodesOf (cutI ns (some 4) none)).all okN
def sp_is_plantable (K : PySem.W.Frag) : Sp := SpZ (fun ns : List Int => ns.length ≤ 1000000) (fun ns => [some (dL K ns)]) (fun ns => dB K (plantable ns)) fun ns => [none]
theorem cutI_len {α : Type} {ns : List α} {lo hi : Option Int} : (cutI ns lo hi).length ≤ ns.length := by
  unfold cutI
  rw [List.length_take, List.length_drop]
  omega
theorem pure_is_plantable (vs : List V) (H : Hp) (Q : VK) (E : XK) (h : sp_is_plantable K vs H Q E) : t_is_plantable K (sp_nodes_of K) { nx := fun _ H' => Q .non H', rt := Q } (start N_is_plantable vs) H := by
  refine body h fun ns hp hl => ?_
  match vs, hl with
  | [v], _ =>
    refine ⟨[some v], by walk_at "pin", fun B => ?_⟩
    unfold t_is_plantable
    apply do_guard
    · walk_at "z"
    · intro e
      walk_at "ret"
      · unfold plantable
        rw [e]
        rfl
      · walk_at "bk"
    · intro e
      have hp4 := nodesOf_four (cutI ns (some 4) none)
      apply do_seq
      · apply do_forP (fun i => ∀ t ∈ (nodesOf (cutI ns (some 4) none)).take i, okN t = true) (fun _ => [some (dL K ns), none, none, none]) (fun i d => match (nodesOf (cutI ns (some 4) none))[i]? with
          | some [a, b, c, d] => [some (dL K ns), some (dI K a), some (dI K b), some (dI K d)]
          | _ => [])
        · apply iw_listO
          have hq : (cutI ns (some 4) none).length ≤ 1000000 := Nat.le_trans cutI_len hp
          walk_at "z"
        · simp
        · walk_at "le"
        · intro i d hd
          obtain ⟨a, b, c, e, h1, rfl⟩ := imgD_get hp4 hd
          rw [h1]
          exact tg_tup (tgs_cons tg_name (tgs_cons tg_name (tgs_cons tg_name (tgs_cons tg_name tgs_nil))))
        · intro i d hd hall
          obtain ⟨a, b, c, e', h1, rfl⟩ := imgD_get hp4 hd
          rw [h1]
          apply do_if
          · walk_at "z"
          · intro e2
            walk_at "ret"
            · unfold plantable
              rw [show (nodesOf (cutI ns (some 4) none)).all okN = false from by
                rw [← Bool.not_eq_true, List.all_eq_true]
                intro h
                have := h _ (List.mem_of_getElem? h1)
                rw [okN_eq, e2] at this
                exact Bool.noConfusion this, Bool.and_false]
            · walk_at "bk"
          · intro e2
            apply do_nextP
            · intro t ht
              rw [List.take_succ, h1] at ht
              rcases List.mem_append.mp ht with ht | ht
              · exact hall t ht
              · cases List.mem_singleton.mp ht
                rw [okN_eq, e2]
                rfl
            · walk_at "le"
      · apply do_fact
        intro hall
        walk_at "ret"
        · unfold plantable
          rw [e, show (nodesOf (cutI ns (some 4) none)).all okN = true from by
            rw [List.all_eq_true]
            intro t ht
            refine hall t ?_
            rw [show (nodesD (cutI ns (some 4) none)).length = (nodesOf (cutI ns (some 4) none)).length from List.length_map _, List.take_length]
            exact ht]
          rfl
        · walk_at "bk"
theorem ct_is_plantable (ns : List Int) (h : ns.length ≤ 1000000) : Ct (sp_is_plantable K) [some (dL K ns)] (dB K (plantable ns)) [none] := SpZ.ct (α := List Int) ns h
local macro_rules | `(tactic| walk_at "ct") => `(tactic| ((with_reducible apply L61.ct_is_plantable) <;> walk_at "pre"))
/-! beginning, comparison, writing, copying -/
def beginN : List (List Int) := [[0, 35, 3, 1000000], [1000000, 38, 0, 1000000 + 1], [1000000 + 1, 40, 0, 1000000 + 2], [1000000 + 2, 94, 0, 1000000 + 3]]
def compN (at' code en : Int) : List (List Int) := [[at', 44, 0, at' + 1], [at' + 1, 35, code, at' + 2], [at' + 2, 126, 0, at' + 3], [at' + 3, 63, en, at' + 4]]
def writeN (at' n : Int) : List (List Int) := [[at', 35, n, at' + 1], [at' + 1, 46, 0, at' + 2]]
def copyN (a c : Int) : List (List Int) := [[a, 35, -c, a + 1], [a + 1, 34, 0, a + 2], [a + 2, 38, 0, a + 3], [a + 3, 46, 0, a + 4], [a + 4, 35, 1, a + 5], [a + 5, 43, 0, a + 6], [a + 6, 34, 0, a + 7], [a + 7, 63, a + 8, a + 1], [a + 8, 95, 0, a + 9], [a + 9, 41, 0, a + 9 + 1]]
def sp_beginning (K : PySem.W.Frag) : Sp := SpZ (fun _ : Unit => True) (fun _ => []) (fun _ => lst K (beginN.map tupI)) fun _ => []
def sp_comparison (K : PySem.W.Frag) : Sp := SpZ (fun _ : Int × Int × Int => True) (fun x => [some (dI K x.1), some (dI K x.2.1), some (dI K x.2.2)]) (fun x => lst K ((compN x.1 x.2.1 x.2.2).map tupI)) fun _ => [none, none, none]
def sp_writing (K : PySem.W.Frag) : Sp := SpZ (fun _ : Int × Int => True) (fun x => [some (dI K x.1), some (dI K x.2)]) (fun x => lst K ((writeN x.1 x.2).map tupI)) fun _ => [none, none]
def sp_copying (K : PySem.W.Frag) : Sp := SpZ (fun _ : Int × Int => True) (fun x => [some (dI K x.1), some (dI K x.2)]) (fun x => lst K ((copyN x.1 x.2).map tupI)) fun _ => [none, none]
theorem pure_beginning (vs : List V) (H : Hp) (Q : VK) (E : XK) (h : sp_beginning K vs H Q E) : t_beginning K { nx := fun _ H' => Q .non H', rt := Q } (start N_beginning vs) H := by
  refine body h fun _ _ hl => ?_
  match vs, hl with
  | [], _ =>
    refine ⟨[], by walk_at "pin", fun B => ?_⟩
    unfold t_beginning
    walk_at "ret"
    · rfl
    · walk_at "bk"
theorem ct_beginning : Ct (sp_beginning K) [] (lst K (beginN.map tupI)) [] := SpZ.ct (α := Unit) () trivial
local macro_rules | `(tactic| walk_at "ct") => `(tactic| ((with_reducible apply L61.ct_beginning) <;> walk_at "pre"))
theorem pure_comparison (vs : List V) (H : Hp) (Q : VK) (E : XK) (h : sp_comparison K vs H Q E) : t_comparison K { nx := fun _ H' => Q .non H', rt := Q } (start N_comparison vs) H := by
  refine body h fun ⟨a, c, e⟩ _ hl => ?_
  match vs, hl with
  | [v1, v2, v3], _ =>
    refine ⟨[some v1, some v2, some v3], by walk_at "pin", fun B => ?_⟩
    unfold t_comparison
    walk_at "ret"
    · rfl
    · walk_at "bk"
theorem ct_comparison (a c e : Int) : Ct (sp_comparison K) [some (dI K a), some (dI K c), some (dI K e)] (lst K ((compN a c e).map tupI)) [none, none, none] := SpZ.ct (α := Int × Int × Int) (a, c, e) trivial
local macro_rules | `(tactic| walk_at "ct") => `(tactic| ((with_reducible apply L61.ct_comparison) <;> walk_at "pre"))
theorem pure_writing (vs : List V) (H : Hp) (Q : VK) (E : XK) (h : sp_writing K vs H Q E) : t_writing K { nx := fun _ H' => Q .non H', rt := Q } (start N_writing vs) H := by
  refine body h fun ⟨a, c⟩ _ hl => ?_
  match vs, hl with
  | [v1, v2], _ =>
    refine ⟨[some v1, some v2], by walk_at "pin", fun B => ?_⟩
    unfold t_writing
    walk_at "ret"
    · rfl
    · walk_at "bk"
theorem ct_writing (a c : Int) : Ct (sp_writing K) [some (dI K a), some (dI K c)] (lst K ((writeN a c).map tupI)) [none, none] := SpZ.ct (α := Int × Int) (a, c) trivial
local macro_rules | `(tactic| walk_at "ct") => `(tactic| ((with_reducible apply L61.ct_writing) <;> walk_at "pre"))
theorem pure_copying (vs : List V) (H : Hp) (Q : VK) (E : XK) (h : sp_copying K vs H Q E) : t_copying K { nx := fun _ H' => Q .non H', rt := Q } (start N_copying vs) H := by
  refine body h fun ⟨a, c⟩ _ hl => ?_
  match vs, hl with
  | [v1, v2], _ =>
    refine ⟨[some v1, some v2], by walk_at "pin", fun B => ?_⟩
    unfold t_copying
    walk_at "set"
    walk_at "ret"
    · rfl
    · walk_at "bk"
theorem ct_copying (a c : Int) : Ct (sp_copying K) [some (dI K a), some (dI K c)] (lst K ((copyN a c).map tupI)) [none, none] := SpZ.ct (α := Int × Int) (a, c) trivial
local macro_rules | `(tactic| walk_at "ct") => `(tactic| ((with_reducible apply L61.ct_copying) <;> walk_at "pre"))
/-! trap_nodes -/
theorem ints_get {ns : List Int} {i : Nat} {d : PyData} (h : (ns.map PyData.int)[i]? = some d) : i < ns.length ∧ d = .int (ns.getD i 0) := by
  rw [List.getElem?_map] at h
  cases e : ns[i]? with
  | none => rw [e] at h; cases h
  | some n =>
    rw [e] at h
    exact ⟨(List.getElem?_eq_some_iff.mp e).1, by rw [show ns.getD i 0 = n from by simp [List.getD, e]]; exact (Option.some.inj h).symm⟩
def compsN (l : List Int) (en : Int) (n : Nat) : List (List Int) := (List.range n).flatMap fun (i : Nat) => compN (1000000 + 3 + 4 * (i : Int)) (l.getD i 0) en
def writesN (e : List Int) (st : Int) (n : Nat) : List (List Int) := (List.range n).flatMap fun (i : Nat) => writeN (st + 2 * (i : Int)) (e.getD i 0)
theorem compsN_succ {l : List Int} {en : Int} {n : Nat} : compsN l en (n + 1) = compsN l en n ++ compN (1000000 + 3 + 4 * (n : Int)) (l.getD n 0) en := by
  unfold compsN
  rw [List.range_succ, List.flatMap_append, List.flatMap_singleton]
theorem writesN_succ {e : List Int} {st : Int} {n : Nat} : writesN e st (n + 1) = writesN e st n ++ writeN (st + 2 * (n : Int)) (e.getD n 0) := by
  unfold writesN
  rw [List.range_succ, List.flatMap_append, List.flatMap_singleton]
theorem compsN_len {l : List Int} {en : Int} {n : Nat} : (compsN l en n).length = 4 * n := by
  induction n with
  | zero => rfl
  | succ n ih => rw [compsN_succ, List.length_append, ih]; show 4 * n + 4 = _; omega
theorem writesN_len {e : List Int} {st : Int} {n : Nat} : (writesN e st n).length = 2 * n := by
  induction n with
  | zero => rfl
  | succ n ih => rw [writesN_succ, List.length_append, ih]; show 2 * n + 2 = _; omega
def afterOf (l e : List Int) : Int := 1000000 + 3 + 4 * (l.length : Int) + 2 * (e.length : Int)
def cellsOf (l e : List Int) : Int := 4 * (14 + 4 * (l.length : Int) + 2 * (e.length : Int))
def trapN (l e : List Int) : List (List Int) := ((beginN ++ compsN l (afterOf l e + 9) l.length) ++ writesN e (1000000 + 3 + 4 * (l.length : Int)) e.length) ++ copyN (afterOf l e) (cellsOf l e)
def sp_trap_nodes (K : PySem.W.Frag) : Sp := SpZ (fun x : List Int × List Int => x.1.length ≤ 1000 ∧ x.2.length ≤ 1000) (fun x => [some (dL K x.1), some (dL K x.2)]) (fun x => lst K ((trapN x.1 x.2).map tupI)) fun x => [none, none]
theorem pure_trap_nodes (vs : List V) (H : Hp) (Q : VK) (E : XK) (h : sp_trap_nodes K vs H Q E) : t_trap_nodes K (sp_beginning K) (sp_comparison K) (sp_writing K) (sp_copying K) { nx := fun _ H' => Q .non H', rt := Q } (start N_trap_nodes vs) H := by
  refine body h fun ⟨l, e⟩ hp hl => ?_
  match vs, hl with
  | [v1, v2], _ =>
    obtain ⟨h1, h2⟩ := hp
    simp only at h1 h2
    refine ⟨[some v1, some v2], by walk_at "pin", fun B => ?_⟩
    unfold t_trap_nodes
    dsimp only
    walk_at "set"
    walk_at "set"
    walk_at "setq"
    · walk_at "z"
    walk_at "lr"
    walk_at "set"
    apply do_seq
    · apply do_forE (fun i => [some (dL K l), some (dL K e), some (dI K (1000000 + 3)), some (dI K (afterOf l e)), some (lst K ((beginN ++ compsN l (afterOf l e + 9) i).map tupI)), some (dI K (1000000 + 3 + 4 * (i : Int))), none, none, none])
        (fun i d => [some (dL K l), some (dL K e), some (dI K (1000000 + 3)), some (dI K (afterOf l e)), some (lst K ((beginN ++ compsN l (afterOf l e + 9) i).map tupI)), some (dI K (1000000 + 3 + 4 * (i : Int))), some (dat K d), none, none])
      · walk_at "iw"
      · walk_at "le"
      · intro i d hd
        exact tg_name
      · intro i d hd
        obtain ⟨hi, rfl⟩ := ints_get hd
        apply do_seq
        · apply do_drop
          apply ev_extend
          · rfl
          · walk_at "z"
          · exact lst_lst
          · rfl
          · exact le_line (by simp only [List.length_map, List.length_append, compsN_len]; show 4 + _ + 4 ≤ _; omega)
        · apply Do.to
          · apply do_aug1
            · walk_at "z"
            · rfl
            · walk_at "lt"
            · rfl
          · rw [compsN_succ, ← List.append_assoc, List.map_append (l₁ := beginN ++ _), show (1000000 + 3 + 4 * ((i + 1 : Nat) : Int)) = 1000000 + 3 + 4 * (i : Int) + 4 from by omega]
            walk_at "le"
    rw [List.length_map]
    apply do_seq
    · apply do_forE (fun i => [some (dL K l), some (dL K e), some (dI K (1000000 + 3)), some (dI K (afterOf l e)), some (lst K (((beginN ++ compsN l (afterOf l e + 9) l.length) ++ writesN e (1000000 + 3 + 4 * (l.length : Int)) i).map tupI)), some (dI K (1000000 + 3 + 4 * (l.length : Int) + 2 * (i : Int))), none, none, none])
        (fun i d => [some (dL K l), some (dL K e), some (dI K (1000000 + 3)), some (dI K (afterOf l e)), some (lst K (((beginN ++ compsN l (afterOf l e + 9) l.length) ++ writesN e (1000000 + 3 + 4 * (l.length : Int)) i).map tupI)), some (dI K (1000000 + 3 + 4 * (l.length : Int) + 2 * (i : Int))), none, some (dat K d), none])
      · walk_at "iw"
      · rw [show writesN e (1000000 + 3 + 4 * (l.length : Int)) 0 = [] from rfl, List.append_nil, show 1000000 + 3 + 4 * (l.length : Int) + 2 * ((0 : Nat) : Int) = 1000000 + 3 + 4 * (l.length : Int) from by omega]
        walk_at "le"
      · intro i d hd
        exact tg_name
      · intro i d hd
        obtain ⟨hi, rfl⟩ := ints_get hd
        apply do_seq
        · apply do_drop
          apply ev_extend
          · rfl
          · walk_at "z"
          · exact lst_lst
          · rfl
          · exact le_line (by simp only [List.length_map, List.length_append, compsN_len, writesN_len]; show 4 + _ + _ + 2 ≤ _; omega)
        · apply Do.to
          · apply do_aug1
            · walk_at "z"
            · rfl
            · walk_at "lt"
            · rfl
          · rw [writesN_succ, ← List.append_assoc, List.map_append (l₂ := writeN _ _), show (1000000 + 3 + 4 * (l.length : Int) + 2 * ((i + 1 : Nat) : Int)) = 1000000 + 3 + 4 * (l.length : Int) + 2 * (i : Int) + 2 from by omega]
            walk_at "le"
    rw [List.length_map]
    walk_at "set"
    apply do_seq
    · apply do_drop
      apply ev_extend
      · rfl
      · walk_at "z"
      · exact lst_lst
      · rfl
      · exact le_line (by simp only [List.length_map, List.length_append, compsN_len, writesN_len]; show 4 + _ + _ + 10 ≤ _; omega)
    · walk_at "ret"
      · rw [← List.map_append]
        rfl
      · walk_at "bk"
theorem ct_trap_nodes (l e : List Int) (h : l.length ≤ 1000 ∧ e.length ≤ 1000) : Ct (sp_trap_nodes K) [some (dL K l), some (dL K e)] (lst K ((trapN l e).map tupI)) [none, none] := SpZ.ct (α := List Int × List Int) (l, e) h
local macro_rules | `(tactic| walk_at "ct") => `(tactic| ((with_reducible apply L61.ct_trap_nodes) <;> walk_at "pre"))
theorem trapN_len {l e : List Int} : (trapN l e).length = 14 + 4 * l.length + 2 * e.length := by
  unfold trapN
  simp only [List.length_append, compsN_len, writesN_len]
  show 4 + _ + _ + 10 = _
  omega
theorem trapN_four {l e : List Int} : ∀ t ∈ trapN l e, t.length = 4 := by
  intro t ht
  unfold trapN at ht
  rcases List.mem_append.mp ht with ht | ht
  · rcases List.mem_append.mp ht with ht | ht
    · rcases List.mem_append.mp ht with ht | ht
      · simp only [beginN, List.mem_cons, List.not_mem_nil, or_false] at ht
        rcases ht with rfl | rfl | rfl | rfl <;> rfl
      · obtain ⟨i, _, hi⟩ := List.mem_flatMap.mp ht
        simp only [compN, List.mem_cons, List.not_mem_nil, or_false] at hi
        rcases hi with rfl | rfl | rfl | rfl <;> rfl
    · obtain ⟨i, _, hi⟩ := List.mem_flatMap.mp ht
      simp only [writeN, List.mem_cons, List.not_mem_nil, or_false] at hi
      rcases hi with rfl | rfl <;> rfl
  · simp only [copyN, List.mem_cons, List.not_mem_nil, or_false] at ht
    rcases ht with rfl | rfl | rfl | rfl | rfl | rfl | rfl | rfl | rfl | rfl <;> rfl
/-! parts_of -/
def at2 (ts : List (List Int)) (i : Nat) : Int := (ts.getD i []).getD 2 0
def lureOf (ts : List (List Int)) (n : Nat) : List Int := (List.range n).map fun k => at2 ts (4 + 4 * k + 1)
def extraOf (ts : List (List Int)) (L n : Nat) : List Int := (List.range n).map fun k => at2 ts (4 + 4 * L + 2 * k)
abbrev pairD (l e : List Int) : PyData := .tuple [.list (l.map PyData.int), .list (e.map PyData.int)]
theorem at2_get {ts : List (List Int)} (h4 : ∀ t ∈ ts, t.length = 4) {i : Nat} (hi : i < ts.length) {j : Int} (hj : j = i) : ∃ a b d, atI (ts.map tupI) j = some (.tuple [.int a, .int b, .int (at2 ts i), .int d]) := by
  obtain ⟨a, b, c, d, e⟩ := four (h4 ts[i] (List.getElem_mem hi))
  have e2 : ts[i]? = some [a, b, c, d] := by rw [List.getElem?_eq_getElem hi, e]
  refine ⟨a, b, d, ?_⟩
  rw [show at2 ts i = c from by unfold at2; simp [List.getD, e2], hj]
  refine atI_nat' (by omega) ?_
  rw [Int.toNat_natCast, List.getElem?_map, e2]
  rfl
def sp_parts_of (K : PySem.W.Frag) : Sp := SpZ (fun x : List (List Int) × Nat × Nat => (∀ t ∈ x.1, t.length = 4) ∧ 4 + 4 * x.2.1 + 2 * x.2.2 ≤ x.1.length ∧ x.1.length ≤ 100000) (fun x => [some (dat K (imgD x.1)), some (dI K x.2.1), some (dI K x.2.2)]) (fun x => dat K (pairD (lureOf x.1 x.2.1) (extraOf x.1 x.2.1 x.2.2))) fun x => [none, none, none]
theorem pure_parts_of (vs : List V) (H : Hp) (Q : VK) (E : XK) (h : sp_parts_of K vs H Q E) : t_parts_of K { nx := fun _ H' => Q .non H', rt := Q } (start N_parts_of vs) H := by
  refine body h fun ⟨ts, L, X⟩ hp hl => ?_
  match vs, hl with
  | [v1, v2, v3], _ =>
    obtain ⟨h4, h1, h2⟩ := hp
    simp only at h4 h1 h2
    refine ⟨[some v1, some v2, some v3], by walk_at "pin", fun B => ?_⟩
    unfold t_parts_of
    dsimp only
    walk_at "set"
    walk_at "set"
    apply do_seq
    · apply do_forE (fun i => [some (dat K (imgD ts)), some (dI K L), some (dI K X), some (dI K (4 + 4 * (i : Int))), some (oL K (lureOf ts i)), none, none])
        (fun i d => [some (dat K (imgD ts)), some (dI K L), some (dI K X), some (dI K (4 + 4 * (i : Int))), some (oL K (lureOf ts i)), some (dat K d), none])
      · walk_at "iw"
      · walk_at "le"
      · intro i d hd
        exact tg_name
      · intro i d hd
        obtain ⟨hi, rfl⟩ := rngD_inv hd
        rw [Int.toNat_natCast] at hi
        obtain ⟨a, b, d, hx⟩ := at2_get h4 (i := 4 + 4 * i + 1) (by omega) (j := 4 + 4 * (i : Int) + 1) (by omega)
        apply do_seq
        · apply do_drop
          apply ev_appendI
          · rfl
          · walk_at "z"
          · rfl
          · exact lt_line (by simp only [lureOf, List.length_map, List.length_range]; omega)
        · apply Do.to
          · apply do_aug1
            · walk_at "z"
            · rfl
            · walk_at "lt"
            · rfl
          · rw [show lureOf ts (i + 1) = lureOf ts i ++ [at2 ts (4 + 4 * i + 1)] from by unfold lureOf; rw [List.range_succ, List.map_append]; rfl, show (4 + 4 * ((i + 1 : Nat) : Int)) = 4 + 4 * (i : Int) + 4 from by omega]
            walk_at "le"
    rw [rngD_len, Int.toNat_natCast]
    walk_at "set"
    apply do_seq
    · apply do_forE (fun i => [some (dat K (imgD ts)), some (dI K L), some (dI K X), some (dI K (4 + 4 * (L : Int) + 2 * (i : Int))), some (oL K (lureOf ts L)), none, some (oL K (extraOf ts L i))])
        (fun i d => [some (dat K (imgD ts)), some (dI K L), some (dI K X), some (dI K (4 + 4 * (L : Int) + 2 * (i : Int))), some (oL K (lureOf ts L)), some (dat K d), some (oL K (extraOf ts L i))])
      · walk_at "iw"
      · rw [show 4 + 4 * (L : Int) + 2 * ((0 : Nat) : Int) = 4 + 4 * (L : Int) from by omega]
        walk_at "le"
      · intro i d hd
        exact tg_name
      · intro i d hd
        obtain ⟨hi, rfl⟩ := rngD_inv hd
        rw [Int.toNat_natCast] at hi
        obtain ⟨a, b, d, hx⟩ := at2_get h4 (i := 4 + 4 * L + 2 * i) (by omega) (j := 4 + 4 * (L : Int) + 2 * (i : Int)) (by omega)
        apply do_seq
        · apply do_drop
          apply ev_appendI
          · rfl
          · walk_at "z"
          · rfl
          · exact lt_line (by simp only [extraOf, List.length_map, List.length_range]; omega)
        · apply Do.to
          · apply do_aug1
            · walk_at "z"
            · rfl
            · walk_at "lt"
            · rfl
          · rw [show extraOf ts L (i + 1) = extraOf ts L i ++ [at2 ts (4 + 4 * L + 2 * i)] from by unfold extraOf; rw [List.range_succ, List.map_append]; rfl, show (4 + 4 * (L : Int) + 2 * ((i + 1 : Nat) : Int)) = 4 + 4 * (L : Int) + 2 * (i : Int) + 2 from by omega]
            walk_at "le"
    rw [rngD_len, Int.toNat_natCast]
    walk_at "ret"
    · rfl
    · walk_at "bk"
theorem ct_parts_of (ts : List (List Int)) (L X : Nat) (h : (∀ t ∈ ts, t.length = 4) ∧ 4 + 4 * L + 2 * X ≤ ts.length ∧ ts.length ≤ 100000) : Ct (sp_parts_of K) [some (dat K (imgD ts)), some (dI K L), some (dI K X)] (dat K (pairD (lureOf ts L) (extraOf ts L X))) [none, none, none] := SpZ.ct (α := List (List Int) × Nat × Nat) (ts, L, X) h
local macro_rules | `(tactic| walk_at "ct") => `(tactic| ((with_reducible apply L61.ct_parts_of) <;> walk_at "pre"))
/-! trap_at_end -/
def cellsN (L X : Nat) : Int := 4 * (14 + 4 * (L : Int) + 2 * (X : Int))
def tailOf (ns : List Int) (L X : Nat) : List Int := cutI ns (some ((ns.length : Int) - cellsN L X)) none
def headOf (ns : List Int) (L X : Nat) : List Int := cutI ns none (some ((ns.length : Int) - cellsN L X))
def trapEnd (ns : List Int) (L X : Nat) : Option (List Int × List Int) :=
  if (ns.length : Int) < cellsN L X + 4 then none
  else if (!isTrap (lureOf (nodesOf (tailOf ns L X)) L) (extraOf (nodesOf (tailOf ns L X)) L X) || !decide ((trapN (lureOf (nodesOf (tailOf ns L X)) L) (extraOf (nodesOf (tailOf ns L X)) L X)).flatten = tailOf ns L X)) = true then none
  else if (!plantable (headOf ns L X)) = true then none
  else some (lureOf (nodesOf (tailOf ns L X)) L, extraOf (nodesOf (tailOf ns L X)) L X)
def optD : Option (List Int × List Int) → PyData
  | none => .none
  | some (l, e) => pairD l e
theorem nodesOf_len (ns : List Int) : (nodesOf ns).length = ns.length / 4 := by
  rw [← nodesOf_eq, List.length_map, List.length_range]
theorem tail_len {ns : List Int} {L X : Nat} (h : ¬ (ns.length : Int) < cellsN L X + 4) : ((tailOf ns L X).length : Int) = cellsN L X := by
  unfold tailOf
  rw [cutI_from (by omega), List.length_drop]
  unfold cellsN at *
  omega
def sp_trap_at_end (K : PySem.W.Frag) : Sp := SpZ (fun x : List Int × Nat × Nat => x.1.length ≤ 1000000 ∧ x.2.1 ≤ 100 ∧ x.2.2 ≤ 100) (fun x => [some (dL K x.1), some (dI K x.2.1), some (dI K x.2.2)]) (fun x => dat K (optD (trapEnd x.1 x.2.1 x.2.2))) fun x => [none, none, none]
theorem pure_trap_at_end (vs : List V) (H : Hp) (Q : VK) (E : XK) (h : sp_trap_at_end K vs H Q E) : t_trap_at_end K (sp_parts_of K) (sp_nodes_of K) (sp_is_trap K) (sp_image_of K) (sp_trap_nodes K) (sp_is_plantable K) { nx := fun _ H' => Q .non H', rt := Q } (start N_trap_at_end vs) H := by
  refine body h fun ⟨ns, L, X⟩ hp hl => ?_
  match vs, hl with
  | [v1, v2, v3], _ =>
    obtain ⟨h1, h2, h3⟩ := hp
    simp only at h1 h2 h3
    refine ⟨[some v1, some v2, some v3], by walk_at "pin", fun B => ?_⟩
    unfold t_trap_at_end
    dsimp only
    walk_at "set"
    rw [show (4 * (14 + 4 * (L : Int) + 2 * (X : Int))) = cellsN L X from rfl]
    apply do_guard
    · walk_at "z"
    · intro e
      have e' : (ns.length : Int) < cellsN L X + 4 := of_decide_eq_true e
      walk_at "ret"
      · unfold trapEnd
        rw [if_pos e']
        rfl
      · walk_at "bk"
    · intro e
      have e' : ¬ (ns.length : Int) < cellsN L X + 4 := of_decide_eq_false e
      have ht := tail_len e'
      have hc : cellsN L X = 4 * (14 + 4 * (L : Int) + 2 * (X : Int)) := rfl
      have hn := nodesOf_len (tailOf ns L X)
      walk_at "setq"
      · apply ev_fz
        walk_at "z"
      walk_at "lr"
      rw [show cutI ns (some ((ns.length : Int) - cellsN L X)) none = tailOf ns L X from rfl]
      apply do_seq
      · apply do_asg
        · have h4 := nodesOf_four (tailOf ns L X)
          walk_at "z"
        · exact tg_tup (tgs_cons tg_name (tgs_cons tg_name tgs_nil))
      generalize hl : lureOf (nodesOf (tailOf ns L X)) L = l
      generalize hx : extraOf (nodesOf (tailOf ns L X)) L X = x
      have ll : l.length = L := by rw [← hl]; simp [lureOf]
      have lx : x.length = X := by rw [← hx]; simp [extraOf]
      apply do_guard
      · have h4 := trapN_four (l := l) (e := x)
        have h5 := trapN_len (l := l) (e := x)
        walk_at "z"
      · intro e2
        walk_at "ret"
        · unfold trapEnd
          rw [if_neg e', hl, hx, if_pos e2]
          rfl
        · walk_at "bk"
      · intro e2
        apply do_guard
        · have hq : (cutI ns none (some ((ns.length : Int) - cellsN L X))).length ≤ 1000000 := Nat.le_trans cutI_len h1
          walk_at "z"
        · intro e3
          walk_at "ret"
          · unfold trapEnd
            rw [if_neg e', hl, hx, if_neg (by rw [e2]; exact Bool.false_ne_true), if_pos (show (!plantable (headOf ns L X)) = true from e3)]
            rfl
          · walk_at "bk"
        · intro e3
          walk_at "ret"
          · unfold trapEnd
            rw [if_neg e', hl, hx, if_neg (by rw [e2]; exact Bool.false_ne_true), if_neg (by rw [show headOf ns L X = cutI ns none (some ((ns.length : Int) - cellsN L X)) from rfl, e3]; exact Bool.false_ne_true)]
            rfl
          · walk_at "bk"
theorem ct_trap_at_end (ns : List Int) (L X : Nat) (h : ns.length ≤ 1000000 ∧ L ≤ 100 ∧ X ≤ 100) : Ct (sp_trap_at_end K) [some (dL K ns), some (dI K L), some (dI K X)] (dat K (optD (trapEnd ns L X))) [none, none, none] := SpZ.ct (α := List Int × Nat × Nat) (ns, L, X) h
local macro_rules | `(tactic| walk_at "ct") => `(tactic| ((with_reducible apply L61.ct_trap_at_end) <;> walk_at "pre"))
/-! planted -/
def plantedF (ns : List Int) : Option (List Int × List Int) :=
  if (!decide ((ns.length : Int) % 4 = 0)) = true then none else (List.range 12).findSome? fun i => (List.range 7).findSome? fun j => trapEnd ns (i + 1) (4 * j)
def sp_planted (K : PySem.W.Frag) : Sp := SpZ (fun ns : List Int => ns.length ≤ 1000000) (fun ns => [some (dL K ns)]) (fun ns => dat K (optD (plantedF ns))) fun ns => [none]
theorem pure_planted (vs : List V) (H : Hp) (Q : VK) (E : XK) (h : sp_planted K vs H Q E) : t_planted K (sp_trap_at_end K) { nx := fun _ H' => Q .non H', rt := Q } (start N_planted vs) H := by
  refine body h fun ns hp hl => ?_
  match vs, hl with
  | [v], _ =>
    refine ⟨[some v], by walk_at "pin", fun B => ?_⟩
    unfold t_planted
    apply do_guard
    · walk_at "z"
    · intro e
      walk_at "ret"
      · unfold plantedF
        rw [if_pos e]
        rfl
      · walk_at "bk"
    · intro e
      apply do_seq
      · apply do_forP (fun i => ∀ i' < i, ((List.range 7).findSome? fun j => trapEnd ns (i' + 1) (4 * j)) = none) (fun _ => [some (dL K ns), none, none, none]) (fun i d => [some (dL K ns), some (dat K d), none, none])
        · walk_at "iw"
        · intro i hi; omega
        · walk_at "le"
        · intro i d hd
          exact tg_name
        · intro i d hd hall
          obtain ⟨hi, rfl⟩ := rngD_inv hd
          rw [show (1 : Int) + (i : Nat) * 1 = ((i + 1 : Nat) : Int) from by omega]
          apply do_forB (p' := ∀ i' < i + 1, ((List.range 7).findSome? fun j => trapEnd ns (i' + 1) (4 * j)) = none) (fun j => ∀ j' < j, trapEnd ns (i + 1) (4 * j') = none) (fun _ => [some (dL K ns), some (dI K ((i + 1 : Nat) : Int)), none, none]) (fun j d => [some (dL K ns), some (dI K ((i + 1 : Nat) : Int)), some (dat K d), none])
          · apply iw_rng3 (n := 7)
            · walk_at "ed"
            · exact RgC.up (by decide) (by decide) (by decide) (by decide) (by decide) (by decide) (by decide)
          · intro i hi; omega
          · walk_at "le"
          · intro j d hd
            exact tg_name
          · intro j d hd hall2
            obtain ⟨hj, rfl⟩ := rngD_inv hd
            rw [show (0 : Int) + (j : Nat) * 4 = ((4 * j : Nat) : Int) from by omega]
            have hi' : i < 12 := hi
            walk_at "setq"
            · walk_at "z"
            walk_at "lr"
            apply do_if
            · walk_at "z"
            · intro e2
              walk_at "ret"
              · unfold plantedF
                rw [if_neg (by rw [e]; exact Bool.false_ne_true)]
                cases e3 : trapEnd ns (i + 1) (4 * j) with
                | none => rw [e3] at e2; cases e2
                | some x => rw [findSome_first hi' hall (findSome_first hj hall2 e3)]
              · walk_at "bk"
            · intro e2
              apply do_nextP
              · intro j' hj'
                by_cases hjj : j' < j
                · exact hall2 j' hjj
                · rw [show j' = j from by omega]
                  cases e3 : trapEnd ns (i + 1) (4 * j) with
                  | none => rfl
                  | some x => rw [e3] at e2; cases e2
              · walk_at "le"
          · intro hall2 i' hi'
            by_cases hii : i' < i
            · exact hall i' hii
            · rw [show i' = i from by omega]
              exact findSome_none (by rw [rngD_len] at hall2; exact hall2)
          · walk_at "le"
      · apply do_fact
        intro hall
        walk_at "ret"
        · unfold plantedF
          rw [if_neg (by rw [e]; exact Bool.false_ne_true), findSome_none (by rw [rngD_len] at hall; exact hall)]
          rfl
        · walk_at "bk"
theorem ct_planted (ns : List Int) (h : ns.length ≤ 1000000) : Ct (sp_planted K) [some (dL K ns)] (dat K (optD (plantedF ns))) [none] := SpZ.ct (α := List Int) ns h
local macro_rules | `(tactic| walk_at "ct") => `(tactic| ((with_reducible apply L61.ct_planted) <;> walk_at "pre"))
def plantBad (K : PySem.W.Frag) (ns l e : List Int) : Option Err := if (!isTrap l e) = true then some ⟨xc K "BadTrap", none⟩ else if (!plantable ns) = true then some ⟨xc K "NotPlantable", none⟩ else none
/-! plant -/
def sp_plant (K : PySem.W.Frag) : Sp := SpX K (fun (x : (List Int) × (List Int) × (List Int)) => match x with | (ns, l, e) => ns.length ≤ 100000 ∧ l.length ≤ 1000 ∧ e.length ≤ 1000) (fun (x : (List Int) × (List Int) × (List Int)) => match x with | (ns, l, e) => [some (dL K ns), some (dL K l), some (dL K e)]) (fun (x : (List Int) × (List Int) × (List Int)) => match x with | (ns, l, e) => plantBad K ns l e) (fun (x : (List Int) × (List Int) × (List Int)) => match x with | (ns, l, e) => oL K (ns ++ (trapN l e).flatten)) (fun (x : (List Int) × (List Int) × (List Int)) => match x with | (ns, l, e) => [none, none, none])
theorem pure_plant (vs : List V) (H : Hp) (Q : VK) (E : XK) (h : sp_plant K vs H Q E) : t_plant K (sp_is_trap K) (sp_is_plantable K) (sp_image_of K) (sp_trap_nodes K) E { nx := fun _ H' => Q .non H', rt := Q } (start N_plant vs) H := by
  refine bodyX h fun ⟨ns, l, e⟩ hp hl => ?_
  match vs, hl with
  | [v1, v2, v3], _ =>
    replace hp : ns.length ≤ 100000 ∧ l.length ≤ 1000 ∧ e.length ≤ 1000 := hp
    clear h hl
    refine ⟨[some v1, some v2, some v3], by walk_at "pin", fun B hE => ?_⟩
    unfold t_plant
    replace hE : Ex1 K B E (plantBad K ns l e) [none, none, none] [v1, v2, v3] := hE
    show Do B _ (A [some v1, some v2, some v3] [some (dL K ns), some (dL K l), some (dL K e)]) ⟨no, RtX (plantBad K ns l e) (oL K (ns ++ (trapN l e).flatten)) [none, none, none] [v1, v2, v3], no, no⟩
    have h4 := trapN_four (l := l) (e := e)
    have h5 := trapN_len (l := l) (e := e)
    have h6 := flat_len h4
    apply do_guard
    · walk_at "z"
    · intro e1
      apply do_raiseO hE
      · exact if_pos e1
      · walk_at "bk"
    · intro e1
      apply do_guard
      · walk_at "z"
      · intro e2
        apply do_raiseO hE
        · unfold plantBad
          rw [if_neg (by rw [e1]; exact Bool.false_ne_true), if_pos e2]
        · walk_at "bk"
      · intro e2
        apply do_retX
        · walk_at "z"
        · unfold plantBad
          rw [if_neg (by rw [e1]; exact Bool.false_ne_true), if_neg (by rw [e2]; exact Bool.false_ne_true)]
        · rfl
        · walk_at "bk"
theorem ct_plant (ns : List Int) (l : List Int) (e : List Int) (hp : ns.length ≤ 100000 ∧ l.length ≤ 1000 ∧ e.length ≤ 1000) (hb : plantBad K ns l e = none) : Ct (sp_plant K) [some (dL K ns), some (dL K l), some (dL K e)] (oL K (ns ++ (trapN l e).flatten)) [none, none, none] := SpX.ctO (α := (List Int) × (List Int) × (List Int)) (ns, l, e) hp hb
local macro_rules | `(tactic| walk_at "ct") => `(tactic| ((with_reducible apply L61.ct_plant) <;> walk_at "pre"))
theorem cx_plant (ns : List Int) (l : List Int) (e : List Int) (hp : ns.length ≤ 100000 ∧ l.length ≤ 1000 ∧ e.length ≤ 1000) {ee : Err} (hb : plantBad K ns l e = some ee) : CtX K (sp_plant K) [some (dL K ns), some (dL K l), some (dL K e)] ee [none, none, none] := SpX.cx (α := (List Int) × (List Int) × (List Int)) (ns, l, e) hp hb
local macro_rules | `(tactic| walk_at "cx") => `(tactic| ((with_reducible apply L61.cx_plant) <;> walk_at "pre"))
def cleanedBad (K : PySem.W.Frag) (ns : List Int) : Option Err := match plantedF ns with
  | none => some ⟨xc K "NotPlanted", none⟩
  | some _ => none
def cleanedF (ns : List Int) : List Int := match plantedF ns with
  | none => []
  | some (l, e) => cutI ns none (some ((ns.length : Int) - cellsOf l e))
/-! cleaned -/
def sp_cleaned (K : PySem.W.Frag) : Sp := SpX K (fun (ns : (List Int)) => ns.length ≤ 100000) (fun (ns : (List Int)) => [some (dL K ns)]) (fun (ns : (List Int)) => cleanedBad K ns) (fun (ns : (List Int)) => oL K (cleanedF ns)) (fun (ns : (List Int)) => [none])
theorem pure_cleaned (vs : List V) (H : Hp) (Q : VK) (E : XK) (h : sp_cleaned K vs H Q E) : t_cleaned K (sp_planted K) E { nx := fun _ H' => Q .non H', rt := Q } (start N_cleaned vs) H := by
  refine bodyX h fun ns hp hl => ?_
  match vs, hl with
  | [v1], _ =>
    replace hp : ns.length ≤ 100000 := hp
    clear h hl
    refine ⟨[some v1], by walk_at "pin", fun B hE => ?_⟩
    unfold t_cleaned
    replace hE : Ex1 K B E (cleanedBad K ns) [none] [v1] := hE
    show Do B _ (A [some v1] [some (dL K ns), none, none, none, none]) ⟨no, RtX (cleanedBad K ns) (oL K (cleanedF ns)) [none] [v1], no, no⟩
    walk_at "set"
    apply do_guard
    · walk_at "z"
    · intro e1
      have e2 : plantedF ns = none := by
        cases h : plantedF ns with
        | none => rfl
        | some x => rw [h] at e1; cases e1
      apply do_raiseO hE
      · unfold cleanedBad
        rw [e2]
      · walk_at "bk"
    · intro e1
      obtain ⟨l, e, e2⟩ : ∃ l e, plantedF ns = some (l, e) := by
        cases h : plantedF ns with
        | none => rw [h] at e1; cases e1
        | some x => exact ⟨x.1, x.2, rfl⟩
      rw [e2]
      apply do_seq
      · apply do_asg
        · walk_at "z"
        · exact tg_tup (tgs_cons tg_name (tgs_cons tg_name tgs_nil))
      walk_at "set"
      apply do_retX
      · walk_at "z"
      · unfold cleanedBad
        rw [e2]
      · unfold cleanedF
        rw [e2]
        rfl
      · walk_at "bk"
theorem ct_cleaned (ns : List Int) (hp : ns.length ≤ 100000) (hb : cleanedBad K ns = none) : Ct (sp_cleaned K) [some (dL K ns)] (oL K (cleanedF ns)) [none] := SpX.ctO (α := (List Int)) ns hp hb
local macro_rules | `(tactic| walk_at "ct") => `(tactic| ((with_reducible apply L61.ct_cleaned) <;> walk_at "pre"))
theorem cx_cleaned (ns : List Int) (hp : ns.length ≤ 100000) {ee : Err} (hb : cleanedBad K ns = some ee) : CtX K (sp_cleaned K) [some (dL K ns)] ee [none] := SpX.cx (α := (List Int)) ns hp hb
local macro_rules | `(tactic| walk_at "cx") => `(tactic| ((with_reducible apply L61.cx_cleaned) <;> walk_at "pre"))
def clD (ns : List Int) : PyData := match plantedF ns with
  | none => .none
  | some _ => .list ((cleanedF ns).map PyData.int)
/-- what the law asks of the errors' classes -/
structure Xk (K : PySem.W.Frag) : Prop where
  c1 : ExcC K (He.ga K "NotPlanted")
  k1 : PySem.W.kitOne K (xc K "NotPlanted") (xc K "PlinthError") = some true
  m1 : PySem.W.exmOne K (xc K "NotPlanted") (xc K "NotPlanted") = some true
/-! _law_cleaned -/
def sp_u_law_cleaned (K : PySem.W.Frag) : Sp := SpZ (fun (ns : (List Int)) => ns.length ≤ 100000 ∧ Xk K) (fun (ns : (List Int)) => [some (dL K ns)]) (fun (ns : (List Int)) => dat K (clD ns)) (fun (ns : (List Int)) => [none])
theorem pure_u_law_cleaned (vs : List V) (H : Hp) (Q : VK) (E : XK) (h : sp_u_law_cleaned K vs H Q E) : t_u_law_cleaned K (sp_cleaned K) { nx := fun _ H' => Q .non H', rt := Q } (start N_u_law_cleaned vs) H := by
  refine body h fun ns hp hl => ?_
  match vs, hl with
  | [v1], _ =>
    replace hp : ns.length ≤ 100000 ∧ Xk K := hp
    clear h hl
    refine ⟨[some v1], by walk_at "pin", fun B => ?_⟩
    unfold t_u_law_cleaned
    show Do B _ (A [some v1] [some (dL K ns), none]) ⟨no, Rt (dat K (clD ns)) [none] [v1], no, no⟩
    obtain ⟨hp, X⟩ := hp
    cases e1 : plantedF ns with
    | some x =>
      have hb : cleanedBad K ns = none := by unfold cleanedBad; rw [e1]
      apply do_try_ok
      intro W
      apply do_ret1
      · apply ev_fz
        apply ev_ceS
        · walk_at "eds"
        · exact ct_cleaned ns hp hb
      · unfold clD
        rw [e1]
      · walk_at "bk"
    | none =>
      have hb : cleanedBad K ns = some ⟨xc K "NotPlanted", none⟩ := by unfold cleanedBad; rw [e1]
      apply do_try_hit (n1 := no) (b1 := no) (c1 := no)
      · intro B' W hit
        apply do_ret_rz
        apply rz_call
        · walk_at "eds"
        · exact cx_cleaned ns hp hb
        · exact hit
      · exact X.m1
      · walk_at "lt"
      · rfl
      · intro a d
        apply do_plain
        · rfl
        rintro rfl
        apply do_guard
        · apply et_tru
          · exact ev_isX rfl X.c1 X.k1
          · walk_at "tru"
        · intro _
          walk_at "ret"
          · unfold clD
            rw [e1]
          · walk_at "bk"
        · intro z
          cases z
      · exact fun _ _ _ _ z => z.elim
      · exact fun _ _ _ _ z => z.elim
      · exact fun _ _ _ _ z => z.elim
theorem ct_u_law_cleaned (ns : List Int) (hp : ns.length ≤ 100000 ∧ Xk K) : Ct (sp_u_law_cleaned K) [some (dL K ns)] (dat K (clD ns)) [none] := SpZ.ct (α := (List Int)) ns hp
local macro_rules | `(tactic| walk_at "ct") => `(tactic| ((with_reducible apply L61.ct_u_law_cleaned) <;> walk_at "pre"))
/-! the draws -/
def rst (r : Int) : Nat → Int
  | 0 => r
  | i + 1 => if rst r i = 0 then rst r i else rst r i / 1000
def dgs (r : Int) : Nat → List Int
  | 0 => []
  | i + 1 => if rst r i = 0 then dgs r i else dgs r i ++ [rst r i % 1000]
theorem rst_stop {r : Int} {i : Nat} (h : rst r i = 0) : ∀ j, rst r (i + j) = 0 ∧ dgs r (i + j) = dgs r i
  | 0 => ⟨h, rfl⟩
  | j + 1 => by
    obtain ⟨h1, h2⟩ := rst_stop h j
    constructor
    · show (if rst r (i + j) = 0 then rst r (i + j) else rst r (i + j) / 1000) = 0
      rw [if_pos h1, h1]
    · show (if rst r (i + j) = 0 then dgs r (i + j) else dgs r (i + j) ++ [rst r (i + j) % 1000]) = _
      rw [if_pos h1, h2]
theorem dgs_len {r : Int} : ∀ i, (dgs r i).length ≤ i
  | 0 => Nat.le_refl _
  | i + 1 => by
    have := dgs_len (r := r) i
    show (if rst r i = 0 then dgs r i else dgs r i ++ [rst r i % 1000]).length ≤ i + 1
    split
    · omega
    · rw [List.length_append]
      show _ + 1 ≤ _
      omega
theorem dgs_rng {r : Int} : ∀ i, ∀ x ∈ dgs r i, 0 ≤ x ∧ x < 1000
  | 0 => by intro x hx; cases hx
  | i + 1 => by
    have ih := dgs_rng (r := r) i
    intro x hx
    have hx' : x ∈ (if rst r i = 0 then dgs r i else dgs r i ++ [rst r i % 1000]) := hx
    split at hx'
    · exact ih x hx'
    · rcases List.mem_append.mp hx' with h | h
      · exact ih x h
      · rw [List.mem_singleton.mp h]
        omega
def once (r : Int) : Int := (r * 48271 + 11) % 2147483647
def twice (r : Int) : Int := (once r * 69621 + r) % 2147483629
def draw1 (c : Int) : List Int := if 1000000000000000000 ≤ aN c then dgs (aN c) 60 else [aN c % 1000, once (aN c) % 1000, twice (aN c) % 1000]
def drawsF (l : List Int) : List Int := l.flatMap draw1
theorem draw1_rng {c : Int} : ∀ x ∈ draw1 c, 0 ≤ x ∧ x < 1000 := by
  intro x hx
  unfold draw1 at hx
  split at hx
  · exact dgs_rng 60 x hx
  · simp only [List.mem_cons, List.not_mem_nil, or_false] at hx
    rcases hx with rfl | rfl | rfl <;> omega
theorem draw1_len {c : Int} : (draw1 c).length ≤ 60 := by
  unfold draw1
  split
  · exact dgs_len 60
  · show 3 ≤ 60
    omega
theorem drawsF_rng {l : List Int} : ∀ x ∈ drawsF l, 0 ≤ x ∧ x < 1000 := by
  intro x hx
  obtain ⟨c, _, h⟩ := List.mem_flatMap.mp hx
  exact draw1_rng x h
theorem drawsF_len : ∀ {l : List Int}, (drawsF l).length ≤ 60 * l.length
  | [] => Nat.le_refl _
  | c :: l => by
    have h1 := draw1_len (c := c)
    have h2 := drawsF_len (l := l)
    show (draw1 c ++ drawsF l).length ≤ _
    rw [List.length_append, List.length_cons]
    omega
theorem drawsF_succ {l : List Int} {i : Nat} (hi : i < l.length) : drawsF (l.take (i + 1)) = drawsF (l.take i) ++ draw1 (l.getD i 0) := by
  unfold drawsF
  rw [List.take_succ, List.getElem?_eq_getElem hi, List.flatMap_append, show l.getD i 0 = l[i] from by simp [List.getD, hi]]
  simp
/-! _law_draws -/
def sp_u_law_draws (K : PySem.W.Frag) : Sp := SpZ (fun (l : (List Int)) => l.length ≤ 10000) (fun (l : (List Int)) => [some (scr K l)]) (fun (l : (List Int)) => oL K (drawsF l)) (fun (l : (List Int)) => [none])
theorem pure_u_law_draws (vs : List V) (H : Hp) (Q : VK) (E : XK) (h : sp_u_law_draws K vs H Q E) : t_u_law_draws K (sp_u_law_number K) { nx := fun _ H' => Q .non H', rt := Q } (start N_u_law_draws vs) H := by
  refine body h fun l hp hl => ?_
  match vs, hl with
  | [v1], _ =>
    replace hp : l.length ≤ 10000 := hp
    clear h hl
    refine ⟨[some v1], by walk_at "pin", fun B => ?_⟩
    unfold t_u_law_draws
    show Do B _ (A [some v1] [some (scr K l), none, none, none, none, none, none]) ⟨no, Rt (oL K (drawsF l)) [none] [v1], no, no⟩
    walk_at "set"
    apply do_seq
    · apply do_forE (fun i => [none, some (oL K (drawsF (l.take i))), none, none, none, none, none]) (fun i d => [none, some (oL K (drawsF (l.take i))), some (dat K d), none, none, none, none])
      · exact iw_list (ev_mv rfl) wlk_scr
      · walk_at "le"
      · intro i d hd
        exact tg_name
      · intro i d hd
        obtain ⟨hi, rfl⟩ := ints_get hd
        rw [drawsF_succ hi]
        have hz := drawsF_len (l := l.take i)
        have hz2 : (l.take i).length ≤ l.length := by rw [List.length_take]; omega
        generalize drawsF (l.take i) = acc at *
        generalize l.getD i 0 = c
        walk_at "set"
        apply do_if
        · walk_at "z"
        · intro e
          have e' : 1000000000000000000 ≤ aN c := of_decide_eq_true e
          rw [show draw1 c = dgs (aN c) 60 from if_pos e']
          generalize aN c = r
          apply Do.to
          · apply do_forA (ds := rngD 0 1 (60 : Int).toNat) (n := A [some v1] [none, some (oL K (acc ++ dgs r 60)), none, none, none, none, none]) (fun i => [none, some (oL K (acc ++ dgs r i)), none, some (dI K (rst r i)), none, none, none]) (fun i d => [none, some (oL K (acc ++ dgs r i)), none, some (dI K (rst r i)), some (dat K d), none, none])
            · walk_at "iw"
            · rw [show dgs r 0 = [] from rfl, List.append_nil]
              walk_at "le"
            · intro j d hd
              exact tg_name
            · intro j d hd
              obtain ⟨hj, rfl⟩ := rngD_inv hd
              have hj' : j < 60 := hj
              have hl := dgs_len (r := r) j
              apply do_guard
              · walk_at "z"
              · intro e2
                have e3 : rst r j = 0 := of_decide_eq_true e2
                have e4 := rst_stop e3 (60 - j)
                rw [show j + (60 - j) = 60 from by omega] at e4
                apply do_brkA
                rw [e4.2]
                walk_at "le"
              · intro e2
                have e3 : ¬ rst r j = 0 := of_decide_eq_false e2
                apply do_seq
                · apply do_drop
                  apply ev_appendI
                  · rfl
                  · walk_at "z"
                  · rfl
                  · exact lt_line (by rw [List.length_append]; omega)
                · apply Do.to
                  · apply do_set1
                    · walk_at "z"
                    · walk_at "lt"
                    · rfl
                  · rw [show dgs r (j + 1) = dgs r j ++ [rst r j % 1000] from if_neg e3, show rst r (j + 1) = rst r j / 1000 from if_neg e3, ← List.append_assoc]
                    walk_at "le"
            · intro σ
              exact Im.A (by walk_at "le")
          · walk_at "le"
        · intro e
          have e' : ¬ 1000000000000000000 ≤ aN c := of_decide_eq_false e
          rw [show draw1 c = [aN c % 1000, once (aN c) % 1000, twice (aN c) % 1000] from if_neg e']
          generalize aN c = r
          walk_at "set"
          walk_at "set"
          apply Do.to
          · apply do_drop
            apply ev_extendI
            · rfl
            · walk_at "z"
            · rfl
            · exact le_line (by show acc.length + 3 ≤ _; omega)
          · walk_at "le"
    · apply do_ret1
      · exact ev_mv rfl
      · rw [List.length_map, List.take_length]
      · walk_at "bk"
theorem ct_u_law_draws (l : List Int) (hp : l.length ≤ 10000) : Ct (sp_u_law_draws K) [some (scr K l)] (oL K (drawsF l)) [none] := SpZ.ct (α := (List Int)) l hp
local macro_rules | `(tactic| walk_at "ct") => `(tactic| ((with_reducible apply L61.ct_u_law_draws) <;> walk_at "pre"))
/-! _law_is_integer -/
def sp_u_law_is_integer (K : PySem.W.Frag) : Sp := SpZ (fun (n : (Int)) => True) (fun (n : (Int)) => [some (dI K n)]) (fun (n : (Int)) => dB K true) (fun (n : (Int)) => [none])
theorem pure_u_law_is_integer (vs : List V) (H : Hp) (Q : VK) (E : XK) (h : sp_u_law_is_integer K vs H Q E) : t_u_law_is_integer K { nx := fun _ H' => Q .non H', rt := Q } (start N_u_law_is_integer vs) H := by
  refine body h fun n hp hl => ?_
  match vs, hl with
  | [v1], _ =>
    replace hp : True := hp
    clear h hl
    refine ⟨[some v1], by walk_at "pin", fun B => ?_⟩
    unfold t_u_law_is_integer
    show Do B _ (A [some v1] [some (dI K n)]) ⟨no, Rt (dB K true) [none] [v1], no, no⟩
    walk_at "ret"
    · rfl
    · walk_at "bk"
theorem ct_u_law_is_integer (n : Int) : Ct (sp_u_law_is_integer K) [some (dI K n)] (dB K true) [none] := SpZ.ct (α := (Int)) n trivial
local macro_rules | `(tactic| walk_at "ct") => `(tactic| ((with_reducible apply L61.ct_u_law_is_integer) <;> walk_at "pre"))
/-! _law_is_integers -/
def sp_u_law_is_integers (K : PySem.W.Frag) : Sp := SpZ (fun (ns : (List Int)) => True) (fun (ns : (List Int)) => [some (dL K ns)]) (fun (ns : (List Int)) => dB K true) (fun (ns : (List Int)) => [none])
theorem pure_u_law_is_integers (vs : List V) (H : Hp) (Q : VK) (E : XK) (h : sp_u_law_is_integers K vs H Q E) : t_u_law_is_integers K (sp_u_law_is_integer K) { nx := fun _ H' => Q .non H', rt := Q } (start N_u_law_is_integers vs) H := by
  refine body h fun ns hp hl => ?_
  match vs, hl with
  | [v1], _ =>
    replace hp : True := hp
    clear h hl
    refine ⟨[some v1], by walk_at "pin", fun B => ?_⟩
    unfold t_u_law_is_integers
    show Do B _ (A [some v1] [some (dL K ns), none]) ⟨no, Rt (dB K true) [none] [v1], no, no⟩
    apply do_guard
    · walk_at "z"
    · intro z
      cases z
    · intro _
      apply do_seq
      · apply do_forE (fun _ => [some (dL K ns), none]) (fun _ d => [some (dL K ns), some (dat K d)])
        · walk_at "iw"
        · walk_at "le"
        · intro i d hd
          exact tg_name
        · intro i d hd
          obtain ⟨hi, rfl⟩ := ints_get hd
          apply do_if
          · walk_at "z"
          · intro z
            cases z
          · intro _
            apply do_nextA
            walk_at "le"
      · walk_at "ret"
        · rfl
        · walk_at "bk"
theorem ct_u_law_is_integers (ns : List Int) : Ct (sp_u_law_is_integers K) [some (dL K ns)] (dB K true) [none] := SpZ.ct (α := (List Int)) ns trivial
local macro_rules | `(tactic| walk_at "ct") => `(tactic| ((with_reducible apply L61.ct_u_law_is_integers) <;> walk_at "pre"))
/-! _law_image -/
def imgOp (n : Int) : Int := if n % 127 = 38 then 39 else n % 127
def imgNode (ds : List Int) : List Int := [1 + nxt ds.dropLast % 300, imgOp (nxt ds), nxt ds.dropLast.dropLast - 500, nxt ds.dropLast.dropLast.dropLast]
def imgRest (ds : List Int) : Nat → List Int
  | 0 => ds.dropLast.dropLast
  | i + 1 => (imgRest ds i).dropLast.dropLast.dropLast.dropLast
def imgF (ds : List Int) : Nat → List Int
  | 0 => [0, 32, 0, 200 + nxt ds % 9]
  | i + 1 => imgF ds i ++ imgNode (imgRest ds i)
theorem imgF_len {ds : List Int} : ∀ i, (imgF ds i).length = 4 + 4 * i
  | 0 => rfl
  | i + 1 => by
    show (imgF ds i ++ imgNode (imgRest ds i)).length = _
    rw [List.length_append, imgF_len i]
    show 4 + 4 * i + 4 = _
    omega
def imgN (ds : List Int) : Nat := (nxt ds.dropLast % 20).toNat
/-! _law_image -/
def sp_u_law_image (K : PySem.W.Frag) : Sp := SpZ (fun (ds : (List Int)) => True) (fun (ds : (List Int)) => [some (oL K ds)]) (fun (ds : (List Int)) => oL K (imgF ds (imgN ds))) (fun (ds : (List Int)) => [none])
theorem pure_u_law_image (vs : List V) (H : Hp) (Q : VK) (E : XK) (h : sp_u_law_image K vs H Q E) : t_u_law_image K (sp_u_law_next K) { nx := fun _ H' => Q .non H', rt := Q } (start N_u_law_image vs) H := by
  refine body h fun ds hp hl => ?_
  match vs, hl with
  | [v1], _ =>
    replace hp : True := hp
    clear h hl
    refine ⟨[some v1], by walk_at "pin", fun B => ?_⟩
    unfold t_u_law_image
    show Do B _ (A [some v1] [some (oL K ds), none, none, none]) ⟨no, Rt (oL K (imgF ds (imgN ds))) [none] [v1], no, no⟩
    have h20 : 0 ≤ nxt ds.dropLast % 20 ∧ nxt ds.dropLast % 20 < 20 := by omega
    walk_at "setq"
    · walk_at "z"
    walk_at "lr"
    apply do_seq
    · apply do_forE (fun i => [some (oL K (imgRest ds i)), some (oL K (imgF ds i)), none, none]) (fun i d => [some (oL K (imgRest ds i)), some (oL K (imgF ds i)), some (dat K d), none])
      · walk_at "iw"
      · walk_at "le"
      · intro i d hd
        exact tg_name
      · intro i d hd
        obtain ⟨hi, rfl⟩ := rngD_inv hd
        have hl := imgF_len (ds := ds) i
        have hm : (imgF ds (i + 1)) = imgF ds i ++ imgNode (imgRest ds i) := rfl
        have hr : (imgRest ds (i + 1)) = (imgRest ds i).dropLast.dropLast.dropLast.dropLast := rfl
        rw [hm, hr]
        generalize imgF ds i = im at *
        generalize imgRest ds i = es at *
        walk_at "set"
        apply do_seq (M := A [some v1] [some (oL K es.dropLast), some (oL K im), none, some (dI K (imgOp (nxt es)))])
        · apply do_if
          · walk_at "z"
          · intro e
            have e' : nxt es % 127 = 38 := of_decide_eq_true e
            apply Do.to
            · apply do_set1
              · walk_at "z"
              · walk_at "lt"
              · rfl
            · rw [show imgOp (nxt es) = 39 from if_pos e']
              walk_at "le"
          · intro e
            have e' : ¬ nxt es % 127 = 38 := of_decide_eq_false e
            rw [show imgOp (nxt es) = nxt es % 127 from if_neg e']
            apply do_nextA
            walk_at "le"
        · apply Do.to
          · apply do_drop
            apply ev_extendI
            · rfl
            · walk_at "z"
            · rfl
            · exact le_line (by show im.length + 4 ≤ _; omega)
          · walk_at "le"
    · apply do_ret1
      · exact ev_mv rfl
      · rw [rngD_len]
        rfl
      · walk_at "bk"
theorem ct_u_law_image (ds : List Int) : Ct (sp_u_law_image K) [some (oL K ds)] (oL K (imgF ds (imgN ds))) [none] := SpZ.ct (α := (List Int)) ds trivial
local macro_rules | `(tactic| walk_at "ct") => `(tactic| ((with_reducible apply L61.ct_u_law_image) <;> walk_at "pre"))
/-! _law_changed -/
def chgF (ns ds : List Int) : List Int :=
  let k := nxt ds % 6
  let a := (1000 * nxt ds.dropLast + nxt ds.dropLast.dropLast) / 1
  let p := a % (ns.length : Int)
  if k < 3 then cutI ns none (some p) ++ [at0 ns p + at0 [1, -1, 4] k] ++ cutI ns (some (p + 1)) none
  else if k = 3 then cutI ns none (some ((ns.length : Int) - 1 - a % 5))
  else if k = 4 then ns ++ (List.replicate (1 + a % 5).toNat [a % 7]).flatten
  else cutI ns (some 4) none ++ cutI ns none (some 4)
theorem chgF_len {ns ds : List Int} : (chgF ns ds).length ≤ 2 * ns.length + 10 := by
  unfold chgF
  simp only
  split
  · have h1 := cutI_len (ns := ns) (lo := none) (hi := some ((1000 * nxt ds.dropLast + nxt ds.dropLast.dropLast) / 1 % (ns.length : Int)))
    have h2 := cutI_len (ns := ns) (lo := some ((1000 * nxt ds.dropLast + nxt ds.dropLast.dropLast) / 1 % (ns.length : Int) + 1)) (hi := none)
    simp only [List.length_append, List.length_cons, List.length_nil]
    omega
  · split
    · have h1 := cutI_len (ns := ns) (lo := none) (hi := some ((ns.length : Int) - 1 - (1000 * nxt ds.dropLast + nxt ds.dropLast.dropLast) / 1 % 5))
      omega
    · split
      · simp only [List.length_append, List.length_flatten, List.map_replicate, List.length_cons, List.length_nil, List.sum_replicate_nat]
        omega
      · have h1 := cutI_len (ns := ns) (lo := some 4) (hi := none)
        have h2 := cutI_len (ns := ns) (lo := none) (hi := some 4)
        simp only [List.length_append]
        omega
/-! _law_changed -/
def sp_u_law_changed (K : PySem.W.Frag) : Sp := SpZ (fun (x : (List Int) × (List Int)) => match x with | (ns, ds) => 1 ≤ ns.length ∧ ns.length ≤ 10000) (fun (x : (List Int) × (List Int)) => match x with | (ns, ds) => [some (dL K ns), some (oL K ds)]) (fun (x : (List Int) × (List Int)) => match x with | (ns, ds) => oL K (chgF ns ds)) (fun (x : (List Int) × (List Int)) => match x with | (ns, ds) => [none, none])
theorem pure_u_law_changed (vs : List V) (H : Hp) (Q : VK) (E : XK) (h : sp_u_law_changed K vs H Q E) : t_u_law_changed K (sp_u_law_next K) { nx := fun _ H' => Q .non H', rt := Q } (start N_u_law_changed vs) H := by
  refine body h fun ⟨ns, ds⟩ hp hl => ?_
  match vs, hl with
  | [v1, v2], _ =>
    replace hp : 1 ≤ ns.length ∧ ns.length ≤ 10000 := hp
    clear h hl
    refine ⟨[some v1, some v2], by walk_at "pin", fun B => ?_⟩
    unfold t_u_law_changed
    show Do B _ (A [some v1, some v2] [some (dL K ns), some (oL K ds), none, none, none]) ⟨no, Rt (oL K (chgF ns ds)) [none, none] [v1, v2], no, no⟩
    have h6 : 0 ≤ nxt ds % 6 ∧ nxt ds % 6 < 6 := by omega
    generalize hk : nxt ds % 6 = k at *
    generalize ha : (1000 * nxt ds.dropLast + nxt ds.dropLast.dropLast) / 1 = a at *
    have hlen : 0 < (ns.length : Int) := by omega
    have hp1 := Int.emod_nonneg a (show (ns.length : Int) ≠ 0 from by omega)
    have hp2 := Int.emod_lt_of_pos a hlen
    walk_at "set"
    walk_at "set"
    rw [hk, ha]
    apply do_guard
    · walk_at "z"
    · intro e
      have e' : k < 3 := of_decide_eq_true e
      walk_at "set"
      have hx : atI (ns.map PyData.int) (a % (ns.length : Int)) = some (.int (at0 ns (a % (ns.length : Int)))) := atI_ints hp1 hp2
      have hy : atI ([1, -1, 4].map PyData.int) k = some (.int (at0 [1, -1, 4] k)) := atI_ints h6.1 (by show k < 3; omega)
      have hz : (cutI ns none (some (a % (ns.length : Int)))).length ≤ ns.length := cutI_len
      have hz2 : (cutI ns (some (a % (ns.length : Int) + 1)) none).length ≤ ns.length := cutI_len
      apply do_ret1
      · apply ev_op
        · apply ev_op
          · walk_at "z"
          · apply ev_lstI
            · apply ed_ints_cons
              · apply ev_op
                · walk_at "z"
                · apply ev_op
                  · apply ev_fz
                    apply ev_lstI (ns := [1, -1, 4])
                    · walk_at "edi"
                    · walk_at "sz"
                  · walk_at "z"
                  · walk_at "rr"
                · walk_at "rr"
              · walk_at "edi"
            · walk_at "sz"
          · apply rr_addLi
            exact le_line (by simp only [List.length_cons, List.length_nil]; omega)
        · walk_at "z"
        · apply rr_addLi
          exact le_line (by simp only [List.length_append, List.length_cons, List.length_nil]; omega)
      · unfold chgF
        simp only
        rw [hk, ha, if_pos e']
      · walk_at "bk"
    · intro e
      have e' : ¬ k < 3 := of_decide_eq_false e
      apply do_guard
      · walk_at "z"
      · intro e2
        have e2' : k = 3 := of_decide_eq_true e2
        walk_at "ret"
        · unfold chgF
          simp only
          rw [hk, ha, if_neg e', if_pos e2']
        · walk_at "bk"
      · intro e2
        have e2' : ¬ k = 3 := of_decide_eq_false e2
        apply do_guard
        · walk_at "z"
        · intro e3
          have e3' : k = 4 := of_decide_eq_true e3
          apply do_ret1
          · apply ev_op
            · walk_at "z"
            · apply ev_op
              · walk_at "z"
              · walk_at "z"
              · apply rr_repI
                · omega
                · exact le_line (by show 1 * _ ≤ _; omega)
            · apply rr_addLdo
              exact le_line (by simp only [List.length_flatten, List.map_replicate, List.length_cons, List.length_nil, List.sum_replicate_nat]; omega)
          · unfold chgF
            simp only
            rw [hk, ha, if_neg e', if_neg e2', if_pos e3']
          · walk_at "bk"
        · intro e3
          have e3' : ¬ k = 4 := of_decide_eq_false e3
          have hz : (cutI ns none (some 4)).length ≤ ns.length := cutI_len
          have hz2 : (cutI ns (some 4) none).length ≤ ns.length := cutI_len
          walk_at "ret"
          · unfold chgF
            simp only
            rw [hk, ha, if_neg e', if_neg e2', if_neg e3']
          · walk_at "bk"
theorem ct_u_law_changed (ns : List Int) (ds : List Int) (hp : 1 ≤ ns.length ∧ ns.length ≤ 10000) : Ct (sp_u_law_changed K) [some (dL K ns), some (oL K ds)] (oL K (chgF ns ds)) [none, none] := SpZ.ct (α := (List Int) × (List Int)) (ns, ds) hp
local macro_rules | `(tactic| walk_at "ct") => `(tactic| ((with_reducible apply L61.ct_u_law_changed) <;> walk_at "pre"))
/-! _law_trap -/
theorem neg_eq (c : Int) : 0 - c = -c := by omega
/-! _law_trap -/
def sp_u_law_trap (K : PySem.W.Frag) : Sp := SpZ (fun (x : (List Int) × (List Int)) => match x with | (l, e) => l.length ≤ 1000 ∧ e.length ≤ 1000) (fun (x : (List Int) × (List Int)) => match x with | (l, e) => [some (dL K l), some (dL K e)]) (fun (x : (List Int) × (List Int)) => match x with | (l, e) => oL K (trapN l e).flatten) (fun (x : (List Int) × (List Int)) => match x with | (l, e) => [none, none])
theorem pure_u_law_trap (vs : List V) (H : Hp) (Q : VK) (E : XK) (h : sp_u_law_trap K vs H Q E) : t_u_law_trap K { nx := fun _ H' => Q .non H', rt := Q } (start N_u_law_trap vs) H := by
  refine body h fun ⟨l, e⟩ hp hl => ?_
  match vs, hl with
  | [v1, v2], _ =>
    replace hp : l.length ≤ 1000 ∧ e.length ≤ 1000 := hp
    clear h hl
    refine ⟨[some v1, some v2], by walk_at "pin", fun B => ?_⟩
    unfold t_u_law_trap
    show Do B _ (A [some v1, some v2] [some (dL K l), some (dL K e), none, none, none, none, none, none, none, none, none, none]) ⟨no, Rt (oL K (trapN l e).flatten) [none, none] [v1, v2], no, no⟩
    obtain ⟨h1, h2⟩ := hp
    walk_at "set"
    walk_at "set"
    walk_at "set"
    walk_at "set"
    walk_at "set"
    apply do_seq
    · apply do_forE (fun i => [some (dL K l), some (dL K e), some (dI K 1000000), some (lst K ((beginN ++ compsN l (afterOf l e + 9) i).map tupI)), some (dI K (1000000 + 3 + 4 * (i : Int))), some (dI K (afterOf l e)), some (dI K (afterOf l e + 9)), none, none, none, none, none])
        (fun i d => [some (dL K l), some (dL K e), some (dI K 1000000), some (lst K ((beginN ++ compsN l (afterOf l e + 9) i).map tupI)), some (dI K (1000000 + 3 + 4 * (i : Int))), some (dI K (afterOf l e)), some (dI K (afterOf l e + 9)), some (dat K d), none, none, none, none])
      · walk_at "iw"
      · walk_at "le"
      · intro i d hd
        exact tg_name
      · intro i d hd
        obtain ⟨hi, rfl⟩ := ints_get hd
        apply do_seq
        · apply do_drop
          apply ev_extend
          · rfl
          · walk_at "z"
          · exact lst_lst
          · rfl
          · exact le_line (by simp only [List.length_map, List.length_append, compsN_len]; show 4 + _ + 4 ≤ _; omega)
        · apply Do.to
          · apply do_set1
            · walk_at "z"
            · walk_at "lt"
            · rfl
          · rw [compsN_succ, ← List.append_assoc, List.map_append (l₁ := beginN ++ _), show (1000000 + 3 + 4 * ((i + 1 : Nat) : Int)) = 1000000 + 3 + 4 * (i : Int) + 4 from by omega]
            walk_at "le"
    rw [List.length_map]
    apply do_seq
    · apply do_forE (fun i => [some (dL K l), some (dL K e), some (dI K 1000000), some (lst K (((beginN ++ compsN l (afterOf l e + 9) l.length) ++ writesN e (1000000 + 3 + 4 * (l.length : Int)) i).map tupI)), some (dI K (1000000 + 3 + 4 * (l.length : Int) + 2 * (i : Int))), some (dI K (afterOf l e)), some (dI K (afterOf l e + 9)), none, none, none, none, none])
        (fun i d => [some (dL K l), some (dL K e), some (dI K 1000000), some (lst K (((beginN ++ compsN l (afterOf l e + 9) l.length) ++ writesN e (1000000 + 3 + 4 * (l.length : Int)) i).map tupI)), some (dI K (1000000 + 3 + 4 * (l.length : Int) + 2 * (i : Int))), some (dI K (afterOf l e)), some (dI K (afterOf l e + 9)), none, some (dat K d), none, none, none])
      · walk_at "iw"
      · rw [show writesN e (1000000 + 3 + 4 * (l.length : Int)) 0 = [] from rfl, List.append_nil, show 1000000 + 3 + 4 * (l.length : Int) + 2 * ((0 : Nat) : Int) = 1000000 + 3 + 4 * (l.length : Int) from by omega]
        walk_at "le"
      · intro i d hd
        exact tg_name
      · intro i d hd
        obtain ⟨hi, rfl⟩ := ints_get hd
        apply do_seq
        · apply do_drop
          apply ev_extend
          · rfl
          · walk_at "z"
          · exact lst_lst
          · rfl
          · exact le_line (by simp only [List.length_map, List.length_append, compsN_len, writesN_len]; show 4 + _ + _ + 2 ≤ _; omega)
        · apply Do.to
          · apply do_set1
            · walk_at "z"
            · walk_at "lt"
            · rfl
          · rw [writesN_succ, ← List.append_assoc, List.map_append (l₂ := writeN _ _), show (1000000 + 3 + 4 * (l.length : Int) + 2 * ((i + 1 : Nat) : Int)) = 1000000 + 3 + 4 * (l.length : Int) + 2 * (i : Int) + 2 from by omega]
            walk_at "le"
    rw [List.length_map]
    have hq : ((beginN ++ compsN l (afterOf l e + 9) l.length) ++ writesN e (1000000 + 3 + 4 * (l.length : Int)) e.length).length = 4 + 4 * l.length + 2 * e.length := by
      simp only [List.length_append, compsN_len, writesN_len]
      rfl
    walk_at "set"
    rw [List.length_map, hq, show 4 * (((4 + 4 * l.length + 2 * e.length : Nat) : Int) + 10) = cellsOf l e from by unfold cellsOf; omega]
    have ht : trapN l e = (beginN ++ compsN l (afterOf l e + 9) l.length ++ writesN e (1000000 + 3 + 4 * (l.length : Int)) e.length) ++ copyN (afterOf l e) (cellsOf l e) := rfl
    generalize beginN ++ compsN l (afterOf l e + 9) l.length ++ writesN e (1000000 + 3 + 4 * (l.length : Int)) e.length = X at *
    generalize cellsOf l e = c at *
    generalize afterOf l e = a at *
    apply do_seq
    · apply do_drop
      apply ev_extend
      · rfl
      · walk_at "z"
      · exact lst_lst
      · rfl
      · exact le_line (by rw [List.length_map, hq]; show _ + 4 ≤ _; omega)
    apply do_seq
    · apply do_drop
      apply ev_extend
      · rfl
      · walk_at "z"
      · exact lst_lst
      · rfl
      · exact le_line (by rw [List.length_append, List.length_map, hq]; show _ + 4 + 4 ≤ _; omega)
    apply do_seq
    · apply do_drop
      apply ev_extend
      · rfl
      · walk_at "z"
      · exact lst_lst
      · rfl
      · exact le_line (by rw [List.length_append, List.length_append, List.length_map, hq]; show _ + 4 + 4 + 2 ≤ _; omega)
    walk_at "setq"
    · exact ev_lstI (K := K) (ns := []) ed_nil (Nat.zero_le _)
    walk_at "lr"
    refine do_frz (k := 3) rfl ?_
    have e2 : (((X.map tupI ++ [.tuple [.int a, .int 35, .int (0 - c), .int (a + 1)], .tuple [.int (a + 1), .int 34, .int 0, .int (a + 2)], .tuple [.int (a + 2), .int 38, .int 0, .int (a + 3)], .tuple [.int (a + 3), .int 46, .int 0, .int (a + 4)]]) ++
        [.tuple [.int (a + 4), .int 35, .int 1, .int (a + 5)], .tuple [.int (a + 5), .int 43, .int 0, .int (a + 6)], .tuple [.int (a + 6), .int 34, .int 0, .int (a + 7)], .tuple [.int (a + 7), .int 63, .int (a + 8), .int (a + 1)]]) ++
        [.tuple [.int (a + 8), .int 95, .int 0, .int (a + 9)], .tuple [.int (a + 9), .int 41, .int 0, .int (a + 9 + 1)]]) = (trapN l e).map tupI := by
      rw [ht, neg_eq, List.map_append, List.append_assoc, List.append_assoc]
      rfl
    have h4 := trapN_four (l := l) (e := e)
    have h5 := trapN_len (l := l) (e := e)
    apply do_seq
    · apply do_forE (fun i => [some (dL K l), some (dL K e), none, none, none, none, none, none, none, none, some (oL K ((trapN l e).take i).flatten), none])
        (fun i d => [some (dL K l), some (dL K e), none, none, none, none, none, none, none, none, some (oL K ((trapN l e).take i).flatten), some (dat K d)])
      · apply iw_listD (ds := (trapN l e).map tupI)
        apply ev_var
        rw [← e2]
        rfl
      · walk_at "le"
      · intro i d hd
        exact tg_name
      · intro i d hd
        obtain ⟨a', b', c', d', h1', rfl⟩ := imgD_get h4 hd
        have hi := (List.getElem?_eq_some_iff.mp h1').1
        apply Do.to
        · apply do_drop
          apply ev_extendI
          · rfl
          · walk_at "z"
          · rfl
          · rw [flat_len fun t ht => h4 t (List.mem_of_mem_take ht), List.length_take]
            exact le_line (by show 4 * _ + 4 ≤ _; omega)
        · rw [take_succ_flat h1']
          walk_at "le"
    · apply do_ret1
      · exact ev_mv rfl
      · rw [List.length_map, List.take_length]
      · walk_at "bk"
theorem ct_u_law_trap (l : List Int) (e : List Int) (hp : l.length ≤ 1000 ∧ e.length ≤ 1000) : Ct (sp_u_law_trap K) [some (dL K l), some (dL K e)] (oL K (trapN l e).flatten) [none, none] := SpZ.ct (α := (List Int) × (List Int)) (l, e) hp
local macro_rules | `(tactic| walk_at "ct") => `(tactic| ((with_reducible apply L61.ct_u_law_trap) <;> walk_at "pre"))
/-! _law_plantable -/
def lwOk (ns : List Int) (k : Nat) : Bool := !((decide (0 < (k : Int)) && decide (at0 ns (4 * (k : Int)) = 0)) || (decide (1000000 ≤ at0 ns (4 * (k : Int))) || decide (at0 ns (4 * (k : Int) + 1) = 38)))
theorem node_at {ns : List Int} {k : Nat} (h : k < ns.length / 4) : ∃ c d, (ns.drop (4 * k)).take 4 = [at0 ns (4 * (k : Int)), at0 ns (4 * (k : Int) + 1), c, d] := by
  have h0 : 4 * k < ns.length := by omega
  have h1 : 4 * k + 1 < ns.length := by omega
  have h2 : 4 * k + 2 < ns.length := by omega
  have h3 : 4 * k + 3 < ns.length := by omega
  refine ⟨ns[4 * k + 2], ns[4 * k + 3], ?_⟩
  have e0 : at0 ns (4 * (k : Int)) = ns[4 * k] := by
    unfold at0
    rw [show (4 * (k : Int)).toNat = 4 * k from by omega, List.getElem?_eq_getElem h0]
    rfl
  have e1 : at0 ns (4 * (k : Int) + 1) = ns[4 * k + 1] := by
    unfold at0
    rw [show (4 * (k : Int) + 1).toNat = 4 * k + 1 from by omega, List.getElem?_eq_getElem h1]
    rfl
  rw [e0, e1]
  apply List.ext_getElem?
  intro j
  rw [List.getElem?_take, List.getElem?_drop]
  by_cases hj : j < 4
  · rw [if_pos hj]
    rcases j with _ | _ | _ | _ | j
    · rw [List.getElem?_eq_getElem (by omega)]; rfl
    · rw [List.getElem?_eq_getElem (by omega)]; rfl
    · rw [List.getElem?_eq_getElem (by omega)]; rfl
    · rw [List.getElem?_eq_getElem (by omega)]; rfl
    · omega
  · rw [if_neg hj, List.getElem?_eq_none (by simp; omega)]
theorem take3 {ns : List Int} (h : cutI ns none (some 3) = [0, 32, 0]) : at0 ns 0 = 0 ∧ at0 ns 1 = 32 := by
  rw [cutI_to (by omega)] at h
  have h0 := congrArg (fun l : List Int => l[0]?) h
  have h1 := congrArg (fun l : List Int => l[1]?) h
  simp only [List.getElem?_take] at h0 h1
  unfold at0
  have e0 : ns[0]? = some 0 := by simpa using h0
  have e1 : ns[1]? = some 32 := by simpa using h1
  exact ⟨by rw [show (0 : Int).toNat = 0 from rfl, e0]; rfl, by rw [show (1 : Int).toNat = 1 from rfl, e1]; rfl⟩
theorem nodes_drop {ns : List Int} (h : 4 ≤ ns.length) : nodesOf (cutI ns (some 4) none) = (List.range (ns.length / 4 - 1)).map fun i => (ns.drop (4 * (i + 1))).take 4 := by
  rw [cutI_from (by omega), ← nodesOf_eq, List.length_drop, show ((4 : Int).toNat) = 4 from rfl, show (ns.length - 4) / 4 = ns.length / 4 - 1 from by omega]
  apply List.map_congr_left
  intro i _
  rw [List.drop_drop, show 4 + 4 * i = 4 * (i + 1) from by omega]
theorem plantable_eq {ns : List Int} (h : (decide ((ns.length : Int) < 4) || (!decide ((ns.length : Int) % 4 = 0) || !decide (cutI ns none (some 3) = [0, 32, 0]))) = false) : plantable ns = true ↔ ∀ k < ns.length / 4, lwOk ns k = true := by
  have h' := h
  simp only [Bool.or_eq_false_iff, decide_eq_false_iff_not, Bool.not_eq_false', decide_eq_true_eq] at h'
  obtain ⟨h1, h2, h3⟩ := h'
  obtain ⟨z0, z1⟩ := take3 h3
  unfold plantable
  rw [h, nodes_drop (by omega), List.all_map]
  constructor
  · intro hh
    rw [Bool.and_eq_true, List.all_eq_true] at hh
    intro k hk
    cases k with
    | zero =>
      unfold lwOk
      rw [show (4 * ((0 : Nat) : Int)) = 0 from rfl, show ((0 : Int) + 1) = 1 from rfl, z0, z1]
      rfl
    | succ k =>
      have := hh.2 k (List.mem_range.mpr (by omega))
      obtain ⟨c, d, e⟩ := node_at hk
      rw [Function.comp_apply, e, okN_eq] at this
      unfold lwOk
      rw [show decide (0 < ((k + 1 : Nat) : Int)) = true from decide_eq_true (by omega), Bool.true_and]
      exact this
  · intro hh
    rw [Bool.and_eq_true, List.all_eq_true]
    refine ⟨rfl, fun k hk => ?_⟩
    have hk' := List.mem_range.mp hk
    have := hh (k + 1) (by omega)
    obtain ⟨c, d, e⟩ := node_at (ns := ns) (k := k + 1) (by omega)
    rw [Function.comp_apply, e, okN_eq]
    unfold lwOk at this
    rw [show decide (0 < ((k + 1 : Nat) : Int)) = true from decide_eq_true (by omega), Bool.true_and] at this
    exact this
/-! _law_plantable -/
def sp_u_law_plantable (K : PySem.W.Frag) : Sp := SpZ (fun (ns : (List Int)) => ns.length ≤ 100000) (fun (ns : (List Int)) => [some (dL K ns)]) (fun (ns : (List Int)) => dB K (plantable ns)) (fun (ns : (List Int)) => [none])
theorem pure_u_law_plantable (vs : List V) (H : Hp) (Q : VK) (E : XK) (h : sp_u_law_plantable K vs H Q E) : t_u_law_plantable K { nx := fun _ H' => Q .non H', rt := Q } (start N_u_law_plantable vs) H := by
  refine body h fun ns hp hl => ?_
  match vs, hl with
  | [v1], _ =>
    replace hp : ns.length ≤ 100000 := hp
    clear h hl
    refine ⟨[some v1], by walk_at "pin", fun B => ?_⟩
    unfold t_u_law_plantable
    show Do B _ (A [some v1] [some (dL K ns), none, none]) ⟨no, Rt (dB K (plantable ns)) [none] [v1], no, no⟩
    apply do_guard
    · walk_at "z"
    · intro e
      walk_at "ret"
      · unfold plantable
        rw [e]
        rfl
      · walk_at "bk"
    · intro e
      have pe := plantable_eq e
      apply do_seq
      · apply do_forP (fun i => ∀ k < i, lwOk ns k = true) (fun _ => [some (dL K ns), none, none]) (fun _ d => [some (dL K ns), some (dat K d), none])
        · apply iw_rng1
          · walk_at "ed"
          · omega
        · intro k hk
          omega
        · walk_at "le"
        · intro i d hd
          exact tg_name
        · intro i d hd hall
          obtain ⟨hi, rfl⟩ := rngD_inv hd
          rw [show (0 : Int) + (i : Nat) * 1 = (i : Int) from by omega]
          have hi' : i < ns.length / 4 := by omega
          have hx : atI (ns.map PyData.int) (4 * (i : Int)) = some (.int (at0 ns (4 * (i : Int)))) := atI_ints (by omega) (by omega)
          have hy : atI (ns.map PyData.int) (4 * (i : Int) + 1) = some (.int (at0 ns (4 * (i : Int) + 1))) := atI_ints (by omega) (by omega)
          walk_at "set"
          apply do_if
          · walk_at "z"
          · intro e2
            walk_at "ret"
            · congr 2
              symm
              rw [← Bool.not_eq_true, pe]
              intro hh
              have := hh i hi'
              unfold lwOk at this
              rw [e2] at this
              exact Bool.noConfusion this
            · walk_at "bk"
          · intro e2
            apply do_nextP
            · intro k hk
              by_cases hki : k < i
              · exact hall k hki
              · rw [show k = i from by omega]
                unfold lwOk
                rw [e2]
                rfl
            · walk_at "le"
      · apply do_fact
        intro hall
        rw [rngD_len] at hall
        walk_at "ret"
        · congr 2
          symm
          rw [pe]
          intro k hk
          exact hall k (by omega)
        · walk_at "bk"
theorem ct_u_law_plantable (ns : List Int) (hp : ns.length ≤ 100000) : Ct (sp_u_law_plantable K) [some (dL K ns)] (dB K (plantable ns)) [none] := SpZ.ct (α := (List Int)) ns hp
local macro_rules | `(tactic| walk_at "ct") => `(tactic| ((with_reducible apply L61.ct_u_law_plantable) <;> walk_at "pre"))
/-! _law_found -/
def fCells (L G : Nat) : Int := 4 * (14 + 4 * (L : Int) + 8 * (G : Int))
def fStart (ns : List Int) (L G : Nat) : Int := (ns.length : Int) - fCells L G
def fLure (ns : List Int) (s : Int) (L : Nat) : List Int := (List.range L).map fun (k : Nat) => at0 ns (s + 4 * (4 + 4 * (k : Int) + 1) + 2)
def fExtra (ns : List Int) (s : Int) (L G : Nat) : List Int := (List.range (4 * G)).map fun (k : Nat) => at0 ns (s + 4 * (4 + 4 * (L : Int) + 2 * (k : Int)) + 2)
def fGood (l : List Int) (L : Nat) : Bool := decide (((l.filter inR).length : Int) = (L : Int))
def foundAt (ns : List Int) (L G : Nat) : Option (List Int × List Int × List Int) :=
  if (decide (fStart ns L G < 4) || !decide (cutI ns (some (fStart ns L G)) (some (fStart ns L G + 3)) = [0, 35, 3])) = true then none
  else if (fGood (fLure ns (fStart ns L G) L) L && (decide ((trapN (fLure ns (fStart ns L G) L) (fExtra ns (fStart ns L G) L G)).flatten = cutI ns (some (fStart ns L G)) none) && plantable (cutI ns none (some (fStart ns L G))))) = true
    then some (fLure ns (fStart ns L G) L, fExtra ns (fStart ns L G) L G, cutI ns none (some (fStart ns L G)))
  else none
def foundF (ns : List Int) : Option (List Int × List Int × List Int) := (List.range 12).findSome? fun i => (List.range 7).findSome? fun j => foundAt ns (i + 1) j
def tripD : Option (List Int × List Int × List Int) → PyData
  | none => .tuple [.list (([] : List Int).map PyData.int), .list (([] : List Int).map PyData.int), .list (([] : List Int).map PyData.int)]
  | some (l, e, s) => .tuple [.list (l.map PyData.int), .list (e.map PyData.int), .list (s.map PyData.int)]
/-! _law_found -/
def sp_u_law_found (K : PySem.W.Frag) : Sp := SpZ (fun (ns : (List Int)) => ns.length ≤ 100000) (fun (ns : (List Int)) => [some (dL K ns)]) (fun (ns : (List Int)) => dat K (tripD (foundF ns))) (fun (ns : (List Int)) => [none])
theorem pure_u_law_found (vs : List V) (H : Hp) (Q : VK) (E : XK) (h : sp_u_law_found K vs H Q E) : t_u_law_found K (sp_u_law_trap K) (sp_u_law_plantable K) { nx := fun _ H' => Q .non H', rt := Q } (start N_u_law_found vs) H := by
  refine body h fun ns hp hl => ?_
  match vs, hl with
  | [v1], _ =>
    replace hp : ns.length ≤ 100000 := hp
    clear h hl
    refine ⟨[some v1], by walk_at "pin", fun B => ?_⟩
    unfold t_u_law_found
    show Do B _ (A [some v1] [some (dL K ns), none, none, none, none, none, none, none, none, none]) ⟨no, Rt (dat K (tripD (foundF ns))) [none] [v1], no, no⟩
    apply do_seq
    · apply do_forP (fun i => ∀ i' < i, ((List.range 7).findSome? fun j => foundAt ns (i' + 1) j) = none) (fun _ => [some (dL K ns), none, none, none, none, none, none, none, none, none]) (fun i d => [some (dL K ns), some (dat K d), none, none, none, none, none, none, none, none])
      · walk_at "iw"
      · intro i hi; omega
      · walk_at "le"
      · intro i d hd
        exact tg_name
      · intro i d hd hall
        obtain ⟨hi, rfl⟩ := rngD_inv hd
        rw [show (1 : Int) + (i : Nat) * 1 = ((i + 1 : Nat) : Int) from by omega]
        apply do_forB (p' := ∀ i' < i + 1, ((List.range 7).findSome? fun j => foundAt ns (i' + 1) j) = none) (fun j => ∀ j' < j, foundAt ns (i + 1) j' = none) (fun _ => [some (dL K ns), some (dI K ((i + 1 : Nat) : Int)), none, none, none, none, none, none, none, none]) (fun j d => [some (dL K ns), some (dI K ((i + 1 : Nat) : Int)), some (dat K d), none, none, none, none, none, none, none])
        · walk_at "iw"
        · intro i hi; omega
        · walk_at "le"
        · intro j d hd
          exact tg_name
        · intro j d hd hall2
          obtain ⟨hj, rfl⟩ := rngD_inv hd
          rw [show (0 : Int) + (j : Nat) * 1 = ((j : Nat) : Int) from by omega]
          have hi' : i < 12 := hi
          have hj' : j < 7 := hj
          have hnext : ∀ {ρ}, foundAt ns (i + 1) j = none → EnLe ρ [some (dL K ns), some (dI K ((i + 1 : Nat) : Int)), none, none, none, none, none, none, none, none] → ∀ σ, Im (A [some v1] ρ σ) (AP (∀ j' < j + 1, foundAt ns (i + 1) j' = none) [some v1] [some (dL K ns), some (dI K ((i + 1 : Nat) : Int)), none, none, none, none, none, none, none, none] σ) := fun h l σ => im_ap (fun j' hjj => by
            by_cases hh : j' < j
            · exact hall2 j' hh
            · rw [show j' = j from by omega]
              exact h) l
          generalize hL : i + 1 = L at *
          have hL2 : L ≤ 12 := by omega
          walk_at "set"
          walk_at "set"
          rw [show (4 * (14 + 4 * (L : Int) + 8 * (j : Int))) = fCells L j from rfl, show (ns.length : Int) - fCells L j = fStart ns L j from rfl]
          have hc : fCells L j = 4 * (14 + 4 * (L : Int) + 8 * (j : Int)) := rfl
          have hs : fStart ns L j = (ns.length : Int) - fCells L j := rfl
          generalize hsv : fStart ns L j = s at *
          apply do_guard
          · walk_at "z"
          · intro e
            apply do_cont
            apply hnext
            · unfold foundAt
              rw [hsv, if_pos e]
            · walk_at "le"
          · intro e
            have e' := e
            simp only [Bool.or_eq_false_iff, decide_eq_false_iff_not, Bool.not_eq_false', decide_eq_true_eq] at e'
            have hl1 : (fLure ns s L).length = L := by simp [fLure]
            have hl2 : (fExtra ns s L j).length = 4 * j := by simp [fExtra]
            have hh : (cutI ns none (some s)).length ≤ 100000 := Nat.le_trans cutI_len hp
            walk_at "setq"
            · apply ev_toL
              · apply ev_lcm (K := K) (fun k => .int (at0 ns (s + 4 * (4 + 4 * (k : Int) + 1) + 2)))
                · walk_at "iw"
                · walk_at "lt"
                · intro k d hd
                  obtain ⟨hk, rfl⟩ := rngD_inv hd
                  rw [show (0 : Int) + (k : Nat) * 1 = (k : Int) from by omega]
                  have hx : atI (ns.map PyData.int) (s + 4 * (4 + 4 * (k : Int) + 1) + 2) = some (.int (at0 ns (s + 4 * (4 + 4 * (k : Int) + 1) + 2))) := atI_ints (by omega) (by omega)
                  walk_at "z"
                · rw [rngD_len]
                  exact le_line (by omega)
              · show _ = (fLure ns s L).map PyData.int
                rw [rngD_len, Int.toNat_natCast]
                unfold fLure
                rw [List.map_map]
                rfl
            walk_at "lr"
            walk_at "setq"
            · apply ev_toL
              · apply ev_lcm (K := K) (fun k => .int (at0 ns (s + 4 * (4 + 4 * (L : Int) + 2 * (k : Int)) + 2)))
                · apply iw_rng1
                  · walk_at "ed"
                  · omega
                · walk_at "lt"
                · intro k d hd
                  obtain ⟨hk, rfl⟩ := rngD_inv hd
                  rw [show (0 : Int) + (k : Nat) * 1 = (k : Int) from by omega]
                  have hx : atI (ns.map PyData.int) (s + 4 * (4 + 4 * (L : Int) + 2 * (k : Int)) + 2) = some (.int (at0 ns (s + 4 * (4 + 4 * (L : Int) + 2 * (k : Int)) + 2))) := atI_ints (by omega) (by omega)
                  walk_at "z"
                · rw [rngD_len]
                  exact le_line (by omega)
              · show _ = (fExtra ns s L j).map PyData.int
                rw [rngD_len, show ((4 * (j : Int)).toNat) = 4 * j from by omega]
                unfold fExtra
                rw [List.map_map]
                rfl
            walk_at "lr"
            have hfa : foundAt ns L j = if (fGood (fLure ns s L) L && (decide ((trapN (fLure ns s L) (fExtra ns s L j)).flatten = cutI ns (some s) none) && plantable (cutI ns none (some s)))) = true then some (fLure ns s L, fExtra ns s L j, cutI ns none (some s)) else none := by
              unfold foundAt
              rw [hsv, if_neg (by rw [e]; exact Bool.false_ne_true)]
            generalize fLure ns s L = l at *
            generalize fExtra ns s L j = x at *
            walk_at "setq"
            · apply ev_op
              · apply ev_len
                · apply ev_toO
                  · apply ev_lcf (K := K) (fun k => inR (l.getD k 0)) (fun k => .int (l.getD k 0))
                    · walk_at "iw"
                    · walk_at "lt"
                    · intro k d hd
                      obtain ⟨hk, rfl⟩ := ints_get hd
                      unfold inR
                      walk_at "z"
                    · intro k d hd
                      obtain ⟨hk, rfl⟩ := ints_get hd
                      walk_at "z"
                    · rw [List.length_map]
                      exact le_line (by omega)
                  · show _ = (l.filter inR).map PyData.int
                    rw [List.length_map, filter_getD]
                · apply len_oL
              · walk_at "z"
              · walk_at "rr"
            walk_at "lr"
            rw [show decide (((l.filter inR).length : Int) = (L : Int)) = fGood l L from rfl]
            apply do_if
            · walk_at "z"
            · intro e2
              walk_at "ret"
              · unfold foundF
                rw [findSome_first hi' hall (by rw [hL]; exact findSome_first hj' hall2 (by rw [hfa, if_pos e2]))]
                rfl
              · walk_at "bk"
            · intro e2
              apply do_next
              apply hnext
              · rw [hfa, if_neg (by rw [e2]; exact Bool.false_ne_true)]
              · walk_at "le"
        · intro hall2 i' hi'
          by_cases hii : i' < i
          · exact hall i' hii
          · rw [show i' = i from by omega]
            exact findSome_none (by rw [rngD_len] at hall2; exact hall2)
        · walk_at "le"
    · apply do_fact
      intro hall
      walk_at "ret"
      · unfold foundF
        rw [findSome_none (by rw [rngD_len] at hall; exact hall)]
        rfl
      · walk_at "bk"
theorem ct_u_law_found (ns : List Int) (hp : ns.length ≤ 100000) : Ct (sp_u_law_found K) [some (dL K ns)] (dat K (tripD (foundF ns))) [none] := SpZ.ct (α := (List Int)) ns hp
local macro_rules | `(tactic| walk_at "ct") => `(tactic| ((with_reducible apply L61.ct_u_law_found) <;> walk_at "pre"))
/-! ### the law's own search and the program's -/
theorem cells_eq {L G : Nat} : cellsN L (4 * G) = fCells L G := by unfold cellsN fCells; omega
theorem at2_tail {ns : List Int} {s : Int} (hs : 0 ≤ s) {i : Nat} (hi : s + 4 * (i : Int) + 4 ≤ ns.length) : at2 (nodesOf (cutI ns (some s) none)) i = at0 ns (s + 4 * (i : Int) + 2) := by
  obtain ⟨m, rfl⟩ := Int.eq_ofNat_of_zero_le hs
  rw [cutI_from hs, Int.toNat_natCast, ← nodesOf_eq]
  have h1 : i < (ns.drop m).length / 4 := by rw [List.length_drop]; omega
  have h2 : m + (4 * i + 2) < ns.length := by omega
  have e : ((List.range ((ns.drop m).length / 4)).map fun i => ((ns.drop m).drop (4 * i)).take 4)[i]? = some (((ns.drop m).drop (4 * i)).take 4) := by
    rw [List.getElem?_map, List.getElem?_range h1]
    rfl
  have e2 : (((ns.drop m).drop (4 * i)).take 4)[2]? = some ns[m + (4 * i + 2)] := by
    rw [List.getElem?_take, if_pos (by omega), List.getElem?_drop, List.getElem?_drop, List.getElem?_eq_getElem h2]
  unfold at2 at0
  rw [show ((m : Int) + 4 * (i : Int) + 2).toNat = m + (4 * i + 2) from by omega, List.getElem?_eq_getElem h2]
  simp only [List.getD, e, e2, Option.getD_some]
theorem good_eq {l : List Int} {L : Nat} (h : l.length = L) : fGood l L = l.all inR := by
  unfold fGood
  rw [Bool.eq_iff_iff, decide_eq_true_eq, List.all_eq_true]
  constructor
  · intro h2
    have h3 : (l.filter inR).length = l.length := by omega
    exact List.filter_eq_self.mp (List.Sublist.eq_of_length List.filter_sublist h3)
  · intro h2
    rw [List.filter_eq_self.mpr h2, h]
theorem take3_trap {l e : List Int} : (trapN l e).flatten.take 3 = [0, 35, 3] := rfl
theorem found_trap {ns : List Int} {L G : Nat} (h1 : 1 ≤ L) (h2 : L ≤ 12) (h3 : G < 7) : foundAt ns L G = (trapEnd ns L (4 * G)).map fun p => (p.1, p.2, headOf ns L (4 * G)) := by
  have hs : fStart ns L G = (ns.length : Int) - cellsN L (4 * G) := by rw [cells_eq]; rfl
  have hc := cells_eq (L := L) (G := G)
  have hc2 : fCells L G = 4 * (14 + 4 * (L : Int) + 8 * (G : Int)) := rfl
  have ht : tailOf ns L (4 * G) = cutI ns (some (fStart ns L G)) none := by rw [hs]; rfl
  have hh : headOf ns L (4 * G) = cutI ns none (some (fStart ns L G)) := by rw [hs]; rfl
  unfold foundAt trapEnd
  rw [ht, hh]
  by_cases c : (ns.length : Int) < cellsN L (4 * G) + 4
  · rw [if_pos c, if_pos (by rw [decide_eq_true (show fStart ns L G < 4 by omega)]; rfl)]
    rfl
  · rw [if_neg c, decide_eq_false (show ¬ fStart ns L G < 4 by omega), Bool.false_or]
    have hl : lureOf (nodesOf (cutI ns (some (fStart ns L G)) none)) L = fLure ns (fStart ns L G) L := by
      unfold lureOf fLure
      apply List.map_congr_left
      intro k hk
      have := List.mem_range.mp hk
      rw [at2_tail (by omega) (by omega)]
      congr 1
    have he : extraOf (nodesOf (cutI ns (some (fStart ns L G)) none)) L (4 * G) = fExtra ns (fStart ns L G) L G := by
      unfold extraOf fExtra
      apply List.map_congr_left
      intro k hk
      have := List.mem_range.mp hk
      rw [at2_tail (by omega) (by omega)]
      congr 1
    rw [hl, he]
    have l1 : (fLure ns (fStart ns L G) L).length = L := by simp [fLure]
    have l2 : (fExtra ns (fStart ns L G) L G).length = 4 * G := by simp [fExtra]
    generalize fLure ns (fStart ns L G) L = l at *
    generalize fExtra ns (fStart ns L G) L G = e at *
    have hg : isTrap l e = fGood l L := by
      rw [good_eq l1]
      unfold isTrap
      rw [decide_eq_true (show (1 : Int) ≤ (l.length : Int) by omega), decide_eq_true (show (l.length : Int) ≤ 12 by omega), decide_eq_true (show (e.length : Int) ≤ 24 by omega), decide_eq_true (show (e.length : Int) % 4 = 0 by omega)]
      simp
    rw [hg]
    have h35 : (trapN l e).flatten = cutI ns (some (fStart ns L G)) none → cutI ns (some (fStart ns L G)) (some (fStart ns L G + 3)) = [0, 35, 3] := by
      intro h
      rw [cutI_at (by omega) (by omega), show ((fStart ns L G + 3).toNat - (fStart ns L G).toNat) = 3 from by omega]
      rw [cutI_from (by omega)] at h
      rw [← h]
      rfl
    by_cases c2 : (trapN l e).flatten = cutI ns (some (fStart ns L G)) none
    · rw [h35 c2, decide_eq_true c2]
      cases fGood l L <;> cases plantable (cutI ns none (some (fStart ns L G))) <;> rfl
    · rw [decide_eq_false c2]
      cases fGood l L <;> cases decide (cutI ns (some (fStart ns L G)) (some (fStart ns L G + 3)) = [0, 35, 3]) <;> rfl
/-- what a find says -/
theorem trapEnd_some {ns l e : List Int} {L X : Nat} (h : trapEnd ns L X = some (l, e)) : (¬ (ns.length : Int) < cellsN L X + 4) ∧ isTrap l e = true ∧ (trapN l e).flatten = tailOf ns L X ∧ plantable (headOf ns L X) = true ∧ l.length = L ∧ e.length = X := by
  unfold trapEnd at h
  split at h
  · cases h
  · split at h
    · cases h
    · split at h
      · cases h
      · rename_i c1 c2 c3
        simp only [Option.some.injEq, Prod.mk.injEq] at h
        obtain ⟨rfl, rfl⟩ := h
        simp only [Bool.or_eq_true, Bool.not_eq_true', decide_eq_false_iff_not, not_or, Bool.not_eq_false, Decidable.not_not] at c2 c3
        exact ⟨c1, c2.1, c2.2, c3, by simp [lureOf], by simp [extraOf]⟩
theorem plantable_len {ns : List Int} (h : plantable ns = true) : 4 ≤ ns.length ∧ ns.length % 4 = 0 ∧ ∀ k < ns.length / 4, lwOk ns k = true := by
  have h0 : (decide ((ns.length : Int) < 4) || (!decide ((ns.length : Int) % 4 = 0) || !decide (cutI ns none (some 3) = [0, 32, 0]))) = false := by
    cases e : (decide ((ns.length : Int) < 4) || (!decide ((ns.length : Int) % 4 = 0) || !decide (cutI ns none (some 3) = [0, 32, 0]))) with
    | false => rfl
    | true =>
      unfold plantable at h
      rw [e] at h
      cases h
  have h2 := (plantable_eq h0).mp h
  simp only [Bool.or_eq_false_iff, decide_eq_false_iff_not, Bool.not_eq_false', decide_eq_true_eq] at h0
  exact ⟨by omega, by omega, h2⟩
/-- a list that a trap can be planted in has no node 0 behind its first -/
theorem no_zero {s1 t1 s2 t2 : List Int} {r : List Int} (h : s1 ++ t1 = s2 ++ t2) (p1 : plantable s1 = true) (l2 : 4 ≤ s2.length) (m2 : s2.length % 4 = 0) (ht : t2 = 0 :: r) : ¬ s2.length < s1.length := by
  intro hl
  obtain ⟨a, b, c⟩ := plantable_len p1
  have := c (s2.length / 4) (by omega)
  unfold lwOk at this
  have e : at0 s1 (4 * ((s2.length / 4 : Nat) : Int)) = 0 := by
    unfold at0
    rw [show (4 * ((s2.length / 4 : Nat) : Int)).toNat = s2.length from by omega]
    have g1 : (s1 ++ t1)[s2.length]? = s1[s2.length]? := List.getElem?_append_left hl
    have g2 : (s2 ++ t2)[s2.length]? = some 0 := by
      rw [List.getElem?_append_right (Nat.le_refl _), Nat.sub_self, ht]
      rfl
    rw [← g1, h, g2]
    rfl
  rw [e, decide_eq_true (show (0 : Int) < ((s2.length / 4 : Nat) : Int) by omega)] at this
  exact Bool.noConfusion this
theorem cut_app {ns : List Int} {s : Int} (hs : 0 ≤ s) : cutI ns none (some s) ++ cutI ns (some s) none = ns := by
  rw [cutI_to hs, cutI_from hs, List.take_append_drop]
theorem trap_cons {l e : List Int} : ∃ r, (trapN l e).flatten = 0 :: r := ⟨_, rfl⟩
theorem nodes_flat : ∀ {ts : List (List Int)}, (∀ t ∈ ts, t.length = 4) → nodesOf ts.flatten = ts
  | [], _ => by simp [nodesOf]
  | t :: ts, h => by
    obtain ⟨a, b, c, d, e⟩ := four (h t List.mem_cons_self)
    subst e
    rw [List.flatten_cons]
    show [a, b, c, d] :: nodesOf ts.flatten = _
    rw [nodes_flat fun u hu => h u (List.mem_cons_of_mem _ hu)]
theorem comps_get {l : List Int} {en : Int} : ∀ {n k j : Nat}, k < n → j < 4 → (compsN l en n)[4 * k + j]? = (compN (1000000 + 3 + 4 * (k : Int)) (l.getD k 0) en)[j]?
  | 0, k, j, h, _ => by omega
  | n + 1, k, j, h, hj => by
    rw [compsN_succ]
    by_cases hk : k < n
    · rw [List.getElem?_append_left (by rw [compsN_len]; omega)]
      exact comps_get hk hj
    · have e : k = n := by omega
      subst e
      rw [List.getElem?_append_right (by rw [compsN_len]; omega), compsN_len, show 4 * k + j - 4 * k = j from by omega]
theorem writes_get {l : List Int} {st : Int} : ∀ {n k j : Nat}, k < n → j < 2 → (writesN l st n)[2 * k + j]? = (writeN (st + 2 * (k : Int)) (l.getD k 0))[j]?
  | 0, k, j, h, _ => by omega
  | n + 1, k, j, h, hj => by
    rw [writesN_succ]
    by_cases hk : k < n
    · rw [List.getElem?_append_left (by rw [writesN_len]; omega)]
      exact writes_get hk hj
    · have e : k = n := by omega
      subst e
      rw [List.getElem?_append_right (by rw [writesN_len]; omega), writesN_len, show 2 * k + j - 2 * k = j from by omega]
theorem lure_trap {l e : List Int} : lureOf (trapN l e) l.length = l := by
  conv => rhs; rw [← map_getD (xs := l)]
  unfold lureOf
  apply List.map_congr_left
  intro k hk
  have hk' := List.mem_range.mp hk
  have g : (trapN l e)[4 + 4 * k + 1]? = some [1000000 + 3 + 4 * (k : Int) + 1, 35, l.getD k 0, 1000000 + 3 + 4 * (k : Int) + 2] := by
    unfold trapN
    rw [List.getElem?_append_left (by simp only [List.length_append, compsN_len, writesN_len]; show _ < 4 + _ + _; omega), List.getElem?_append_left (by simp only [List.length_append, compsN_len]; show _ < 4 + _; omega),
      List.getElem?_append_right (by show 4 ≤ _; omega), show 4 + 4 * k + 1 - beginN.length = 4 * k + 1 from by show 4 + 4 * k + 1 - 4 = _; omega, comps_get hk' (by omega)]
    rfl
  unfold at2
  simp only [List.getD, g, Option.getD_some]
  rfl
theorem extra_trap {l e : List Int} : extraOf (trapN l e) l.length e.length = e := by
  conv => rhs; rw [← map_getD (xs := e)]
  unfold extraOf
  apply List.map_congr_left
  intro k hk
  have hk' := List.mem_range.mp hk
  have g : (trapN l e)[4 + 4 * l.length + 2 * k]? = some [1000000 + 3 + 4 * (l.length : Int) + 2 * (k : Int), 35, e.getD k 0, 1000000 + 3 + 4 * (l.length : Int) + 2 * (k : Int) + 1] := by
    unfold trapN
    rw [List.getElem?_append_left (by simp only [List.length_append, compsN_len, writesN_len]; show _ < 4 + _ + _; omega), List.getElem?_append_right (by simp only [List.length_append, compsN_len]; show 4 + _ ≤ _; omega),
      show 4 + 4 * l.length + 2 * k - (beginN ++ compsN l (afterOf l e + 9) l.length).length = 2 * k + 0 from by simp only [List.length_append, compsN_len]; show 4 + 4 * l.length + 2 * k - (4 + 4 * l.length) = _; omega, writes_get hk' (by omega)]
    rfl
  unfold at2
  simp only [List.getD, g, Option.getD_some]
  rfl
theorem found_start {s0 l e : List Int} (hp : plantable s0 = true) (ht : isTrap l e = true) : ∃ l' e', foundF (s0 ++ (trapN l e).flatten) = some (l', e', s0) := by
  obtain ⟨a0, b0, _⟩ := plantable_len hp
  have hlen : (s0 ++ (trapN l e).flatten).length = s0.length + 4 * (14 + 4 * l.length + 2 * e.length) := by
    rw [List.length_append, flat_len trapN_four, trapN_len]
  have ht' := ht
  unfold isTrap at ht'
  simp only [Bool.and_eq_true, decide_eq_true_eq] at ht'
  obtain ⟨⟨i1, i2⟩, i3, i4, i5⟩ := ht'
  obtain ⟨G, hG⟩ : ∃ G, e.length = 4 * G := ⟨e.length / 4, by omega⟩
  have hG7 : G < 7 := by omega
  generalize hns : s0 ++ (trapN l e).flatten = ns at *
  have uniq : ∀ L' G' x, 1 ≤ L' → L' ≤ 12 → G' < 7 → foundAt ns L' G' = some x → x.2.2 = s0 := by
    intro L' G' x q1 q2 q3 h
    rw [found_trap q1 q2 q3] at h
    cases ht2 : trapEnd ns L' (4 * G') with
    | none => rw [ht2] at h; cases h
    | some p =>
      obtain ⟨l', e'⟩ := p
      rw [ht2] at h
      cases h
      obtain ⟨c1, c2, c3, c4, c5, c6⟩ := trapEnd_some ht2
      show headOf ns L' (4 * G') = s0
      have ap : headOf ns L' (4 * G') ++ (trapN l' e').flatten = ns := by
        rw [c3]
        exact cut_app (by unfold cellsN at *; omega)
      obtain ⟨a1, b1, _⟩ := plantable_len c4
      obtain ⟨r1, e1⟩ := trap_cons (l := l) (e := e)
      obtain ⟨r2, e2⟩ := trap_cons (l := l') (e := e')
      have n1 := no_zero (hns.trans ap.symm) hp a1 b1 e2
      have n2 := no_zero (ap.trans hns.symm) c4 a0 b0 e1
      exact (List.append_inj (ap.trans hns.symm) (by omega)).1
  have hit : foundAt ns l.length G = some (l, e, s0) := by
    have hlen' : (ns.length : Int) = s0.length + 4 * (14 + 4 * l.length + 2 * e.length) := by omega
    have hcs : (ns.length : Int) - cellsN l.length (4 * G) = s0.length := by unfold cellsN; omega
    have htl : tailOf ns l.length (4 * G) = (trapN l e).flatten := by
      unfold tailOf
      rw [hcs, cutI_from (by omega), ← hns, Int.toNat_natCast, List.drop_left]
    have hhd : headOf ns l.length (4 * G) = s0 := by
      unfold headOf
      rw [hcs, cutI_to (by omega), ← hns, Int.toNat_natCast, List.take_left]
    have hnd : nodesOf (trapN l e).flatten = trapN l e := nodes_flat trapN_four
    rw [found_trap (by omega) (by omega) hG7]
    unfold trapEnd
    rw [htl, hhd, hnd, lure_trap, ← hG, extra_trap, ht, hp, if_neg (by unfold cellsN; omega)]
    simp
  cases hf : foundF ns with
  | none =>
    exfalso
    unfold foundF at hf
    rw [List.findSome?_eq_none_iff] at hf
    have h1 := hf (l.length - 1) (List.mem_range.mpr (by omega))
    rw [List.findSome?_eq_none_iff] at h1
    have h2 := h1 G (List.mem_range.mpr hG7)
    rw [show l.length - 1 + 1 = l.length from by omega, hit] at h2
    cases h2
  | some x =>
    unfold foundF at hf
    obtain ⟨i, hi, h1⟩ := List.exists_of_findSome?_eq_some hf
    obtain ⟨j, hj, h2⟩ := List.exists_of_findSome?_eq_some h1
    have := uniq (i + 1) j x (by omega) (by have := List.mem_range.mp hi; omega) (List.mem_range.mp hj) h2
    exact ⟨x.1, x.2.1, by rw [← this]⟩
/-- the program's search tells the same -/
theorem planted_found {ns : List Int} : plantedF ns = (foundF ns).map (fun x => (x.1, x.2.1)) ∧ ∀ x, foundF ns = some x → cleanedF ns = x.2.2 ∧ 4 ≤ x.2.2.length := by
  have inner : ∀ i < 12, ((List.range 7).findSome? fun j => trapEnd ns (i + 1) (4 * j)) = ((List.range 7).findSome? fun j => foundAt ns (i + 1) j).map fun x => (x.1, x.2.1) := by
    intro i hi
    rw [List.map_findSome?]
    apply findSome_congr
    intro j hj
    rw [Function.comp_apply, found_trap (by omega) (by omega) hj]
    cases trapEnd ns (i + 1) (4 * j) <;> rfl
  have outer : ((List.range 12).findSome? fun i => (List.range 7).findSome? fun j => trapEnd ns (i + 1) (4 * j)) = (foundF ns).map fun x => (x.1, x.2.1) := by
    unfold foundF
    rw [List.map_findSome?]
    apply findSome_congr
    intro i hi
    exact inner i hi
  have info : ∀ x, foundF ns = some x → ∃ L G, trapEnd ns L (4 * G) = some (x.1, x.2.1) ∧ x.2.2 = headOf ns L (4 * G) := by
    intro x h
    unfold foundF at h
    obtain ⟨i, hi, h1⟩ := List.exists_of_findSome?_eq_some h
    obtain ⟨j, hj, h2⟩ := List.exists_of_findSome?_eq_some h1
    rw [found_trap (by omega) (by have := List.mem_range.mp hi; omega) (List.mem_range.mp hj)] at h2
    cases h3 : trapEnd ns (i + 1) (4 * j) with
    | none => rw [h3] at h2; cases h2
    | some p =>
      rw [h3] at h2
      cases h2
      exact ⟨i + 1, j, h3, rfl⟩
  have hpl : plantedF ns = (foundF ns).map fun x => (x.1, x.2.1) := by
    unfold plantedF
    by_cases c : (ns.length : Int) % 4 = 0
    · rw [decide_eq_true c, if_neg (by decide)]
      exact outer
    · rw [decide_eq_false c, if_pos (by decide)]
      cases h : foundF ns with
      | none => rfl
      | some x =>
        exfalso
        obtain ⟨L, G, h1, h2⟩ := info x h
        obtain ⟨c1, c2, c3, c4, c5, c6⟩ := trapEnd_some h1
        obtain ⟨a1, b1, _⟩ := plantable_len c4
        have : (headOf ns L (4 * G)).length = ns.length - (cellsN L (4 * G)).toNat := by
          unfold headOf
          rw [cutI_to (by omega), List.length_take]
          unfold cellsN at *
          omega
        unfold cellsN at *
        omega
  refine ⟨hpl, fun x h => ?_⟩
  obtain ⟨L, G, h1, h2⟩ := info x h
  obtain ⟨c1, c2, c3, c4, c5, c6⟩ := trapEnd_some h1
  obtain ⟨a1, b1, _⟩ := plantable_len c4
  refine ⟨?_, by rw [h2]; exact a1⟩
  unfold cleanedF
  rw [hpl, h]
  simp only [Option.map_some]
  rw [h2]
  unfold headOf cellsN cellsOf
  rw [c5, c6]
/-! ### the drawn image -/
theorem nodesOf_append : ∀ {a b : List Int}, a.length % 4 = 0 → nodesOf (a ++ b) = nodesOf a ++ nodesOf b
  | [], b, _ => by simp [nodesOf]
  | [_], b, h => by simp at h
  | [_, _], b, h => by simp at h
  | [_, _, _], b, h => by simp at h
  | x :: y :: z :: u :: a, b, h => by
    show [x, y, z, u] :: nodesOf (a ++ b) = [x, y, z, u] :: nodesOf a ++ nodesOf b
    rw [nodesOf_append (by simp only [List.length_cons] at h; omega)]
    rfl
theorem img_body {ds : List Int} : ∀ i, ∃ r, imgF ds i = [0, 32, 0, 200 + nxt ds % 9] ++ r ∧ r.length = 4 * i ∧ (nodesOf r).all okN = true
  | 0 => ⟨[], rfl, rfl, by simp [nodesOf]⟩
  | i + 1 => by
    obtain ⟨r, e, h1, h2⟩ := img_body (ds := ds) i
    refine ⟨r ++ imgNode (imgRest ds i), ?_, ?_, ?_⟩
    · show imgF ds i ++ imgNode (imgRest ds i) = _
      rw [e, List.append_assoc]
    · rw [List.length_append, h1]
      show 4 * i + 4 = _
      omega
    · rw [nodesOf_append (by omega), List.all_append, h2, Bool.true_and]
      show (nodesOf (imgNode (imgRest ds i))).all okN = true
      generalize imgRest ds i = es
      show (okN [1 + nxt es.dropLast % 300, imgOp (nxt es), nxt es.dropLast.dropLast - 500, nxt es.dropLast.dropLast.dropLast] && true) = true
      rw [okN_eq, Bool.and_true]
      have h3 : ¬ 1 + nxt es.dropLast % 300 = 0 := by omega
      have h4 : ¬ 1000000 ≤ 1 + nxt es.dropLast % 300 := by omega
      have h5 : ¬ imgOp (nxt es) = 38 := by
        unfold imgOp
        split
        · omega
        · assumption
      rw [decide_eq_false h3, decide_eq_false h4, decide_eq_false h5]
      rfl
theorem img_ok {ds : List Int} {i : Nat} : plantable (imgF ds i) = true := by
  obtain ⟨r, e, h1, h2⟩ := img_body (ds := ds) i
  unfold plantable
  rw [e, cutI_to (by omega), cutI_from (by omega)]
  have hl : ([0, 32, 0, 200 + nxt ds % 9] ++ r).length = 4 + 4 * i := by rw [List.length_append, h1]; rfl
  rw [hl, decide_eq_false (show ¬ ((4 + 4 * i : Nat) : Int) < 4 by omega), decide_eq_true (show ((4 + 4 * i : Nat) : Int) % 4 = 0 by omega)]
  show (!(false || (false || !decide (([0, 32, 0] : List Int) = [0, 32, 0]))) && (nodesOf r).all okN) = true
  rw [h2]
  rfl
def popn (ds : List Int) : Nat → List Int
  | 0 => ds
  | i + 1 => (popn ds i).dropLast
def lureD (ds : List Int) (n : Nat) : List Int := (List.range n).map fun i => nxt (popn ds i) % 127
def extraD (ds : List Int) (n : Nat) : List Int := (List.range n).map fun i => nxt (popn ds i) - 500
def chgD (ds : List Int) (n : Nat) : List Int := (List.range n).map fun i => nxt (popn ds i)
theorem lureD_ok {ds : List Int} {n : Nat} : (lureD ds n).all inR = true := by
  rw [List.all_eq_true]
  intro x hx
  obtain ⟨i, _, rfl⟩ := List.mem_map.mp hx
  unfold inR
  rw [decide_eq_true (show 0 ≤ nxt (popn ds i) % 127 by omega), decide_eq_true (show nxt (popn ds i) % 127 ≤ 126 by omega)]
  rfl
theorem at_two {a b : PyData} : atI [a, b] 0 = some a ∧ atI [a, b] 1 = some b := ⟨rfl, rfl⟩
/-! law -/
def sp_law (K : PySem.W.Frag) : Sp := SpZ (fun (sc : (List Int)) => sc.length ≤ 1000 ∧ Xk K) (fun (sc : (List Int)) => [some (scr K sc)]) (fun (sc : (List Int)) => dB K true) (fun (sc : (List Int)) => [none])
theorem pure_law (vs : List V) (H : Hp) (Q : VK) (E : XK) (h : sp_law K vs H Q E) : t_law K (sp_u_law_draws K) (sp_u_law_next K) (sp_u_law_image K) (sp_plant K) (sp_u_law_changed K) (sp_u_law_found K) (sp_planted K) (sp_u_law_cleaned K) (sp_u_law_is_integers K) { nx := fun _ H' => Q .non H', rt := Q } (start N_law vs) H := by
  refine body h fun sc hp hl => ?_
  match vs, hl with
  | [v1], _ =>
    replace hp : sc.length ≤ 1000 ∧ Xk K := hp
    clear h hl
    refine ⟨[some v1], by walk_at "pin", fun B => ?_⟩
    unfold t_law
    show Do B _ (A [some v1] [some (scr K sc), none, none, none, none, none, none, none, none, none, none, none, none, none, none]) ⟨no, Rt (dB K true) [none] [v1], no, no⟩
    obtain ⟨hp, X⟩ := hp
    have hsc : sc.length ≤ 10000 := by omega
    walk_at "setq"
    · walk_at "z"
    walk_at "lr"
    apply do_seq
    · apply do_drop
      exact ev_reverseI rfl
    generalize (drawsF sc).reverse = d0
    walk_at "set"
    generalize nxt d0 = ch
    generalize d0.dropLast = d1
    generalize hn1 : (1 + nxt d1 % 12).toNat = n1
    have hn1' : 1 ≤ n1 ∧ n1 ≤ 12 := by omega
    walk_at "setq"
    · show Ev B _ _ (dL K (lureD d1.dropLast n1)) _
      apply ev_toL
      · apply ev_lcd (K := K) (fun i => .int (nxt (popn d1.dropLast i) % 127)) (fun i => [none, some (oL K (popn d1.dropLast i)), some (dI K ch), none, none, none, none, none, none, none, none, none, none, none, none])
        · apply iw_rng1
          · walk_at "ed"
          · omega
        · walk_at "le"
        · intro i
          rfl
        · intro i d hd
          walk_at "exi"
          · walk_at "z"
          · walk_at "le"
        · rw [rngD_len]
          exact le_line (by omega)
      · rw [rngD_len, hn1]
        unfold lureD
        rw [List.map_map]
        rfl
    walk_at "lr"
    generalize popn d1.dropLast _ = d2
    have hl1 : (lureD d1.dropLast n1).length = n1 := by simp [lureD]
    have hl2 := lureD_ok (ds := d1.dropLast) (n := n1)
    generalize lureD d1.dropLast n1 = l at *
    generalize hn2 : (nxt d2 % 7) = g
    have hn2' : 0 ≤ g ∧ g < 7 := by omega
    walk_at "setq"
    · show Ev B _ _ (dL K (extraD d2.dropLast (4 * g).toNat)) _
      apply ev_toL
      · apply ev_lcd (K := K) (fun i => .int (nxt (popn d2.dropLast i) - 500)) (fun i => [none, some (oL K (popn d2.dropLast i)), some (dI K ch), some (dL K l), none, none, none, none, none, none, none, none, none, none, none])
        · apply iw_rng1
          · walk_at "ed"
          · omega
        · walk_at "le"
        · intro i
          rfl
        · intro i d hd
          walk_at "exi"
          · walk_at "z"
          · walk_at "le"
        · rw [rngD_len]
          exact le_line (by omega)
      · rw [rngD_len, hn2]
        unfold extraD
        rw [List.map_map]
        rfl
    walk_at "lr"
    generalize popn d2.dropLast _ = d3
    have hl3 : (extraD d2.dropLast (4 * g).toNat).length = (4 * g).toNat := by simp [extraD]
    generalize extraD d2.dropLast (4 * g).toNat = x at *
    walk_at "setq"
    · show Ev B _ _ (oL K (chgD d3 3)) _
      apply ev_toO
      · apply ev_lcd (K := K) (fun i => .int (nxt (popn d3 i))) (fun i => [none, some (oL K (popn d3 i)), some (dI K ch), some (dL K l), some (dL K x), none, none, none, none, none, none, none, none, none, none])
        · walk_at "iw"
        · walk_at "le"
        · intro i
          rfl
        · intro i d hd
          walk_at "exi"
          · walk_at "z"
          · walk_at "le"
        · rw [rngD_len]
          exact le_line (by decide)
      · rw [rngD_len]
        unfold chgD
        rw [List.map_map]
        rfl
    walk_at "lr"
    generalize popn d3 _ = d4
    generalize chgD d3 3 = cs
    have ht : isTrap l x = true := by
      unfold isTrap
      rw [hl2, decide_eq_true (show (1 : Int) ≤ (l.length : Int) by omega), decide_eq_true (show (l.length : Int) ≤ 12 by omega), decide_eq_true (show (x.length : Int) ≤ 24 by omega), decide_eq_true (show (x.length : Int) % 4 = 0 by omega)]
      rfl
    walk_at "setq"
    · apply ev_fz
      walk_at "z"
    walk_at "lr"
    have hs1 := img_ok (ds := d4) (i := imgN d4)
    have hs2 := imgF_len (ds := d4) (imgN d4)
    have hs3 : imgN d4 < 20 := by unfold imgN; omega
    generalize imgF d4 (imgN d4) = st at *
    have hpb : plantBad K st l x = none := by
      unfold plantBad
      rw [ht, hs1]
      rfl
    have hfl : (trapN l x).flatten.length = 4 * (14 + 4 * l.length + 2 * x.length) := by rw [flat_len trapN_four, trapN_len]
    have hlen : (st ++ (trapN l x).flatten).length ≤ 1000 := by rw [List.length_append, hfl]; omega
    have hlen1 : 1 ≤ (st ++ (trapN l x).flatten).length := by rw [List.length_append, hfl]; omega
    walk_at "setq"
    · apply ev_fz
      walk_at "z"
    walk_at "lr"
    obtain ⟨l', x', hf0⟩ := found_start hs1 ht
    generalize st ++ (trapN l x).flatten = pl at *
    have hch : (chgF pl cs).length ≤ 2 * pl.length + 10 := chgF_len
    generalize him : (if ch % 4 = 1 then st else if ch % 4 > 1 then chgF pl cs else pl) = im
    have him1 : im.length ≤ 10000 := by
      rw [← him]
      split
      · omega
      · split <;> omega
    apply do_seq (M := A [some v1] [none, none, some (dI K ch), none, none, none, some (dL K st), some (dL K im), none, none, none, none, none, none, none])
    · apply do_if
      · walk_at "z"
      · intro e
        have e' : ch % 4 = 1 := of_decide_eq_true e
        rw [if_pos e'] at him
        subst him
        apply Do.to
        · apply do_set1
          · walk_at "z"
          · walk_at "lt"
          · rfl
        · walk_at "le"
      · intro e
        have e' : ¬ ch % 4 = 1 := of_decide_eq_false e
        rw [if_neg e'] at him
        apply do_if
        · walk_at "z"
        · intro e2
          have e2' : ch % 4 > 1 := of_decide_eq_true e2
          rw [if_pos e2'] at him
          subst him
          have hpl : 1 ≤ pl.length ∧ pl.length ≤ 10000 := by omega
          apply Do.to
          · apply do_set1
            · apply ev_fz
              walk_at "z"
            · walk_at "lt"
            · rfl
          · walk_at "le"
        · intro e2
          have e2' : ¬ ch % 4 > 1 := of_decide_eq_false e2
          rw [if_neg e2'] at him
          subst him
          apply do_nextA
          walk_at "le"
    have him2 : ch % 4 = 0 → im = pl := by
      intro h
      rw [← him, if_neg (by omega), if_neg (by omega)]
    have him3 : im.length ≤ 100000 := by omega
    have him4 : im.length ≤ 1000000 := by omega
    obtain ⟨pf1, pf2⟩ := planted_found (ns := im)
    generalize hdue : foundF im = due at *
    have hstart : ch % 4 = 0 → ∃ l x, due = some (l, x, st) := by
      intro h
      rw [him2 h, hf0] at hdue
      exact ⟨_, _, hdue.symm⟩
    obtain ⟨dl, dx, ds, hd1, hd2, hd3⟩ : ∃ dl dx ds : List Int, tripD due = .tuple [.list (dl.map PyData.int), .list (dx.map PyData.int), .list (ds.map PyData.int)] ∧ (due = none → ds = []) ∧ ∀ a b c, due = some (a, b, c) → dl = a ∧ dx = b ∧ ds = c := by
      cases due with
      | none => exact ⟨[], [], [], rfl, (fun _ => rfl), (fun _ _ _ h => by cases h)⟩
      | some x => exact ⟨x.1, x.2.1, x.2.2, rfl, (fun h => by cases h), (fun a b c h => by cases h; exact ⟨rfl, rfl, rfl⟩)⟩
    apply do_seq
    · apply do_asg
      · walk_at "z"
      · rw [hdue, hd1]
        exact tg_tup (tgs_cons tg_name (tgs_cons tg_name (tgs_cons tg_name tgs_nil)))
    apply do_guard
    · walk_at "z"
    · intro e
      exfalso
      rw [Bool.and_eq_true, decide_eq_true_eq, Bool.not_eq_true', decide_eq_false_iff_not] at e
      obtain ⟨a, b, h⟩ := hstart e.1
      exact e.2 (hd3 _ _ _ h).2.2
    intro _
    walk_at "setq"
    · apply ev_fz
      apply ev_list
      · walk_at "z"
      · exact seq_list
    walk_at "lr"
    walk_at "setq"
    · walk_at "z"
    walk_at "lr"
    walk_at "setq"
    · walk_at "z"
    walk_at "lr"
    apply do_guard
    · walk_at "z"
    · intro e
      rw [decide_eq_true rfl] at e
      cases e
    intro _
    cases due with
    | none =>
      have hds := hd2 rfl
      subst hds
      rw [show clD im = .none from by unfold clD; rw [pf1]; rfl, show optD (plantedF im) = .none from by rw [pf1]; rfl]
      apply do_guard
      · walk_at "z"
      · intro _
        walk_at "ret"
        · rfl
        · walk_at "bk"
      · intro e
        cases e
    | some y =>
      obtain ⟨a, b, c⟩ := y
      obtain ⟨rfl, rfl, rfl⟩ := hd3 a b c rfl
      obtain ⟨pf3, pf4⟩ := pf2 _ rfl
      simp only at pf3 pf4
      have pf5 : plantedF im = some (dl, dx) := pf1
      rw [show clD im = .list (ds.map PyData.int) from by unfold clD; rw [pf5, pf3], show optD (plantedF im) = .tuple [.list (dl.map PyData.int), .list (dx.map PyData.int)] from by rw [pf5]; rfl]
      have hne : ds.isEmpty = false := by
        cases ds with
        | nil => exact absurd pf4 (by decide)
        | cons _ _ => rfl
      apply do_guard
      · walk_at "z"
      · intro e
        rw [hne] at e
        cases e
      intro _
      apply do_guard
      · walk_at "z"
      · intro e
        cases e
      intro _
      apply do_guard
      · walk_at "z"
      · intro e
        rw [decide_eq_true rfl, decide_eq_true rfl] at e
        cases e
      intro _
      walk_at "ret"
      · rw [decide_eq_true rfl]
        rfl
      · walk_at "bk"
theorem ct_law (sc : List Int) (hp : sc.length ≤ 1000 ∧ Xk K) : Ct (sp_law K) [some (scr K sc)] (dB K true) [none] := SpZ.ct (α := (List Int)) sc hp
local macro_rules | `(tactic| walk_at "ct") => `(tactic| ((with_reducible apply L61.ct_law) <;> walk_at "pre"))
end L61
open PySem PySem.Spec PyProof.Rows L2 Z
namespace L61
section
variable {P : Program} {w : World} {K : PySem.W.Frag} {mg : PySem.Str → Option Value} {base : Heap} {f : Addr} {fd : FuncData}
theorem ok_nodes_of (F : FunD K "nodes_of" "nodes_of" (defArgs st_nodes_of) (defBody st_nodes_of) (defScope st_nodes_of) [] [] f fd) (T : Tx K mg) : FnOk P w K mg base CX0 1 f fd P_nodes_of (sp_nodes_of K) := by
  refine F.ok sc_nodes_of (fun vs H Q E h => by refine SpZ.len (fun x => ?_) h; rfl) (fun cdv A outer s H vs Q E hr h => ⟨t_nodes_of K, PSs.nox ?_, pure_nodes_of vs H Q E h⟩)
  exact dv_nodes_of T hr
theorem ok_image_of (F : FunD K "image_of" "image_of" (defArgs st_image_of) (defBody st_image_of) (defScope st_image_of) [] [] f fd) (T : Tx K mg) : FnOk P w K mg base CX0 1 f fd P_image_of (sp_image_of K) := by
  refine F.ok sc_image_of (fun vs H Q E h => by refine SpZ.len (fun x => ?_) h; rfl) (fun cdv A outer s H vs Q E hr h => ⟨t_image_of K, PSs.nox ?_, pure_image_of vs H Q E h⟩)
  exact dv_image_of T hr
theorem ok_is_trap (F : FunD K "is_trap" "is_trap" (defArgs st_is_trap) (defBody st_is_trap) (defScope st_is_trap) [] [] f fd) (T : Tx K mg) : FnOk P w K mg base CX0 1 f fd P_is_trap (sp_is_trap K) := by
  refine F.ok sc_is_trap (fun vs H Q E h => by refine SpZ.len (fun x => ?_) h; rfl) (fun cdv A outer s H vs Q E hr h => ⟨t_is_trap K, PSs.nox ?_, pure_is_trap vs H Q E h⟩)
  exact dv_is_trap T hr
theorem ok_is_plantable (F : FunD K "is_plantable" "is_plantable" (defArgs st_is_plantable) (defBody st_is_plantable) (defScope st_is_plantable) [] [] f fd) (T : Tx K mg) (C_nodes_of : Has P w K mg base CX0 1 "nodes_of" P_nodes_of (sp_nodes_of K)) : FnOk P w K mg base CX0 2 f fd P_is_plantable (sp_is_plantable K) := by
  refine F.ok sc_is_plantable (fun vs H Q E h => by refine SpZ.len (fun x => ?_) h; rfl) (fun cdv A outer s H vs Q E hr h => ⟨t_is_plantable K (sp_nodes_of K), PSs.nox ?_, pure_is_plantable vs H Q E h⟩)
  exact dv_is_plantable T C_nodes_of hr
theorem ok_beginning (F : FunD K "beginning" "beginning" (defArgs st_beginning) (defBody st_beginning) (defScope st_beginning) [] [] f fd) (T : Tx K mg) : FnOk P w K mg base CX0 1 f fd P_beginning (sp_beginning K) := by
  refine F.ok sc_beginning (fun vs H Q E h => by refine SpZ.len (fun x => ?_) h; rfl) (fun cdv A outer s H vs Q E hr h => ⟨t_beginning K, PSs.nox ?_, pure_beginning vs H Q E h⟩)
  exact dv_beginning T hr
theorem ok_comparison (F : FunD K "comparison" "comparison" (defArgs st_comparison) (defBody st_comparison) (defScope st_comparison) [] [] f fd) (T : Tx K mg) : FnOk P w K mg base CX0 1 f fd P_comparison (sp_comparison K) := by
  refine F.ok sc_comparison (fun vs H Q E h => by refine SpZ.len (fun x => ?_) h; rfl) (fun cdv A outer s H vs Q E hr h => ⟨t_comparison K, PSs.nox ?_, pure_comparison vs H Q E h⟩)
  exact dv_comparison T hr
theorem ok_writing (F : FunD K "writing" "writing" (defArgs st_writing) (defBody st_writing) (defScope st_writing) [] [] f fd) (T : Tx K mg) : FnOk P w K mg base CX0 1 f fd P_writing (sp_writing K) := by
  refine F.ok sc_writing (fun vs H Q E h => by refine SpZ.len (fun x => ?_) h; rfl) (fun cdv A outer s H vs Q E hr h => ⟨t_writing K, PSs.nox ?_, pure_writing vs H Q E h⟩)
  exact dv_writing T hr
theorem ok_copying (F : FunD K "copying" "copying" (defArgs st_copying) (defBody st_copying) (defScope st_copying) [] [] f fd) (T : Tx K mg) : FnOk P w K mg base CX0 1 f fd P_copying (sp_copying K) := by
  refine F.ok sc_copying (fun vs H Q E h => by refine SpZ.len (fun x => ?_) h; rfl) (fun cdv A outer s H vs Q E hr h => ⟨t_copying K, PSs.nox ?_, pure_copying vs H Q E h⟩)
  exact dv_copying T hr
theorem ok_trap_nodes (F : FunD K "trap_nodes" "trap_nodes" (defArgs st_trap_nodes) (defBody st_trap_nodes) (defScope st_trap_nodes) [] [] f fd) (T : Tx K mg) (C_beginning : Has P w K mg base CX0 1 "beginning" P_beginning (sp_beginning K)) (C_comparison : Has P w K mg base CX0 1 "comparison" P_comparison (sp_comparison K)) (C_writing : Has P w K mg base CX0 1 "writing" P_writing (sp_writing K)) (C_copying : Has P w K mg base CX0 1 "copying" P_copying (sp_copying K)) : FnOk P w K mg base CX0 2 f fd P_trap_nodes (sp_trap_nodes K) := by
  refine F.ok sc_trap_nodes (fun vs H Q E h => by refine SpZ.len (fun x => ?_) h; rfl) (fun cdv A outer s H vs Q E hr h => ⟨t_trap_nodes K (sp_beginning K) (sp_comparison K) (sp_writing K) (sp_copying K), PSs.nox ?_, pure_trap_nodes vs H Q E h⟩)
  exact dv_trap_nodes T C_beginning C_comparison C_writing C_copying hr
theorem ok_plant (F : FunD K "plant" "plant" (defArgs st_plant) (defBody st_plant) (defScope st_plant) [] [] f fd) (T : Tx K mg) (C_is_trap : Has P w K mg base CX0 1 "is_trap" P_is_trap (sp_is_trap K)) (C_is_plantable : Has P w K mg base CX0 2 "is_plantable" P_is_plantable (sp_is_plantable K)) (C_image_of : Has P w K mg base CX0 1 "image_of" P_image_of (sp_image_of K)) (C_trap_nodes : Has P w K mg base CX0 2 "trap_nodes" P_trap_nodes (sp_trap_nodes K)) : FnOk P w K mg base (L2.CX P w) 3 f fd P_plant (sp_plant K) := by
  refine F.ok sc_plant (fun vs H Q E h => by refine SpX.len (fun x => ?_) h; rfl) (fun cdv A outer s H vs Q E hr h => ⟨t_plant K (sp_is_trap K) (sp_is_plantable K) (sp_image_of K) (sp_trap_nodes K) E, ?_, pure_plant vs H Q E h⟩)
  exact dv_plant T C_is_trap C_is_plantable C_image_of C_trap_nodes hr
theorem ok_parts_of (F : FunD K "parts_of" "parts_of" (defArgs st_parts_of) (defBody st_parts_of) (defScope st_parts_of) [] [] f fd) (T : Tx K mg) : FnOk P w K mg base CX0 1 f fd P_parts_of (sp_parts_of K) := by
  refine F.ok sc_parts_of (fun vs H Q E h => by refine SpZ.len (fun x => ?_) h; rfl) (fun cdv A outer s H vs Q E hr h => ⟨t_parts_of K, PSs.nox ?_, pure_parts_of vs H Q E h⟩)
  exact dv_parts_of T hr
theorem ok_trap_at_end (F : FunD K "trap_at_end" "trap_at_end" (defArgs st_trap_at_end) (defBody st_trap_at_end) (defScope st_trap_at_end) [] [] f fd) (T : Tx K mg) (C_parts_of : Has P w K mg base CX0 1 "parts_of" P_parts_of (sp_parts_of K)) (C_nodes_of : Has P w K mg base CX0 1 "nodes_of" P_nodes_of (sp_nodes_of K)) (C_is_trap : Has P w K mg base CX0 1 "is_trap" P_is_trap (sp_is_trap K)) (C_image_of : Has P w K mg base CX0 1 "image_of" P_image_of (sp_image_of K)) (C_trap_nodes : Has P w K mg base CX0 2 "trap_nodes" P_trap_nodes (sp_trap_nodes K)) (C_is_plantable : Has P w K mg base CX0 2 "is_plantable" P_is_plantable (sp_is_plantable K)) : FnOk P w K mg base CX0 3 f fd P_trap_at_end (sp_trap_at_end K) := by
  refine F.ok sc_trap_at_end (fun vs H Q E h => by refine SpZ.len (fun x => ?_) h; rfl) (fun cdv A outer s H vs Q E hr h => ⟨t_trap_at_end K (sp_parts_of K) (sp_nodes_of K) (sp_is_trap K) (sp_image_of K) (sp_trap_nodes K) (sp_is_plantable K), PSs.nox ?_, pure_trap_at_end vs H Q E h⟩)
  exact dv_trap_at_end T C_parts_of C_nodes_of C_is_trap C_image_of C_trap_nodes C_is_plantable hr
theorem ok_planted (F : FunD K "planted" "planted" (defArgs st_planted) (defBody st_planted) (defScope st_planted) [] [] f fd) (T : Tx K mg) (C_trap_at_end : Has P w K mg base CX0 3 "trap_at_end" P_trap_at_end (sp_trap_at_end K)) : FnOk P w K mg base CX0 4 f fd P_planted (sp_planted K) := by
  refine F.ok sc_planted (fun vs H Q E h => by refine SpZ.len (fun x => ?_) h; rfl) (fun cdv A outer s H vs Q E hr h => ⟨t_planted K (sp_trap_at_end K), PSs.nox ?_, pure_planted vs H Q E h⟩)
  exact dv_planted T C_trap_at_end hr
theorem ok_cleaned (F : FunD K "cleaned" "cleaned" (defArgs st_cleaned) (defBody st_cleaned) (defScope st_cleaned) [] [] f fd) (T : Tx K mg) (C_planted : Has P w K mg base CX0 4 "planted" P_planted (sp_planted K)) : FnOk P w K mg base (L2.CX P w) 5 f fd P_cleaned (sp_cleaned K) := by
  refine F.ok sc_cleaned (fun vs H Q E h => by refine SpX.len (fun x => ?_) h; rfl) (fun cdv A outer s H vs Q E hr h => ⟨t_cleaned K (sp_planted K) E, ?_, pure_cleaned vs H Q E h⟩)
  exact dv_cleaned T C_planted hr
theorem ok_u_law_number (F : FunD K "_law_number" "_law_number" (defArgs st_u_law_number) (defBody st_u_law_number) (defScope st_u_law_number) [] [] f fd) (T : Tx K mg) : FnOk P w K mg base CX0 1 f fd P_u_law_number (sp_u_law_number K) := by
  refine F.ok sc_u_law_number (fun vs H Q E h => by refine SpZ.len (fun x => ?_) h; rfl) (fun cdv A outer s H vs Q E hr h => ⟨t_u_law_number K, PSs.nox ?_, pure_u_law_number vs H Q E h⟩)
  exact dv_u_law_number T hr
theorem ok_u_law_draws (F : FunD K "_law_draws" "_law_draws" (defArgs st_u_law_draws) (defBody st_u_law_draws) (defScope st_u_law_draws) [] [] f fd) (T : Tx K mg) (C_u_law_number : Has P w K mg base CX0 1 "_law_number" P_u_law_number (sp_u_law_number K)) : FnOk P w K mg base CX0 2 f fd P_u_law_draws (sp_u_law_draws K) := by
  refine F.ok sc_u_law_draws (fun vs H Q E h => by refine SpZ.len (fun x => ?_) h; rfl) (fun cdv A outer s H vs Q E hr h => ⟨t_u_law_draws K (sp_u_law_number K), PSs.nox ?_, pure_u_law_draws vs H Q E h⟩)
  exact dv_u_law_draws T C_u_law_number hr
theorem ok_u_law_next (F : FunD K "_law_next" "_law_next" (defArgs st_u_law_next) (defBody st_u_law_next) (defScope st_u_law_next) [] [] f fd) (T : Tx K mg) : FnOk P w K mg base CX0 1 f fd P_u_law_next (sp_u_law_next K) := by
  refine F.ok sc_u_law_next (fun vs H Q E h => by refine SpZ.len (fun x => ?_) h; rfl) (fun cdv A outer s H vs Q E hr h => ⟨t_u_law_next K, PSs.nox ?_, pure_u_law_next vs H Q E h⟩)
  exact dv_u_law_next T hr
theorem ok_u_law_trap (F : FunD K "_law_trap" "_law_trap" (defArgs st_u_law_trap) (defBody st_u_law_trap) (defScope st_u_law_trap) [] [] f fd) (T : Tx K mg) : FnOk P w K mg base CX0 1 f fd P_u_law_trap (sp_u_law_trap K) := by
  refine F.ok sc_u_law_trap (fun vs H Q E h => by refine SpZ.len (fun x => ?_) h; rfl) (fun cdv A outer s H vs Q E hr h => ⟨t_u_law_trap K, PSs.nox ?_, pure_u_law_trap vs H Q E h⟩)
  exact dv_u_law_trap T hr
theorem ok_u_law_is_integer (F : FunD K "_law_is_integer" "_law_is_integer" (defArgs st_u_law_is_integer) (defBody st_u_law_is_integer) (defScope st_u_law_is_integer) [] [] f fd) (T : Tx K mg) : FnOk P w K mg base CX0 1 f fd P_u_law_is_integer (sp_u_law_is_integer K) := by
  refine F.ok sc_u_law_is_integer (fun vs H Q E h => by refine SpZ.len (fun x => ?_) h; rfl) (fun cdv A outer s H vs Q E hr h => ⟨t_u_law_is_integer K, PSs.nox ?_, pure_u_law_is_integer vs H Q E h⟩)
  exact dv_u_law_is_integer T hr
theorem ok_u_law_is_integers (F : FunD K "_law_is_integers" "_law_is_integers" (defArgs st_u_law_is_integers) (defBody st_u_law_is_integers) (defScope st_u_law_is_integers) [] [] f fd) (T : Tx K mg) (C_u_law_is_integer : Has P w K mg base CX0 1 "_law_is_integer" P_u_law_is_integer (sp_u_law_is_integer K)) : FnOk P w K mg base CX0 2 f fd P_u_law_is_integers (sp_u_law_is_integers K) := by
  refine F.ok sc_u_law_is_integers (fun vs H Q E h => by refine SpZ.len (fun x => ?_) h; rfl) (fun cdv A outer s H vs Q E hr h => ⟨t_u_law_is_integers K (sp_u_law_is_integer K), PSs.nox ?_, pure_u_law_is_integers vs H Q E h⟩)
  exact dv_u_law_is_integers T C_u_law_is_integer hr
theorem ok_u_law_image (F : FunD K "_law_image" "_law_image" (defArgs st_u_law_image) (defBody st_u_law_image) (defScope st_u_law_image) [] [] f fd) (T : Tx K mg) (C_u_law_next : Has P w K mg base CX0 1 "_law_next" P_u_law_next (sp_u_law_next K)) : FnOk P w K mg base CX0 2 f fd P_u_law_image (sp_u_law_image K) := by
  refine F.ok sc_u_law_image (fun vs H Q E h => by refine SpZ.len (fun x => ?_) h; rfl) (fun cdv A outer s H vs Q E hr h => ⟨t_u_law_image K (sp_u_law_next K), PSs.nox ?_, pure_u_law_image vs H Q E h⟩)
  exact dv_u_law_image T C_u_law_next hr
theorem ok_u_law_changed (F : FunD K "_law_changed" "_law_changed" (defArgs st_u_law_changed) (defBody st_u_law_changed) (defScope st_u_law_changed) [] [] f fd) (T : Tx K mg) (C_u_law_next : Has P w K mg base CX0 1 "_law_next" P_u_law_next (sp_u_law_next K)) : FnOk P w K mg base CX0 2 f fd P_u_law_changed (sp_u_law_changed K) := by
  refine F.ok sc_u_law_changed (fun vs H Q E h => by refine SpZ.len (fun x => ?_) h; rfl) (fun cdv A outer s H vs Q E hr h => ⟨t_u_law_changed K (sp_u_law_next K), PSs.nox ?_, pure_u_law_changed vs H Q E h⟩)
  exact dv_u_law_changed T C_u_law_next hr
theorem ok_u_law_plantable (F : FunD K "_law_plantable" "_law_plantable" (defArgs st_u_law_plantable) (defBody st_u_law_plantable) (defScope st_u_law_plantable) [] [] f fd) (T : Tx K mg) : FnOk P w K mg base CX0 1 f fd P_u_law_plantable (sp_u_law_plantable K) := by
  refine F.ok sc_u_law_plantable (fun vs H Q E h => by refine SpZ.len (fun x => ?_) h; rfl) (fun cdv A outer s H vs Q E hr h => ⟨t_u_law_plantable K, PSs.nox ?_, pure_u_law_plantable vs H Q E h⟩)
  exact dv_u_law_plantable T hr
theorem ok_u_law_found (F : FunD K "_law_found" "_law_found" (defArgs st_u_law_found) (defBody st_u_law_found) (defScope st_u_law_found) [] [] f fd) (T : Tx K mg) (C_u_law_trap : Has P w K mg base CX0 1 "_law_trap" P_u_law_trap (sp_u_law_trap K)) (C_u_law_plantable : Has P w K mg base CX0 1 "_law_plantable" P_u_law_plantable (sp_u_law_plantable K)) : FnOk P w K mg base CX0 2 f fd P_u_law_found (sp_u_law_found K) := by
  refine F.ok sc_u_law_found (fun vs H Q E h => by refine SpZ.len (fun x => ?_) h; rfl) (fun cdv A outer s H vs Q E hr h => ⟨t_u_law_found K (sp_u_law_trap K) (sp_u_law_plantable K), PSs.nox ?_, pure_u_law_found vs H Q E h⟩)
  exact dv_u_law_found T C_u_law_trap C_u_law_plantable hr
theorem ok_u_law_cleaned (F : FunD K "_law_cleaned" "_law_cleaned" (defArgs st_u_law_cleaned) (defBody st_u_law_cleaned) (defScope st_u_law_cleaned) [] [] f fd) (T : Tx K mg) (C_cleaned : Has P w K mg base (L2.CX P w) 5 "cleaned" P_cleaned (sp_cleaned K)) : FnOk P w K mg base CX0 6 f fd P_u_law_cleaned (sp_u_law_cleaned K) := by
  refine F.ok sc_u_law_cleaned (fun vs H Q E h => by refine SpZ.len (fun x => ?_) h; rfl) (fun cdv A outer s H vs Q E hr h => ⟨t_u_law_cleaned K (sp_cleaned K), PSs.nox ?_, pure_u_law_cleaned vs H Q E h⟩)
  exact dv_u_law_cleaned T C_cleaned hr
theorem ok_law (F : FunD K "law" "law" (defArgs st_law) (defBody st_law) (defScope st_law) [] [] f fd) (T : Tx K mg) (C_u_law_draws : Has P w K mg base CX0 2 "_law_draws" P_u_law_draws (sp_u_law_draws K)) (C_u_law_next : Has P w K mg base CX0 1 "_law_next" P_u_law_next (sp_u_law_next K)) (C_u_law_image : Has P w K mg base CX0 2 "_law_image" P_u_law_image (sp_u_law_image K)) (C_plant : Has P w K mg base (L2.CX P w) 3 "plant" P_plant (sp_plant K)) (C_u_law_changed : Has P w K mg base CX0 2 "_law_changed" P_u_law_changed (sp_u_law_changed K)) (C_u_law_found : Has P w K mg base CX0 2 "_law_found" P_u_law_found (sp_u_law_found K)) (C_planted : Has P w K mg base CX0 4 "planted" P_planted (sp_planted K)) (C_u_law_cleaned : Has P w K mg base CX0 6 "_law_cleaned" P_u_law_cleaned (sp_u_law_cleaned K)) (C_u_law_is_integers : Has P w K mg base CX0 2 "_law_is_integers" P_u_law_is_integers (sp_u_law_is_integers K)) : FnOk P w K mg base CX0 7 f fd P_law (sp_law K) := by
  refine F.ok sc_law (fun vs H Q E h => by refine SpZ.len (fun x => ?_) h; rfl) (fun cdv A outer s H vs Q E hr h => ⟨t_law K (sp_u_law_draws K) (sp_u_law_next K) (sp_u_law_image K) (sp_plant K) (sp_u_law_changed K) (sp_u_law_found K) (sp_planted K) (sp_u_law_cleaned K) (sp_u_law_is_integers K), PSs.nox ?_, pure_law vs H Q E h⟩)
  exact dv_law T C_u_law_draws C_u_law_next C_u_law_image C_plant C_u_law_changed C_u_law_found C_planted C_u_law_cleaned C_u_law_is_integers hr
end
def dd_nodes_of : He.DefD := ⟨("nodes_of", none), "nodes_of", "nodes_of", defArgs st_nodes_of, defBody st_nodes_of, defScope st_nodes_of, [], []⟩
def dd_image_of : He.DefD := ⟨("image_of", none), "image_of", "image_of", defArgs st_image_of, defBody st_image_of, defScope st_image_of, [], []⟩
def dd_is_trap : He.DefD := ⟨("is_trap", none), "is_trap", "is_trap", defArgs st_is_trap, defBody st_is_trap, defScope st_is_trap, [], []⟩
def dd_is_plantable : He.DefD := ⟨("is_plantable", none), "is_plantable", "is_plantable", defArgs st_is_plantable, defBody st_is_plantable, defScope st_is_plantable, [], []⟩
def dd_beginning : He.DefD := ⟨("beginning", none), "beginning", "beginning", defArgs st_beginning, defBody st_beginning, defScope st_beginning, [], []⟩
def dd_comparison : He.DefD := ⟨("comparison", none), "comparison", "comparison", defArgs st_comparison, defBody st_comparison, defScope st_comparison, [], []⟩
def dd_writing : He.DefD := ⟨("writing", none), "writing", "writing", defArgs st_writing, defBody st_writing, defScope st_writing, [], []⟩
def dd_copying : He.DefD := ⟨("copying", none), "copying", "copying", defArgs st_copying, defBody st_copying, defScope st_copying, [], []⟩
def dd_trap_nodes : He.DefD := ⟨("trap_nodes", none), "trap_nodes", "trap_nodes", defArgs st_trap_nodes, defBody st_trap_nodes, defScope st_trap_nodes, [], []⟩
def dd_plant : He.DefD := ⟨("plant", none), "plant", "plant", defArgs st_plant, defBody st_plant, defScope st_plant, [], []⟩
def dd_parts_of : He.DefD := ⟨("parts_of", none), "parts_of", "parts_of", defArgs st_parts_of, defBody st_parts_of, defScope st_parts_of, [], []⟩
def dd_trap_at_end : He.DefD := ⟨("trap_at_end", none), "trap_at_end", "trap_at_end", defArgs st_trap_at_end, defBody st_trap_at_end, defScope st_trap_at_end, [], []⟩
def dd_planted : He.DefD := ⟨("planted", none), "planted", "planted", defArgs st_planted, defBody st_planted, defScope st_planted, [], []⟩
def dd_cleaned : He.DefD := ⟨("cleaned", none), "cleaned", "cleaned", defArgs st_cleaned, defBody st_cleaned, defScope st_cleaned, [], []⟩
def dd_u_law_number : He.DefD := ⟨("_law_number", none), "_law_number", "_law_number", defArgs st_u_law_number, defBody st_u_law_number, defScope st_u_law_number, [], []⟩
def dd_u_law_draws : He.DefD := ⟨("_law_draws", none), "_law_draws", "_law_draws", defArgs st_u_law_draws, defBody st_u_law_draws, defScope st_u_law_draws, [], []⟩
def dd_u_law_next : He.DefD := ⟨("_law_next", none), "_law_next", "_law_next", defArgs st_u_law_next, defBody st_u_law_next, defScope st_u_law_next, [], []⟩
def dd_u_law_trap : He.DefD := ⟨("_law_trap", none), "_law_trap", "_law_trap", defArgs st_u_law_trap, defBody st_u_law_trap, defScope st_u_law_trap, [], []⟩
def dd_u_law_is_integer : He.DefD := ⟨("_law_is_integer", none), "_law_is_integer", "_law_is_integer", defArgs st_u_law_is_integer, defBody st_u_law_is_integer, defScope st_u_law_is_integer, [], []⟩
def dd_u_law_is_integers : He.DefD := ⟨("_law_is_integers", none), "_law_is_integers", "_law_is_integers", defArgs st_u_law_is_integers, defBody st_u_law_is_integers, defScope st_u_law_is_integers, [], []⟩
def dd_u_law_image : He.DefD := ⟨("_law_image", none), "_law_image", "_law_image", defArgs st_u_law_image, defBody st_u_law_image, defScope st_u_law_image, [], []⟩
def dd_u_law_changed : He.DefD := ⟨("_law_changed", none), "_law_changed", "_law_changed", defArgs st_u_law_changed, defBody st_u_law_changed, defScope st_u_law_changed, [], []⟩
def dd_u_law_plantable : He.DefD := ⟨("_law_plantable", none), "_law_plantable", "_law_plantable", defArgs st_u_law_plantable, defBody st_u_law_plantable, defScope st_u_law_plantable, [], []⟩
def dd_u_law_found : He.DefD := ⟨("_law_found", none), "_law_found", "_law_found", defArgs st_u_law_found, defBody st_u_law_found, defScope st_u_law_found, [], []⟩
def dd_u_law_cleaned : He.DefD := ⟨("_law_cleaned", none), "_law_cleaned", "_law_cleaned", defArgs st_u_law_cleaned, defBody st_u_law_cleaned, defScope st_u_law_cleaned, [], []⟩
def dd_law : He.DefD := ⟨("law", none), "law", "law", defArgs st_law, defBody st_law, defScope st_law, [], []⟩
def fn : List He.DefD := [dd_nodes_of, dd_image_of, dd_is_trap, dd_is_plantable, dd_beginning, dd_comparison, dd_writing, dd_copying, dd_trap_nodes, dd_plant, dd_parts_of, dd_trap_at_end, dd_planted, dd_cleaned, dd_u_law_number, dd_u_law_draws, dd_u_law_next, dd_u_law_trap, dd_u_law_is_integer, dd_u_law_is_integers, dd_u_law_image, dd_u_law_changed, dd_u_law_plantable, dd_u_law_found, dd_u_law_cleaned, dd_law]
def fa0 : List He.Fa := [.glo "nodes_of", .glo "image_of", .glo "is_trap", .glo "is_plantable", .glo "beginning", .glo "comparison", .glo "writing", .glo "copying", .glo "trap_nodes", .glo "plant", .glo "parts_of", .glo "trap_at_end", .glo "planted", .glo "cleaned", .glo "_law_number", .glo "_law_draws", .glo "_law_next", .glo "_law_trap", .glo "_law_is_integer", .glo "_law_is_integers", .glo "_law_image", .glo "_law_changed", .glo "_law_plantable", .glo "_law_found", .glo "_law_cleaned", .glo "law", .free "any", .free "bool", .free "int", .free "isinstance"]
def fa1 : List He.Fa := [.free "len", .free "list", .free "range", .free "tuple", .int "BASE" 1000000, .int "CALL" 40, .int "CELL" 38, .int "DOUBLE" 34, .int "DROP" 95, .int "FIXED" 14, .int "GIVE" 46, .int "MOST_EXTRA" 24, .int "MOST_LURE" 12, .int "PLUS" 43, .int "PUSH" 35, .int "RETURN" 41, .int "REWIND" 94, .int "SAME" 126, .int "TAKE" 44, .int "TEST" 63, .glo "BadTrap", .exc "BadTrap", .glo "NotPlantable", .exc "NotPlantable", .glo "NotPlanted", .exc "NotPlanted", .glo "PlinthError", .exc "PlinthError"]
def fa : List He.Fa := fa0 ++ fa1
def ex (K : PySem.W.Frag) : Bool := exB K "NotPlanted" && (decide (PySem.W.kitOne K (xc K "NotPlanted") (xc K "PlinthError") = some true) && decide (PySem.W.exmOne K (xc K "NotPlanted") (xc K "NotPlanted") = some true))
theorem xk_of {K : PySem.W.Frag} (h : ex K = true) : Xk K := by
  unfold ex at h
  obtain ⟨h1, h⟩ := He.ba h
  obtain ⟨h2, h3⟩ := He.ba h
  exact ⟨exB_ok h1, of_decide_eq_true h2, of_decide_eq_true h3⟩
abbrev R : PySem.W.OpenRow := PySem.W.OpenLaw.row PySem.Challenge.rw_plinth_k61_planted_images_are_known
abbrev hk : PySem.W.Hook := He.hookX 4 fa fn [] [] ex
def ob (s : PySem.W.SharedT) : He.AlX := He.obsX 4 fa fn [] [] ex (HandSHeadRun.getT s)
theorem ob_eq (s : PySem.W.SharedT) : ob s = hk.obs s.abs := He.obsX_eq (HandSHeadRun.getT_eq s)
def nm0 : List PySem.Str := ["PlinthError", "BadTrap", "NotPlantable", "NotPlanted", "nodes_of", "image_of", "BASE", "MOST_LURE", "MOST_EXTRA", "FIXED", "PUSH", "CELL", "CALL", "RETURN", "PLUS", "TAKE", "GIVE", "DOUBLE", "TEST", "REWIND", "DROP", "SAME", "is_trap", "is_plantable", "beginning", "comparison", "writing", "copying", "trap_nodes", "plant"]
def nm1 : List PySem.Str := ["parts_of", "trap_at_end", "planted", "cleaned", "_law_number", "_law_draws", "_law_next", "_law_trap", "_law_is_integer", "_law_is_integers", "_law_image", "_law_changed", "_law_plantable", "_law_found", "_law_cleaned"]
def nms : List PySem.Str := (nm0 ++ nm1)
set_option maxHeartbeats 0 in
theorem run (w : World) : HandSHeadRun.RunEq R (PySem.W.view R.prog [49]) hk ob 20000 nms w := by
  intro os
  kernel_rfl
theorem facts {P : Program} {w : World} {K : PySem.W.Frag} {h : Heap} {mg : PySem.Str → Option Value} {f : Addr} (X : K.In h) (G : h.Ns mainGlobals mg) (hfa : mg ("law" : PySem.Str) = some (.ref f)) (cc : He.SaysX fa fn [] [] ex w h K) :
    ∃ fd : FuncData, (∀ (s : Shared) (v : Value), BindsTo s fd ⟨[v], []⟩ [("_law_script", v)]) ∧ ∀ base : Heap, K.In base → base.Ns mainGlobals mg → FnOk P w K mg base CX0 7 f fd ["_law_script"] (sp_law K) := by
  have c := cc.t.d
  obtain ⟨fd_nodes_of, F_nodes_of⟩ := c.def_ 0 (d := dd_nodes_of) rfl
  obtain ⟨fd_image_of, F_image_of⟩ := c.def_ 1 (d := dd_image_of) rfl
  obtain ⟨fd_is_trap, F_is_trap⟩ := c.def_ 2 (d := dd_is_trap) rfl
  obtain ⟨fd_is_plantable, F_is_plantable⟩ := c.def_ 3 (d := dd_is_plantable) rfl
  obtain ⟨fd_beginning, F_beginning⟩ := c.def_ 4 (d := dd_beginning) rfl
  obtain ⟨fd_comparison, F_comparison⟩ := c.def_ 5 (d := dd_comparison) rfl
  obtain ⟨fd_writing, F_writing⟩ := c.def_ 6 (d := dd_writing) rfl
  obtain ⟨fd_copying, F_copying⟩ := c.def_ 7 (d := dd_copying) rfl
  obtain ⟨fd_trap_nodes, F_trap_nodes⟩ := c.def_ 8 (d := dd_trap_nodes) rfl
  obtain ⟨fd_plant, F_plant⟩ := c.def_ 9 (d := dd_plant) rfl
  obtain ⟨fd_parts_of, F_parts_of⟩ := c.def_ 10 (d := dd_parts_of) rfl
  obtain ⟨fd_trap_at_end, F_trap_at_end⟩ := c.def_ 11 (d := dd_trap_at_end) rfl
  obtain ⟨fd_planted, F_planted⟩ := c.def_ 12 (d := dd_planted) rfl
  obtain ⟨fd_cleaned, F_cleaned⟩ := c.def_ 13 (d := dd_cleaned) rfl
  obtain ⟨fd_u_law_number, F_u_law_number⟩ := c.def_ 14 (d := dd_u_law_number) rfl
  obtain ⟨fd_u_law_draws, F_u_law_draws⟩ := c.def_ 15 (d := dd_u_law_draws) rfl
  obtain ⟨fd_u_law_next, F_u_law_next⟩ := c.def_ 16 (d := dd_u_law_next) rfl
  obtain ⟨fd_u_law_trap, F_u_law_trap⟩ := c.def_ 17 (d := dd_u_law_trap) rfl
  obtain ⟨fd_u_law_is_integer, F_u_law_is_integer⟩ := c.def_ 18 (d := dd_u_law_is_integer) rfl
  obtain ⟨fd_u_law_is_integers, F_u_law_is_integers⟩ := c.def_ 19 (d := dd_u_law_is_integers) rfl
  obtain ⟨fd_u_law_image, F_u_law_image⟩ := c.def_ 20 (d := dd_u_law_image) rfl
  obtain ⟨fd_u_law_changed, F_u_law_changed⟩ := c.def_ 21 (d := dd_u_law_changed) rfl
  obtain ⟨fd_u_law_plantable, F_u_law_plantable⟩ := c.def_ 22 (d := dd_u_law_plantable) rfl
  obtain ⟨fd_u_law_found, F_u_law_found⟩ := c.def_ 23 (d := dd_u_law_found) rfl
  obtain ⟨fd_u_law_cleaned, F_u_law_cleaned⟩ := c.def_ 24 (d := dd_u_law_cleaned) rfl
  obtain ⟨fd_law, F_law⟩ := c.def_ 25 (d := dd_law) rfl
  have e := hfa.symm.trans (He.glo_ok X G (c.fact 25 (f := .glo "law") rfl))
  cases e
  have T : Tx K mg :=
    { b_any := He.free_ok X G (c.fact 26 (f := .free "any") rfl)
      b_bool := He.free_ok X G (c.fact 27 (f := .free "bool") rfl)
      b_int := He.free_ok X G (c.fact 28 (f := .free "int") rfl)
      b_isinstance := He.free_ok X G (c.fact 29 (f := .free "isinstance") rfl)
      b_len := He.free_ok X G (c.fact 30 (f := .free "len") rfl)
      b_list := He.free_ok X G (c.fact 31 (f := .free "list") rfl)
      b_range := He.free_ok X G (c.fact 32 (f := .free "range") rfl)
      b_tuple := He.free_ok X G (c.fact 33 (f := .free "tuple") rfl)
      x_BadTrap := ⟨He.glo_ok X G (c.fact 50 (f := .glo "BadTrap") rfl), (He.exc_ok (c.fact 51 (f := .exc "BadTrap") rfl)).1, (He.exc_ok (c.fact 51 (f := .exc "BadTrap") rfl)).2.1, (He.exc_ok (c.fact 51 (f := .exc "BadTrap") rfl)).2.2.1, (He.exc_ok (c.fact 51 (f := .exc "BadTrap") rfl)).2.2.2⟩
      x_NotPlantable := ⟨He.glo_ok X G (c.fact 52 (f := .glo "NotPlantable") rfl), (He.exc_ok (c.fact 53 (f := .exc "NotPlantable") rfl)).1, (He.exc_ok (c.fact 53 (f := .exc "NotPlantable") rfl)).2.1, (He.exc_ok (c.fact 53 (f := .exc "NotPlantable") rfl)).2.2.1, (He.exc_ok (c.fact 53 (f := .exc "NotPlantable") rfl)).2.2.2⟩
      x_NotPlanted := ⟨He.glo_ok X G (c.fact 54 (f := .glo "NotPlanted") rfl), (He.exc_ok (c.fact 55 (f := .exc "NotPlanted") rfl)).1, (He.exc_ok (c.fact 55 (f := .exc "NotPlanted") rfl)).2.1, (He.exc_ok (c.fact 55 (f := .exc "NotPlanted") rfl)).2.2.1, (He.exc_ok (c.fact 55 (f := .exc "NotPlanted") rfl)).2.2.2⟩
      x_PlinthError := ⟨He.glo_ok X G (c.fact 56 (f := .glo "PlinthError") rfl), (He.exc_ok (c.fact 57 (f := .exc "PlinthError") rfl)).1, (He.exc_ok (c.fact 57 (f := .exc "PlinthError") rfl)).2.1, (He.exc_ok (c.fact 57 (f := .exc "PlinthError") rfl)).2.2.1, (He.exc_ok (c.fact 57 (f := .exc "PlinthError") rfl)).2.2.2⟩
      i_BASE := He.int_ok X G (c.fact 34 (f := .int "BASE" 1000000) rfl)
      i_CALL := He.int_ok X G (c.fact 35 (f := .int "CALL" 40) rfl)
      i_CELL := He.int_ok X G (c.fact 36 (f := .int "CELL" 38) rfl)
      i_DOUBLE := He.int_ok X G (c.fact 37 (f := .int "DOUBLE" 34) rfl)
      i_DROP := He.int_ok X G (c.fact 38 (f := .int "DROP" 95) rfl)
      i_FIXED := He.int_ok X G (c.fact 39 (f := .int "FIXED" 14) rfl)
      i_GIVE := He.int_ok X G (c.fact 40 (f := .int "GIVE" 46) rfl)
      i_MOST_EXTRA := He.int_ok X G (c.fact 41 (f := .int "MOST_EXTRA" 24) rfl)
      i_MOST_LURE := He.int_ok X G (c.fact 42 (f := .int "MOST_LURE" 12) rfl)
      i_PLUS := He.int_ok X G (c.fact 43 (f := .int "PLUS" 43) rfl)
      i_PUSH := He.int_ok X G (c.fact 44 (f := .int "PUSH" 35) rfl)
      i_RETURN := He.int_ok X G (c.fact 45 (f := .int "RETURN" 41) rfl)
      i_REWIND := He.int_ok X G (c.fact 46 (f := .int "REWIND" 94) rfl)
      i_SAME := He.int_ok X G (c.fact 47 (f := .int "SAME" 126) rfl)
      i_TAKE := He.int_ok X G (c.fact 48 (f := .int "TAKE" 44) rfl)
      i_TEST := He.int_ok X G (c.fact 49 (f := .int "TEST" 63) rfl) }
  have b := FunD.bindsA (ps := ["_law_script"]) F_law fun _ _ _ _ _ _ us hl => match us, hl with | [_], _ => rfl
  refine ⟨fd_law, fun s v => b s [v] rfl, fun base _ _ => ?_⟩
  have C_nodes_of : Has P w K mg base CX0 1 "nodes_of" P_nodes_of (sp_nodes_of K) := ⟨⟨fd_nodes_of, ok_nodes_of F_nodes_of T, F_nodes_of.bindsN fun _ _ _ _ _ _ us hl => match us, hl with | [_], _ => rfl⟩, He.glo_ok X G (c.fact 0 (f := .glo "nodes_of") rfl), F_nodes_of.kp⟩
  have C_image_of : Has P w K mg base CX0 1 "image_of" P_image_of (sp_image_of K) := ⟨⟨fd_image_of, ok_image_of F_image_of T, F_image_of.bindsN fun _ _ _ _ _ _ us hl => match us, hl with | [_], _ => rfl⟩, He.glo_ok X G (c.fact 1 (f := .glo "image_of") rfl), F_image_of.kp⟩
  have C_is_trap : Has P w K mg base CX0 1 "is_trap" P_is_trap (sp_is_trap K) := ⟨⟨fd_is_trap, ok_is_trap F_is_trap T, F_is_trap.bindsN fun _ _ _ _ _ _ us hl => match us, hl with | [_, _], _ => rfl⟩, He.glo_ok X G (c.fact 2 (f := .glo "is_trap") rfl), F_is_trap.kp⟩
  have C_is_plantable : Has P w K mg base CX0 2 "is_plantable" P_is_plantable (sp_is_plantable K) := ⟨⟨fd_is_plantable, ok_is_plantable F_is_plantable T C_nodes_of, F_is_plantable.bindsN fun _ _ _ _ _ _ us hl => match us, hl with | [_], _ => rfl⟩, He.glo_ok X G (c.fact 3 (f := .glo "is_plantable") rfl), F_is_plantable.kp⟩
  have C_beginning : Has P w K mg base CX0 1 "beginning" P_beginning (sp_beginning K) := ⟨⟨fd_beginning, ok_beginning F_beginning T, F_beginning.bindsN fun _ _ _ _ _ _ us hl => match us, hl with | [], _ => rfl⟩, He.glo_ok X G (c.fact 4 (f := .glo "beginning") rfl), F_beginning.kp⟩
  have C_comparison : Has P w K mg base CX0 1 "comparison" P_comparison (sp_comparison K) := ⟨⟨fd_comparison, ok_comparison F_comparison T, F_comparison.bindsN fun _ _ _ _ _ _ us hl => match us, hl with | [_, _, _], _ => rfl⟩, He.glo_ok X G (c.fact 5 (f := .glo "comparison") rfl), F_comparison.kp⟩
  have C_writing : Has P w K mg base CX0 1 "writing" P_writing (sp_writing K) := ⟨⟨fd_writing, ok_writing F_writing T, F_writing.bindsN fun _ _ _ _ _ _ us hl => match us, hl with | [_, _], _ => rfl⟩, He.glo_ok X G (c.fact 6 (f := .glo "writing") rfl), F_writing.kp⟩
  have C_copying : Has P w K mg base CX0 1 "copying" P_copying (sp_copying K) := ⟨⟨fd_copying, ok_copying F_copying T, F_copying.bindsN fun _ _ _ _ _ _ us hl => match us, hl with | [_, _], _ => rfl⟩, He.glo_ok X G (c.fact 7 (f := .glo "copying") rfl), F_copying.kp⟩
  have C_trap_nodes : Has P w K mg base CX0 2 "trap_nodes" P_trap_nodes (sp_trap_nodes K) := ⟨⟨fd_trap_nodes, ok_trap_nodes F_trap_nodes T C_beginning C_comparison C_writing C_copying, F_trap_nodes.bindsN fun _ _ _ _ _ _ us hl => match us, hl with | [_, _], _ => rfl⟩, He.glo_ok X G (c.fact 8 (f := .glo "trap_nodes") rfl), F_trap_nodes.kp⟩
  have C_plant : Has P w K mg base (L2.CX P w) 3 "plant" P_plant (sp_plant K) := ⟨⟨fd_plant, ok_plant F_plant T C_is_trap C_is_plantable C_image_of C_trap_nodes, F_plant.bindsN fun _ _ _ _ _ _ us hl => match us, hl with | [_, _, _], _ => rfl⟩, He.glo_ok X G (c.fact 9 (f := .glo "plant") rfl), F_plant.kp⟩
  have C_parts_of : Has P w K mg base CX0 1 "parts_of" P_parts_of (sp_parts_of K) := ⟨⟨fd_parts_of, ok_parts_of F_parts_of T, F_parts_of.bindsN fun _ _ _ _ _ _ us hl => match us, hl with | [_, _, _], _ => rfl⟩, He.glo_ok X G (c.fact 10 (f := .glo "parts_of") rfl), F_parts_of.kp⟩
  have C_trap_at_end : Has P w K mg base CX0 3 "trap_at_end" P_trap_at_end (sp_trap_at_end K) := ⟨⟨fd_trap_at_end, ok_trap_at_end F_trap_at_end T C_parts_of C_nodes_of C_is_trap C_image_of C_trap_nodes C_is_plantable, F_trap_at_end.bindsN fun _ _ _ _ _ _ us hl => match us, hl with | [_, _, _], _ => rfl⟩, He.glo_ok X G (c.fact 11 (f := .glo "trap_at_end") rfl), F_trap_at_end.kp⟩
  have C_planted : Has P w K mg base CX0 4 "planted" P_planted (sp_planted K) := ⟨⟨fd_planted, ok_planted F_planted T C_trap_at_end, F_planted.bindsN fun _ _ _ _ _ _ us hl => match us, hl with | [_], _ => rfl⟩, He.glo_ok X G (c.fact 12 (f := .glo "planted") rfl), F_planted.kp⟩
  have C_cleaned : Has P w K mg base (L2.CX P w) 5 "cleaned" P_cleaned (sp_cleaned K) := ⟨⟨fd_cleaned, ok_cleaned F_cleaned T C_planted, F_cleaned.bindsN fun _ _ _ _ _ _ us hl => match us, hl with | [_], _ => rfl⟩, He.glo_ok X G (c.fact 13 (f := .glo "cleaned") rfl), F_cleaned.kp⟩
  have C_u_law_number : Has P w K mg base CX0 1 "_law_number" P_u_law_number (sp_u_law_number K) := ⟨⟨fd_u_law_number, ok_u_law_number F_u_law_number T, F_u_law_number.bindsN fun _ _ _ _ _ _ us hl => match us, hl with | [_], _ => rfl⟩, He.glo_ok X G (c.fact 14 (f := .glo "_law_number") rfl), F_u_law_number.kp⟩
  have C_u_law_draws : Has P w K mg base CX0 2 "_law_draws" P_u_law_draws (sp_u_law_draws K) := ⟨⟨fd_u_law_draws, ok_u_law_draws F_u_law_draws T C_u_law_number, F_u_law_draws.bindsN fun _ _ _ _ _ _ us hl => match us, hl with | [_], _ => rfl⟩, He.glo_ok X G (c.fact 15 (f := .glo "_law_draws") rfl), F_u_law_draws.kp⟩
  have C_u_law_next : Has P w K mg base CX0 1 "_law_next" P_u_law_next (sp_u_law_next K) := ⟨⟨fd_u_law_next, ok_u_law_next F_u_law_next T, F_u_law_next.bindsN fun _ _ _ _ _ _ us hl => match us, hl with | [_], _ => rfl⟩, He.glo_ok X G (c.fact 16 (f := .glo "_law_next") rfl), F_u_law_next.kp⟩
  have C_u_law_trap : Has P w K mg base CX0 1 "_law_trap" P_u_law_trap (sp_u_law_trap K) := ⟨⟨fd_u_law_trap, ok_u_law_trap F_u_law_trap T, F_u_law_trap.bindsN fun _ _ _ _ _ _ us hl => match us, hl with | [_, _], _ => rfl⟩, He.glo_ok X G (c.fact 17 (f := .glo "_law_trap") rfl), F_u_law_trap.kp⟩
  have C_u_law_is_integer : Has P w K mg base CX0 1 "_law_is_integer" P_u_law_is_integer (sp_u_law_is_integer K) := ⟨⟨fd_u_law_is_integer, ok_u_law_is_integer F_u_law_is_integer T, F_u_law_is_integer.bindsN fun _ _ _ _ _ _ us hl => match us, hl with | [_], _ => rfl⟩, He.glo_ok X G (c.fact 18 (f := .glo "_law_is_integer") rfl), F_u_law_is_integer.kp⟩
  have C_u_law_is_integers : Has P w K mg base CX0 2 "_law_is_integers" P_u_law_is_integers (sp_u_law_is_integers K) := ⟨⟨fd_u_law_is_integers, ok_u_law_is_integers F_u_law_is_integers T C_u_law_is_integer, F_u_law_is_integers.bindsN fun _ _ _ _ _ _ us hl => match us, hl with | [_], _ => rfl⟩, He.glo_ok X G (c.fact 19 (f := .glo "_law_is_integers") rfl), F_u_law_is_integers.kp⟩
  have C_u_law_image : Has P w K mg base CX0 2 "_law_image" P_u_law_image (sp_u_law_image K) := ⟨⟨fd_u_law_image, ok_u_law_image F_u_law_image T C_u_law_next, F_u_law_image.bindsN fun _ _ _ _ _ _ us hl => match us, hl with | [_], _ => rfl⟩, He.glo_ok X G (c.fact 20 (f := .glo "_law_image") rfl), F_u_law_image.kp⟩
  have C_u_law_changed : Has P w K mg base CX0 2 "_law_changed" P_u_law_changed (sp_u_law_changed K) := ⟨⟨fd_u_law_changed, ok_u_law_changed F_u_law_changed T C_u_law_next, F_u_law_changed.bindsN fun _ _ _ _ _ _ us hl => match us, hl with | [_, _], _ => rfl⟩, He.glo_ok X G (c.fact 21 (f := .glo "_law_changed") rfl), F_u_law_changed.kp⟩
  have C_u_law_plantable : Has P w K mg base CX0 1 "_law_plantable" P_u_law_plantable (sp_u_law_plantable K) := ⟨⟨fd_u_law_plantable, ok_u_law_plantable F_u_law_plantable T, F_u_law_plantable.bindsN fun _ _ _ _ _ _ us hl => match us, hl with | [_], _ => rfl⟩, He.glo_ok X G (c.fact 22 (f := .glo "_law_plantable") rfl), F_u_law_plantable.kp⟩
  have C_u_law_found : Has P w K mg base CX0 2 "_law_found" P_u_law_found (sp_u_law_found K) := ⟨⟨fd_u_law_found, ok_u_law_found F_u_law_found T C_u_law_trap C_u_law_plantable, F_u_law_found.bindsN fun _ _ _ _ _ _ us hl => match us, hl with | [_], _ => rfl⟩, He.glo_ok X G (c.fact 23 (f := .glo "_law_found") rfl), F_u_law_found.kp⟩
  have C_u_law_cleaned : Has P w K mg base CX0 6 "_law_cleaned" P_u_law_cleaned (sp_u_law_cleaned K) := ⟨⟨fd_u_law_cleaned, ok_u_law_cleaned F_u_law_cleaned T C_cleaned, F_u_law_cleaned.bindsN fun _ _ _ _ _ _ us hl => match us, hl with | [_], _ => rfl⟩, He.glo_ok X G (c.fact 24 (f := .glo "_law_cleaned") rfl), F_u_law_cleaned.kp⟩
  exact ok_law F_law T C_u_law_draws C_u_law_next C_u_law_image C_plant C_u_law_changed C_u_law_found C_planted C_u_law_cleaned C_u_law_is_integers
end L61
open PySem PySem.W PySem.Calls PyProof.Rows
set_option maxHeartbeats 0 in
theorem PySem.Challenge.cw_plinth_k61_planted_images_are_known_holds : PySem.Challenge.rw_plinth_k61_planted_images_are_known.Holds := by
  w_on; o_law
  refine HandSHeadRun.head_any (r := OpenLaw.row PySem.Challenge.rw_plinth_k61_planted_images_are_known) (q := view (OpenLaw.row PySem.Challenge.rw_plinth_k61_planted_images_are_known).prog [49]) (H := L61.hk) (ob := L61.ob) (M := 20000) (loose := L61.nms) (d := HandSHeadRun.topDef (OpenLaw.row PySem.Challenge.rw_plinth_k61_planted_images_are_known).prog 49) (kwd := []) L61.ob_eq
    (by kernel_rfl) (fun s => by kernel_rfl) L61.run (by kernel_rfl) (by kernel_rfl) (by kernel_rfl) (by rfl) (by first | assumption | decide +kernel) (by decide +kernel) ⟨rfl, rfl, rfl, rfl, rfl, by decide +kernel⟩ ?hw ?hc
  case hw => w_witness2
  case hc =>
    refine L2.walk_ofE (l := PySem.Challenge.rw_plinth_k61_planted_images_are_known) (n := 63) (k := 7) (x := "_law_script") (CX := L2.CX0) rfl (by decide) (by kernel_rfl) ⟨rfl, by decide, by decide⟩ ?F (fun _ _ _ _ z => z)
    intro w mg fa h Y G hmg0
    obtain ⟨K, KX, c⟩ := Y
    have hmg : mg ("law" : PySem.Str) = some (.ref fa) := by
      have e : (HandSHeadRun.topDef (OpenLaw.row PySem.Challenge.rw_plinth_k61_planted_images_are_known).prog 49).name = ("law" : PySem.Str) := by kernel_rfl
      rw [← e]
      exact hmg0
    obtain ⟨fd, hb, hF⟩ := L61.facts (P := (PySem.Challenge.rw_plinth_k61_planted_images_are_known).prog) (w := w) KX G hmg c
    exact ⟨K, fd, L61.sp_law K, KX, hb, fun H a ns hl hO hS => Z.law_in hO hS (show _ from ⟨Nat.le_trans hl (by decide), L61.xk_of c.more⟩), hF⟩
