import PyProof.Rows.All
import Wide.All
import OpenK.AllK
import Wide.FinOn
import HandS.Base
import HandS.Call
import HandS.List
import HandS.Comp
import HandS.Ends
import HandS.Wide
import HandS.WideBits
import HandS.IsInst
import HandS.ExcOwn
import HandS.TupLe
import HandS.Words
import HandS.WordsExc
import HandS.EndBits
import HandS.Iter
import HandS.SortKw
import KE.DatumOrd
import PySem.Challenge.RW_trueline_k19_whole_near_keeps_order
set_option Elab.async false
set_option linter.all false
set_option maxRecDepth 100000
set_option maxHeartbeats 4000000
/-! Data, frozen heaps, slots: a calculus of data over the hand layer. -/
namespace Tl
open PySem L2

/-- plain data, and a few things that are passed about -/
inductive Dt where
  | non | bl (b : Bool) | int (i : Int) | str (x : Str)
  | lst (xs : List Dt) | tup (xs : List Dt)
  | scr (ns : List Int)
  | obj (a : Addr) (o : HO)
  | raw (a : Addr)
  | ty (n : String)

def Sm (H H' : Hp) : Prop := ∀ b o, H b = some o → H' b = some o
theorem Sm.refl (H : Hp) : Sm H H := fun _ _ e => e
theorem Sm.trans {H H1 H2 : Hp} (a : Sm H H1) (b : Sm H1 H2) : Sm H H2 := fun c o h => b c o (a c o h)
theorem Sm.free {H H' : Hp} (e : Sm H H') {l : Addr} (h : H' l = none) : H l = none := by
  cases q : H l with
  | none => rfl
  | some o => rw [e l o q] at h; cases h
theorem Sm.new {H : Hp} {p : Addr} {o : HO} (h : H p = none) : Sm H (upd H p o) := fun a u e => by
  rw [upd_ne (ne_of_none e h)]; exact e
theorem Sm.rd {H H' : Hp} {a : Addr} {u : HO} (e : Sm H H') (h : Rd H a u) : Rd H' a u := by
  rcases h with h | ⟨o, h⟩
  · exact .inl (e a _ h)
  · exact .inr ⟨o, e a _ h⟩
theorem Sm.sqL {K : PySem.W.Frag} {H H' : Hp} {a : Addr} {xs : List V} (e : Sm H H') (h : SqL K H a xs) : SqL K H' a xs := by
  rcases h with h | h
  · exact .inl (e.rd h)
  · exact .inr h
theorem Sm.sqT {K : PySem.W.Frag} {H H' : Hp} {a : Addr} {xs : List V} (e : Sm H H') (h : SqT K H a xs) : SqT K H' a xs := by
  rcases h with h | h
  · exact .inl (e.rd h)
  · exact .inr h

mutual
inductive Rp (K : PySem.W.Frag) (H : Hp) : V → Dt → Prop
  | non : Rp K H .non .non
  | bl (b : Bool) : Rp K H (.bl b) (.bl b)
  | int (i : Int) : Rp K H (.int i) (.int i)
  | str (x : Str) : Rp K H (.str x) (.str x)
  | lst {a : Addr} {xs : List V} {ds : List Dt} : H a = some (.lst xs) → Rps K H xs ds → Rp K H (.ref a) (.lst ds)
  | tup {a : Addr} {xs : List V} {ds : List Dt} : SqT K H a xs → Rps K H xs ds → Rp K H (.ref a) (.tup ds)
  | scr {a : Addr} {ns : List Int} : SqL K H a (ns.map V.int) → Rp K H (.ref a) (.scr ns)
  | obj {a : Addr} {o : HO} : H a = some o → Rp K H (.ref a) (.obj a o)
  | raw (a : Addr) : Rp K H (.ref a) (.raw a)
  | ty (n : String) : Rp K H (.ty n) (.ty n)
inductive Rps (K : PySem.W.Frag) (H : Hp) : List V → List Dt → Prop
  | nil : Rps K H [] []
  | cons {v : V} {vs : List V} {d : Dt} {ds : List Dt} : Rp K H v d → Rps K H vs ds → Rps K H (v :: vs) (d :: ds)
end

section
variable {K : PySem.W.Frag} {H H' : Hp}
mutual
theorem Rp.mono (e : Sm H H') : ∀ {v : V} {d : Dt}, Rp K H v d → Rp K H' v d
  | _, _, .non => .non
  | _, _, .bl b => .bl b
  | _, _, .int i => .int i
  | _, _, .str x => .str x
  | _, _, .lst h r => .lst (e _ _ h) (Rps.mono e r)
  | _, _, .tup h r => .tup (e.sqT h) (Rps.mono e r)
  | _, _, .scr h => .scr (e.sqL h)
  | _, _, .obj h => .obj (e _ _ h)
  | _, _, .raw a => .raw a
  | _, _, .ty n => .ty n
theorem Rps.mono (e : Sm H H') : ∀ {vs : List V} {ds : List Dt}, Rps K H vs ds → Rps K H' vs ds
  | _, _, .nil => .nil
  | _, _, .cons a b => .cons (Rp.mono e a) (Rps.mono e b)
end
theorem Rps.length : ∀ {vs : List V} {ds : List Dt}, Rps K H vs ds → vs.length = ds.length
  | _, _, .nil => rfl
  | _, _, .cons _ b => congrArg (· + 1) (Rps.length b)
theorem Rps.get : ∀ {vs : List V} {ds : List Dt} {i : Nat} {d : Dt}, Rps K H vs ds → ds[i]? = some d → ∃ v, vs[i]? = some v ∧ Rp K H v d
  | _, _, _, _, .nil, e => by simp at e
  | _, _, 0, _, .cons a _, e => by simp at e; subst e; exact ⟨_, rfl, a⟩
  | _, _, i + 1, d, .cons _ b, e => by
    obtain ⟨v, h1, h2⟩ := Rps.get (i := i) (d := d) b (by simpa using e)
    exact ⟨v, by simpa using h1, h2⟩
theorem Rps.getV : ∀ {vs : List V} {ds : List Dt} {i : Nat} {v : V}, Rps K H vs ds → vs[i]? = some v → ∃ d, ds[i]? = some d ∧ Rp K H v d
  | _, _, _, _, .nil, e => by simp at e
  | _, _, 0, _, .cons a _, e => by simp at e; subst e; exact ⟨_, rfl, a⟩
  | _, _, i + 1, v, .cons _ b, e => by
    obtain ⟨d, h1, h2⟩ := Rps.getV (i := i) (v := v) b (by simpa using e)
    exact ⟨d, by simpa using h1, h2⟩
theorem Rps.append : ∀ {vs us : List V} {ds es : List Dt}, Rps K H vs ds → Rps K H us es → Rps K H (vs ++ us) (ds ++ es)
  | _, _, _, _, .nil, r => r
  | _, _, _, _, .cons a b, r => .cons a (Rps.append b r)
theorem Rps.set : ∀ {vs : List V} {ds : List Dt} {v : V} {d : Dt} (i : Nat), Rps K H vs ds → Rp K H v d → Rps K H (vs.set i v) (ds.set i d)
  | _, _, _, _, _, .nil, _ => .nil
  | _, _, _, _, 0, .cons _ b, r => .cons r b
  | _, _, _, _, i + 1, .cons a b, r => .cons a (Rps.set i b r)
theorem Rps.take : ∀ {vs : List V} {ds : List Dt} (n : Nat), Rps K H vs ds → Rps K H (vs.take n) (ds.take n)
  | _, _, 0, _ => .nil
  | _, _, _ + 1, .nil => .nil
  | _, _, n + 1, .cons a b => .cons a (Rps.take n b)
theorem Rps.drop : ∀ {vs : List V} {ds : List Dt} (n : Nat), Rps K H vs ds → Rps K H (vs.drop n) (ds.drop n)
  | _, _, 0, r => r
  | _, _, _ + 1, .nil => .nil
  | _, _, n + 1, .cons _ b => Rps.drop n b
theorem Rps.ints : ∀ {ns : List Int} {vs : List V}, Rps K H vs (ns.map Dt.int) → vs = ns.map V.int
  | [], _, h => by cases h; rfl
  | n :: ns, _, h => by
    cases h with
    | cons a b => cases a; rw [Rps.ints b]; rfl
theorem Rps.ofInts : ∀ (ns : List Int), Rps K H (ns.map V.int) (ns.map Dt.int)
  | [] => .nil
  | n :: ns => .cons (.int n) (Rps.ofInts ns)
theorem Rps.bools : ∀ {ns : List Bool} {vs : List V}, Rps K H vs (ns.map Dt.bl) → vs = ns.map V.bl
  | [], _, h => by cases h; rfl
  | n :: ns, _, h => by
    cases h with
    | cons a b => cases a; rw [Rps.bools b]; rfl
theorem Rps.strs : ∀ {ns : List Str} {vs : List V}, Rps K H vs (ns.map Dt.str) → vs = ns.map V.str
  | [], _, h => by cases h; rfl
  | n :: ns, _, h => by
    cases h with
    | cons a b => cases a; rw [Rps.strs b]; rfl
end

/-- heaps grow: frozen Hf in H becomes Hf' in H'; what H held and Hf did not stays out of Hf' -/
structure Gr (Hf H Hf' H' : Hp) : Prop where
  f : Sm Hf Hf'
  h : Sm H H'
  s : Sm Hf' H'
  o : ∀ p u, H p = some u → Hf p = none → Hf' p = none
theorem Gr.refl {Hf H : Hp} (s : Sm Hf H) : Gr Hf H Hf H := ⟨Sm.refl _, Sm.refl _, s, fun _ _ _ e => e⟩
theorem Gr.trans {A B C D E F : Hp} (a : Gr A B C D) (b : Gr C D E F) : Gr A B E F :=
  ⟨a.f.trans b.f, a.h.trans b.h, b.s, fun p u e n => b.o p u (a.h p u e) (a.o p u e n)⟩
theorem Gr.new {Hf H : Hp} {p : Addr} {o : HO} (s : Sm Hf H) (n : H p = none) : Gr Hf H (upd Hf p o) (upd H p o) := by
  refine ⟨Sm.new (s.free n), Sm.new n, fun b u e => ?_, fun q u e m => ?_⟩
  · by_cases hb : b = p
    · subst hb; rw [upd_same] at e ⊢; exact e
    · rw [upd_ne hb] at e ⊢; exact s b u e
  · rw [upd_ne (ne_of_none e n)]; exact m
theorem Gr.newO {Hf H : Hp} {p : Addr} {o : HO} (s : Sm Hf H) (n : H p = none) : Gr Hf H Hf (upd H p o) :=
  ⟨Sm.refl _, Sm.new n, s.trans (Sm.new n), fun _ _ _ m => m⟩
/-- a thing of the caller's that H0 did not hold may change, or be frozen -/
theorem Gr.mut {Hf0 H0 Hf H : Hp} {p : Addr} {o : HO} (g : Gr Hf0 H0 Hf H) (n : H0 p = none) (nf : Hf p = none) : Gr Hf0 H0 Hf (upd H p o) :=
  ⟨g.f, fun b u e => by rw [upd_ne (ne_of_none e n)]; exact g.h b u e, fun b u e => by rw [upd_ne (ne_of_none e nf)]; exact g.s b u e, g.o⟩
theorem Gr.freeze {Hf0 H0 Hf H : Hp} {p : Addr} {o : HO} (g : Gr Hf0 H0 Hf H) (n : H0 p = none) (nf : Hf p = none) (e : H p = some o) : Gr Hf0 H0 (upd Hf p o) H := by
  refine ⟨g.f.trans (Sm.new nf), g.h, fun b u h => ?_, fun q u h m => ?_⟩
  · by_cases hb : b = p
    · subst hb; rw [upd_same] at h; cases h; exact e
    · rw [upd_ne hb] at h; exact g.s b u h
  · rw [upd_ne (ne_of_none h n)]; exact g.o q u h m

/-! ### slots -/
inductive Sl where
  | val (d : Dt)
  | own (ds : List Dt)
abbrev DS := List (Option Sl)
structure SR (K : PySem.W.Frag) (Hf0 H0 Hf H : Hp) (σ : L2.St) (δ : DS) : Prop where
  g : Gr Hf0 H0 Hf H
  len : δ.length = σ.length
  val : ∀ (i : Nat) d, δ[i]? = some (some (.val d)) → ∃ v, σ[i]? = some (some v) ∧ Rp K Hf v d
  own : ∀ (i : Nat) ds, δ[i]? = some (some (.own ds)) → ∃ p xs, σ[i]? = some (some (.ref p)) ∧ H0 p = none ∧ Hf p = none ∧ H p = some (.lst xs) ∧ Rps K Hf xs ds
  dis : ∀ (i j : Nat) ds es p q, i ≠ j → δ[i]? = some (some (.own ds)) → δ[j]? = some (some (.own es)) → σ[i]? = some (some (.ref p)) → σ[j]? = some (some (.ref q)) → p ≠ q
section
variable {K : PySem.W.Frag} {Hf0 H0 Hf H Hf' H' : Hp} {σ : L2.St} {δ : DS}
theorem SR.grow (r : SR K Hf0 H0 Hf H σ δ) (e : Gr Hf H Hf' H') : SR K Hf0 H0 Hf' H' σ δ := by
  refine ⟨r.g.trans e, r.len, fun i d h => ?_, fun i ds h => ?_, r.dis⟩
  · obtain ⟨v, h1, h2⟩ := r.val i d h
    exact ⟨v, h1, h2.mono e.f⟩
  · obtain ⟨p, xs, h1, h2, h3, h4, h5⟩ := r.own i ds h
    exact ⟨p, xs, h1, h2, e.o _ _ h4 h3, e.h _ _ h4, h5.mono e.f⟩
theorem SR.lt (r : SR K Hf0 H0 Hf H σ δ) {i : Nat} {s : Sl} (h : δ[i]? = some (some s)) : i < σ.length := by
  have := (List.getElem?_eq_some_iff.mp h).1
  rw [r.len] at this; exact this
theorem get_set {α : Type} {l : List α} {i j : Nat} {x y : α} (h : (l.set i x)[j]? = some y) : (j = i ∧ i < l.length ∧ y = x) ∨ (j ≠ i ∧ l[j]? = some y) := by
  by_cases e : j = i
  · subst e
    have hl : j < l.length := by
      have := (List.getElem?_eq_some_iff.mp h).1
      simpa using this
    rw [List.getElem?_set_self hl] at h
    exact .inl ⟨rfl, hl, (Option.some.inj h).symm⟩
  · rw [List.getElem?_set_ne (Ne.symm e)] at h
    exact .inr ⟨e, h⟩
theorem SR.set (r : SR K Hf0 H0 Hf H σ δ) {v : V} {d : Dt} (h : Rp K Hf v d) (i : Nat) : SR K Hf0 H0 Hf H (σ.set i (some v)) (δ.set i (some (.val d))) := by
  refine ⟨r.g, by rw [List.length_set, List.length_set, r.len], fun j d' e => ?_, fun j ds e => ?_, fun j k ds es p q hne e1 e2 f1 f2 => ?_⟩
  · rcases get_set e with ⟨rfl, hl, q⟩ | ⟨hne, e⟩
    · cases q
      exact ⟨v, List.getElem?_set_self (by rw [← r.len]; exact hl), h⟩
    · obtain ⟨w, h1, h2⟩ := r.val j d' e
      exact ⟨w, by rw [List.getElem?_set_ne (Ne.symm hne)]; exact h1, h2⟩
  · rcases get_set e with ⟨_, _, q⟩ | ⟨hne, e⟩
    · cases q
    · obtain ⟨p, xs, h1, h2⟩ := r.own j ds e
      exact ⟨p, xs, by rw [List.getElem?_set_ne (Ne.symm hne)]; exact h1, h2⟩
  · rcases get_set e1 with ⟨_, _, q⟩ | ⟨n1, e1⟩
    · cases q
    · rcases get_set e2 with ⟨_, _, q⟩ | ⟨n2, e2⟩
      · cases q
      · rw [List.getElem?_set_ne (Ne.symm n1)] at f1
        rw [List.getElem?_set_ne (Ne.symm n2)] at f2
        exact r.dis j k ds es p q hne e1 e2 f1 f2
/-- a fresh list goes to a slot -/
theorem SR.setO (r : SR K Hf0 H0 Hf H σ δ) (g : Gr Hf H Hf' H') {p : Addr} {xs : List V} {ds : List Dt} (n : H p = none) (nf : Hf' p = none) (hp : H' p = some (.lst xs)) (h : Rps K Hf' xs ds) (i : Nat) :
    SR K Hf0 H0 Hf' H' (σ.set i (some (.ref p))) (δ.set i (some (.own ds))) := by
  have r' := r.grow g
  have fresh : ∀ (j : Nat) es q, δ[j]? = some (some (.own es)) → σ[j]? = some (some (.ref q)) → q ≠ p := fun j es q e f => by
    obtain ⟨p', xs', h1, h2, h3, h4, h5⟩ := r.own j es e
    rw [f] at h1; cases h1
    exact ne_of_none h4 n
  refine ⟨r'.g, by rw [List.length_set, List.length_set, r.len], fun j d' e => ?_, fun j es e => ?_, fun j k ds es p' q' hne e1 e2 f1 f2 => ?_⟩
  · rcases get_set e with ⟨_, _, q⟩ | ⟨hne, e⟩
    · cases q
    · obtain ⟨w, h1, h2⟩ := r'.val j d' e
      exact ⟨w, by rw [List.getElem?_set_ne (Ne.symm hne)]; exact h1, h2⟩
  · rcases get_set e with ⟨rfl, hl, q⟩ | ⟨hne, e⟩
    · cases q
      exact ⟨p, xs, List.getElem?_set_self (by rw [← r.len]; exact hl), r.g.h.free n, nf, hp, h⟩
    · obtain ⟨p', xs', h1, h2⟩ := r'.own j es e
      exact ⟨p', xs', by rw [List.getElem?_set_ne (Ne.symm hne)]; exact h1, h2⟩
  · rcases get_set e1 with ⟨rfl, hl, q⟩ | ⟨n1, d1⟩
    · rcases get_set e2 with ⟨rfl, _, _⟩ | ⟨n2, d2⟩
      · exact absurd rfl hne
      · rw [List.getElem?_set_self (by rw [← r.len]; exact hl)] at f1
        rw [List.getElem?_set_ne (Ne.symm n2)] at f2
        cases f1
        exact (fresh k es q' d2 f2).symm
    · rcases get_set e2 with ⟨rfl, hl, q⟩ | ⟨n2, d2⟩
      · rw [List.getElem?_set_self (by rw [← r.len]; exact hl)] at f2
        rw [List.getElem?_set_ne (Ne.symm n1)] at f1
        cases f2
        exact fresh j ds p' d1 f1
      · rw [List.getElem?_set_ne (Ne.symm n1)] at f1
        rw [List.getElem?_set_ne (Ne.symm n2)] at f2
        exact r.dis j k ds es p' q' hne d1 d2 f1 f2
/-- an owned list is changed -/
theorem SR.mutO (r : SR K Hf0 H0 Hf H σ δ) {i : Nat} {ds es : List Dt} {p : Addr} {ys : List V} (e : δ[i]? = some (some (.own ds))) (f : σ[i]? = some (some (.ref p))) (h : Rps K Hf ys es) :
    SR K Hf0 H0 Hf (upd H p (.lst ys)) σ (δ.set i (some (.own es))) := by
  obtain ⟨p', xs, h1, h2, h3, h4, h5⟩ := r.own i ds e
  rw [f] at h1; cases h1
  refine ⟨r.g.mut h2 h3, by rw [List.length_set, r.len], fun j d' e' => ?_, fun j es' e' => ?_, fun j k ds' es' p1 q1 hne e1 e2 f1 f2 => ?_⟩
  · rcases get_set e' with ⟨_, _, q⟩ | ⟨hne, e'⟩
    · cases q
    · exact r.val j d' e'
  · rcases get_set e' with ⟨rfl, hl, q⟩ | ⟨hne, e'⟩
    · cases q
      exact ⟨p, ys, f, h2, h3, upd_same, h⟩
    · obtain ⟨p2, xs2, g1, g2, g3, g4, g5⟩ := r.own j es' e'
      have hn : p2 ≠ p := r.dis j i es' ds p2 p hne e' e g1 f
      exact ⟨p2, xs2, g1, g2, g3, by rw [upd_ne hn]; exact g4, g5⟩
  · have old : ∀ {j : Nat} {x}, (δ.set i (some (.own es)))[j]? = some (some (.own x)) → ∃ y, δ[j]? = some (some (.own y)) := fun {j x} q => by
      rcases get_set q with ⟨rfl, _, _⟩ | ⟨_, q⟩
      · exact ⟨ds, e⟩
      · exact ⟨x, q⟩
    obtain ⟨a, ea⟩ := old e1
    obtain ⟨b, eb⟩ := old e2
    exact r.dis j k a b p1 q1 hne ea eb f1 f2
/-- an owned list is frozen -/
theorem SR.frz (r : SR K Hf0 H0 Hf H σ δ) {i : Nat} {ds : List Dt} (e : δ[i]? = some (some (.own ds))) : ∃ Hf', Gr Hf0 H0 Hf' H ∧ Sm Hf Hf' ∧ SR K Hf0 H0 Hf' H σ (δ.set i (some (.val (.lst ds)))) := by
  obtain ⟨p, xs, h1, h2, h3, h4, h5⟩ := r.own i ds e
  have sm : Sm Hf (upd Hf p (.lst xs)) := Sm.new h3
  refine ⟨upd Hf p (.lst xs), r.g.freeze h2 h3 h4, sm, r.g.freeze h2 h3 h4, by rw [List.length_set, r.len], fun j d' e' => ?_, fun j es' e' => ?_, fun j k ds' es' p1 q1 hne e1 e2 f1 f2 => ?_⟩
  · rcases get_set e' with ⟨rfl, hl, q⟩ | ⟨hne, e'⟩
    · cases q
      exact ⟨.ref p, h1, .lst upd_same (h5.mono sm)⟩
    · obtain ⟨v, g1, g2⟩ := r.val j d' e'
      exact ⟨v, g1, g2.mono sm⟩
  · rcases get_set e' with ⟨_, _, q⟩ | ⟨hne, e'⟩
    · cases q
    · obtain ⟨p2, xs2, g1, g2, g3, g4, g5⟩ := r.own j es' e'
      have hn : p2 ≠ p := r.dis j i es' ds p2 p hne e' e g1 h1
      exact ⟨p2, xs2, g1, g2, by rw [upd_ne hn]; exact g3, g4, g5.mono sm⟩
  · rcases get_set e1 with ⟨_, _, q⟩ | ⟨n1, e1⟩
    · cases q
    · rcases get_set e2 with ⟨_, _, q⟩ | ⟨n2, e2⟩
      · cases q
      · exact r.dis j k ds' es' p1 q1 hne e1 e2 f1 f2
/-- fewer slots known -/
theorem SR.weak {δ' : DS} (r : SR K Hf0 H0 Hf H σ δ) (hl : δ'.length = δ.length) (w : ∀ (i : Nat) s, δ'[i]? = some (some s) → δ[i]? = some (some s)) : SR K Hf0 H0 Hf H σ δ' :=
  ⟨r.g, hl.trans r.len, fun i d h => r.val i d (w i _ h), fun i ds h => r.own i ds (w i _ h), fun i j ds es p q n a b => r.dis i j ds es p q n (w i _ a) (w j _ b)⟩
def wipeD (δ : DS) : List Nat → DS
  | [] => δ
  | v :: vs => (wipeD δ vs).set v none
theorem SR.unset (r : SR K Hf0 H0 Hf H σ δ) (i : Nat) : SR K Hf0 H0 Hf H (σ.set i none) (δ.set i none) := by
  have gs : ∀ {j : Nat} {s}, (δ.set i none)[j]? = some (some s) → j ≠ i ∧ δ[j]? = some (some s) := fun {j s} q => by
    rcases get_set q with ⟨_, _, z⟩ | z
    · cases z
    · exact z
  refine ⟨r.g, by rw [List.length_set, List.length_set, r.len], fun j d' e => ?_, fun j ds e => ?_, fun j k ds es p q hne e1 e2 f1 f2 => ?_⟩
  · obtain ⟨n, e⟩ := gs e
    rw [List.getElem?_set_ne (Ne.symm n)]; exact r.val j d' e
  · obtain ⟨n, e⟩ := gs e
    rw [List.getElem?_set_ne (Ne.symm n)]; exact r.own j ds e
  · obtain ⟨n1, e1⟩ := gs e1
    obtain ⟨n2, e2⟩ := gs e2
    rw [List.getElem?_set_ne (Ne.symm n1)] at f1
    rw [List.getElem?_set_ne (Ne.symm n2)] at f2
    exact r.dis j k ds es p q hne e1 e2 f1 f2
theorem SR.wipe (r : SR K Hf0 H0 Hf H σ δ) : ∀ vs : List Nat, SR K Hf0 H0 Hf H (wipe σ vs) (wipeD δ vs)
  | [] => r
  | v :: vs => (SR.wipe r vs).unset v
end
end Tl

/-! The judgements: expressions, tests, statements, over data. -/
namespace Tl
open PySem L2

/-! ### the readings that a piece of syntax has by itself -/
def wE (X : Cx) (e : Expr) : TE := fun σ H Q => ∀ (pins : List (Addr × Obj)) (s : Shared), Inv X pins σ H s → wpAny (model X.prog X.w) X.A (eval e X.env) (EP X pins σ Q) X.xe s
def wT (X : Cx) (e : Expr) : TT := fun σ H Q => ∀ (pins : List (Addr × Obj)) (s : Shared), Inv X pins σ H s → wpAny (model X.prog X.w) X.A (isTrue e X.env (eval e X.env)) (TP X pins σ Q) X.xe s
def wW (X : Cx) (e : Expr) : TT := fun σ H Q => ∀ (whole : Sem Value) (pins : List (Addr × Obj)) (s : Shared), Inv X pins σ H s → wpAny (model X.prog X.w) X.A (isTrue e X.env whole) (TP X pins σ Q) X.xe s
def wA (X : Cx) (es : List Expr) : TA := fun σ H Q => ∀ (pos : Pos) (pins : List (Addr × Obj)) (s : Shared), Inv X pins σ H s → wpAny (model X.prog X.w) X.A (spliced (backTo pos (starEach es X.env))) (AP X pins σ Q) X.xe s
def wS (X : Cx) (st : Stmt) : TS := fun D σ H => ∀ (pins : List (Addr × Obj)) (s : Shared), Inv X pins σ H s → wpAny (model X.prog X.w) X.A (exec st X.env) (SP X pins D) X.xe s
def wSs (X : Cx) (ss : List Stmt) : TS := fun D σ H => ∀ (pins : List (Addr × Obj)) (s : Shared), Inv X pins σ H s → wpAny (model X.prog X.w) X.A (execs ss X.env) (SP X pins D) X.xe s
def wG (X : Cx) (tg : Expr) : TG := fun v σ H Q => ∀ (pins : List (Addr × Obj)) (s : Shared) (u : Value), Inv X pins σ H s → RelV v u → wpAny (model X.prog X.w) X.A (assign tg X.env u) (fun _ s' => ∃ σ' H', Inv X pins σ' H' s' ∧ Q σ' H') X.xe s
def wTs (X : Cx) (ifs : List Expr) : TT := fun σ H Q => ∀ (pins : List (Addr × Obj)) (s : Shared), Inv X pins σ H s → wpAny (model X.prog X.w) X.A (forIn ifs true fun c r => if r = true then do let ok ← isTrue c X.env (eval c X.env); pure (ForInStep.yield ok) else pure (ForInStep.yield r)) (TP X pins σ Q) X.xe s
section
variable {X : Cx} {e : Expr} {es ifs : List Expr} {st : Stmt} {ss : List Stmt} {σ : L2.St} {H : Hp}
theorem pe_w : PE X e (wE X e) := ⟨fun pins s σ H Q I h => h pins s I⟩
theorem pt_w : PT X e (wT X e) := ⟨fun pins s σ H Q I h => h pins s I⟩
theorem pw_w : PW X e (wW X e) := ⟨fun wh pins s σ H Q I h => h wh pins s I⟩
theorem pa_w : PA X es (wA X es) := ⟨fun pos pins s σ H Q I h => h pos pins s I⟩
theorem ps_w : PS X st (wS X st) := ⟨fun pins s σ H D I h => h pins s I⟩
theorem pss_w : PSs X ss (wSs X ss) := ⟨fun pins s σ H D I h => h pins s I⟩
theorem pg_w : PG X e (wG X e) := ⟨fun pins s σ H v u Q I r h => h pins s u I r⟩
theorem pts_w : PTs X ifs (wTs X ifs) := ⟨fun pins s σ H Q I h => h pins s I⟩
theorem goE {te : TE} {Q : VK} (h : PE X e te) (q : te σ H Q) : wE X e σ H Q := fun pins s I => h.run pins s σ H Q I q
theorem goT {t : TT} {Q : Bool → Hp → Prop} (h : PT X e t) (q : t σ H Q) : wT X e σ H Q := fun pins s I => h.run pins s σ H Q I q
theorem goW {t : TT} {Q : Bool → Hp → Prop} (h : PW X e t) (q : t σ H Q) : wW X e σ H Q := fun wh pins s I => h.run wh pins s σ H Q I q
theorem goA {t : TA} {Q : List V → Hp → Prop} (h : PA X es t) (q : t σ H Q) : wA X es σ H Q := fun pos pins s I => h.run pos pins s σ H Q I q
theorem goS {t : TS} {D : Ends} (h : PS X st t) (q : t D σ H) : wS X st D σ H := fun pins s I => h.run pins s σ H D I q
theorem goSs {t : TS} {D : Ends} (h : PSs X ss t) (q : t D σ H) : wSs X ss D σ H := fun pins s I => h.run pins s σ H D I q
theorem goG {t : TG} {v : V} {Q : L2.St → Hp → Prop} (h : PG X e t) (q : t v σ H Q) : wG X e v σ H Q := fun pins s u I r => h.run pins s σ H v u Q I r q
theorem goTs {t : TT} {Q : Bool → Hp → Prop} (h : PTs X ifs t) (q : t σ H Q) : wTs X ifs σ H Q := fun pins s I => h.run pins s σ H Q I q
end

/-! ### the judgements of data -/
def EE (X : Cx) (δ : DS) (e : Expr) (d : Dt) : Prop := ∀ (Hf0 H0 Hf H : Hp) (σ : L2.St) (Q : VK), SR X.K Hf0 H0 Hf H σ δ →
  (∀ v Hf' H', Gr Hf H Hf' H' → Rp X.K Hf' v d → Q v H') → wE X e σ H Q
/-- a fresh list -/
def EO (X : Cx) (δ : DS) (e : Expr) (ds : List Dt) : Prop := ∀ (Hf0 H0 Hf H : Hp) (σ : L2.St) (Q : VK), SR X.K Hf0 H0 Hf H σ δ →
  (∀ p xs Hf' H', Gr Hf H Hf' H' → H p = none → Hf' p = none → H' p = some (.lst xs) → Rps X.K Hf' xs ds → Q (.ref p) H') → wE X e σ H Q
def EA (X : Cx) (δ : DS) (es : List Expr) (ds : List Dt) : Prop := ∀ (Hf0 H0 Hf H : Hp) (σ : L2.St) (Q : List V → Hp → Prop), SR X.K Hf0 H0 Hf H σ δ →
  (∀ vs Hf' H', Gr Hf H Hf' H' → Rps X.K Hf' vs ds → Q vs H') → wA X es σ H Q
def ET (X : Cx) (δ : DS) (e : Expr) (p : Prop) : Prop := ∀ (Hf0 H0 Hf H : Hp) (σ : L2.St) (Q : Bool → Hp → Prop), SR X.K Hf0 H0 Hf H σ δ →
  (∀ (b : Bool) Hf' H', Gr Hf H Hf' H' → (b = true ↔ p) → Q b H') → wT X e σ H Q
def EW (X : Cx) (δ : DS) (e : Expr) (p : Prop) : Prop := ∀ (Hf0 H0 Hf H : Hp) (σ : L2.St) (Q : Bool → Hp → Prop), SR X.K Hf0 H0 Hf H σ δ →
  (∀ (b : Bool) Hf' H', Gr Hf H Hf' H' → (b = true ↔ p) → Q b H') → wW X e σ H Q
def ETs (X : Cx) (δ : DS) (es : List Expr) (p : Prop) : Prop := ∀ (Hf0 H0 Hf H : Hp) (σ : L2.St) (Q : Bool → Hp → Prop), SR X.K Hf0 H0 Hf H σ δ →
  (∀ (b : Bool) Hf' H', Gr Hf H Hf' H' → (b = true ↔ p) → Q b H') → wTs X es σ H Q
/-- a target: the slots it stores are among js -/
def GT (X : Cx) (δ : DS) (tg : Expr) (d : Dt) (js : List Nat) (δ' : DS) : Prop := ∀ (Hf0 H0 Hf H : Hp) (σ : L2.St) (v : V) (Q : L2.St → Hp → Prop), SR X.K Hf0 H0 Hf H σ δ → Rp X.K Hf v d →
  (∀ σ', SR X.K Hf0 H0 Hf H σ' δ' → (∀ vs : List Nat, (∀ j ∈ js, j ∈ vs) → wipe σ' vs = wipe σ vs) → Q σ' H) → wG X tg v σ H Q

structure Post where
  nx : DS → Prop
  rt : Dt → Prop
  bk : DS → Prop := fun _ => False
  ct : DS → Prop := fun _ => False
  ex : Value → Option Addr → Hp → Prop := fun _ _ _ => False
structure Cont (X : Cx) (W : XK) (Hf0 H0 : Hp) (D : Ends) (P : Post) : Prop where
  nx : ∀ δ' σ' Hf' H', P.nx δ' → SR X.K Hf0 H0 Hf' H' σ' δ' → D.nx σ' H'
  rt : ∀ d v Hf' H', P.rt d → Gr Hf0 H0 Hf' H' → Rp X.K Hf' v d → D.rt v H'
  bk : ∀ δ' σ' Hf' H', P.bk δ' → SR X.K Hf0 H0 Hf' H' σ' δ' → D.bk σ' H'
  ct : ∀ δ' σ' Hf' H', P.ct δ' → SR X.K Hf0 H0 Hf' H' σ' δ' → D.ct σ' H'
  ex : ∀ c d Hf' H', P.ex c d H' → Gr Hf0 H0 Hf' H' → W c d H'
def SS (X : Cx) (W : XK) (δ : DS) (ss : List Stmt) (P : Post) : Prop := ∀ (Hf0 H0 Hf H : Hp) (σ : L2.St) (D : Ends), SR X.K Hf0 H0 Hf H σ δ → Cont X W Hf0 H0 D P → wSs X ss D σ H
def S1 (X : Cx) (W : XK) (δ : DS) (st : Stmt) (P : Post) : Prop := ∀ (Hf0 H0 Hf H : Hp) (σ : L2.St) (D : Ends), SR X.K Hf0 H0 Hf H σ δ → Cont X W Hf0 H0 D P → wS X st D σ H

section
variable {X : Cx} {δ δ' : DS} {e a b : Expr} {es : List Expr} {d d1 d2 d3 : Dt} {ds xs ys : List Dt} {p q : Prop} {pos pos' : Pos}

/-! ### expressions -/
theorem EO.ee (h : EO X δ e ds) : EE X δ e (.lst ds) := fun Hf0 H0 Hf H σ Q r k => h _ _ _ _ _ _ r fun p xs Hf' H' g n nf hp rx =>
  have sm : Sm Hf' (upd Hf' p (.lst xs)) := Sm.new nf
  k (.ref p) (upd Hf' p (.lst xs)) H' ⟨g.f.trans sm, g.h, fun b u z => by
      by_cases hb : b = p
      · subst hb; rw [upd_same] at z; cases z; exact hp
      · rw [upd_ne hb] at z; exact g.s b u z,
    fun q u z m => by
      by_cases hq : q = p
      · subst hq; rw [n] at z; cases z
      · rw [upd_ne hq]; exact g.o q u z m⟩ (.lst upd_same (rx.mono sm))
theorem EE.weak (h : EE X δ e d) (hl : δ'.length = δ.length) (w : ∀ (i : Nat) s, δ[i]? = some (some s) → δ'[i]? = some (some s)) : EE X δ' e d := fun Hf0 H0 Hf H σ Q r k => h _ _ _ _ _ _ (r.weak hl.symm w) k
theorem ee_name {i : Nat} {x : Str} (hN : X.N[i]? = some x) (hv : Vis X.env.scope x) (hd : δ[i]? = some (some (.val d))) (h1 : (x == ("__debug__" : Str)) = false := by decide) (h2 : (x == ("__classdict__" : Str)) = false := by decide) : EE X δ (.Name x pos) d := fun Hf0 H0 Hf H σ Q r k => by
  obtain ⟨v, ev, h⟩ := r.val i d hd
  exact goE (pe_var hN hv h1 h2) ⟨v, ev, k v Hf H (Gr.refl r.g.s) h⟩
theorem ee_int {i : Int} {j} : EE X δ (.Constant (.int i) j pos) (.int i) := fun Hf0 H0 Hf H σ Q r k => goE pe_int (k _ Hf H (Gr.refl r.g.s) (.int i))
theorem ee_bl {i : Bool} {j} : EE X δ (.Constant (.bool i) j pos) (.bl i) := fun Hf0 H0 Hf H σ Q r k => goE pe_bl (k _ Hf H (Gr.refl r.g.s) (.bl i))
theorem ee_non {j} : EE X δ (.Constant .none j pos) .non := fun Hf0 H0 Hf H σ Q r k => goE pe_non (k _ Hf H (Gr.refl r.g.s) .non)
theorem ee_str {i : Str} {j} : EE X δ (.Constant (.str i) j pos) (.str i) := fun Hf0 H0 Hf H σ Q r k => goE pe_str (k _ Hf H (Gr.refl r.g.s) (.str i))
/-- a module's constant -/
theorem ee_gint {x : Str} {i : Int} {t : Tok} (hg : Gl X x) (hm : X.mg x = some (.int i t)) (hd : (x == ("__debug__" : Str)) = false := by decide) : EE X δ (.Name x pos) (.int i) := fun Hf0 H0 Hf H σ Q r k =>
  goE (pe_glob (v := .int i) hg hm ⟨t, rfl⟩ hd) (k _ Hf H (Gr.refl r.g.s) (.int i))
theorem ee_gstr {x i : Str} {t : Tok} (hg : Gl X x) (hm : X.mg x = some (.str i t)) (hd : (x == ("__debug__" : Str)) = false := by decide) : EE X δ (.Name x pos) (.str i) := fun Hf0 H0 Hf H σ Q r k =>
  goE (pe_glob (v := .str i) hg hm ⟨t, rfl⟩ hd) (k _ Hf H (Gr.refl r.g.s) (.str i))
/-- a class of the module, a def: as values -/
theorem ee_graw {x : Str} {c : Addr} (hg : Gl X x) (hm : X.mg x = some (.ref c)) (hd : (x == ("__debug__" : Str)) = false := by decide) : EE X δ (.Name x pos) (.raw c) := fun Hf0 H0 Hf H σ Q r k =>
  goE (pe_glob (v := .ref c) hg hm rfl hd) (k _ Hf H (Gr.refl r.g.s) (.raw c))
theorem ee_ty {x : Str} {n : String} (hg : Gl X x) (hm : X.mg x = none) (hv : bootBuiltins x = some (.type n)) (hn : x ≠ "__name__" := by decide) (hd : (x == ("__debug__" : Str)) = false := by decide) : EE X δ (.Name x pos) (.ty n) := fun Hf0 H0 Hf H σ Q r k =>
  goE (pe_bltn (v := .ty n) hg hm hv rfl hn hd) (k _ Hf H (Gr.refl r.g.s) (.ty n))

/-- a two-place operation on data -/
def OD (X : Cx) (op : Operator) (a b d : Dt) : Prop := ∃ r : R2, OpR X (binaryOp op) r ∧ ∀ Hf H x y (Q : VK), Sm Hf H → Rp X.K Hf x a → Rp X.K Hf y b →
  (∀ z Hf' H', Gr Hf H Hf' H' → Rp X.K Hf' z d → Q z H') → r x y H Q
def OO (X : Cx) (op : Operator) (a b : Dt) (ds : List Dt) : Prop := ∃ r : R2, OpR X (binaryOp op) r ∧ ∀ Hf H x y (Q : VK), Sm Hf H → Rp X.K Hf x a → Rp X.K Hf y b →
  (∀ p xs Hf' H', Gr Hf H Hf' H' → H p = none → Hf' p = none → H' p = some (.lst xs) → Rps X.K Hf' xs ds → Q (.ref p) H') → r x y H Q
theorem ee_bin {op : Operator} (ha : EE X δ a d1) (hb : EE X δ b d2) (ho : OD X op d1 d2 d) : EE X δ (.BinOp a op b pos) d := fun Hf0 H0 Hf H σ Q r k => by
  obtain ⟨rr, hr, q⟩ := ho
  exact goE (pe_op hr pe_w pe_w) (ha _ _ _ _ _ _ r fun x Hf1 H1 g1 rx => hb _ _ _ _ _ _ (r.grow g1) fun y Hf2 H2 g2 ry => q Hf2 H2 x y Q g2.s (rx.mono g2.f) ry fun z Hf3 H3 g3 rz => k z Hf3 H3 ((g1.trans g2).trans g3) rz)
theorem eo_bin {op : Operator} (ha : EE X δ a d1) (hb : EE X δ b d2) (ho : OO X op d1 d2 ds) : EO X δ (.BinOp a op b pos) ds := fun Hf0 H0 Hf H σ Q r k => by
  obtain ⟨rr, hr, q⟩ := ho
  exact goE (pe_op hr pe_w pe_w) (ha _ _ _ _ _ _ r fun x Hf1 H1 g1 rx => hb _ _ _ _ _ _ (r.grow g1) fun y Hf2 H2 g2 ry => q Hf2 H2 x y Q g2.s (rx.mono g2.f) ry fun p xs Hf3 H3 g3 n nf hp rz =>
    k p xs Hf3 H3 ((g1.trans g2).trans g3) (g1.h.free (g2.h.free n)) nf hp rz)
theorem od_int {op : Operator} {C : Int → Int → Prop} {f : Int → Int → Int} {i j : Int} (ho : OpR X (binaryOp op) (rI C fun i j => .int (f i j))) (hc : C i j) : OD X op (.int i) (.int j) (.int (f i j)) :=
  ⟨_, ho, fun Hf H x y Q s rx ry k => by cases rx; cases ry; exact ⟨i, j, rfl, rfl, hc, k _ Hf H (Gr.refl s) (.int _)⟩⟩
theorem od_int0 {op : Operator} {f : Int → Int → Int} {i j : Int} (ho : OpR X (binaryOp op) (rI0 fun i j => .int (f i j))) : OD X op (.int i) (.int j) (.int (f i j)) :=
  ⟨_, ho, fun Hf H x y Q s rx ry k => by cases rx; cases ry; exact ⟨i, j, rfl, rfl, k _ Hf H (Gr.refl s) (.int _)⟩⟩
theorem od_add {i j : Int} : OD X .Add (.int i) (.int j) (.int (i + j)) := od_int0 op_add
theorem od_sub {i j : Int} : OD X .Sub (.int i) (.int j) (.int (i - j)) := od_int0 op_sub
theorem od_mul {i j : Int} (h : CMulX i j) : OD X .Mult (.int i) (.int j) (.int (i * j)) := od_int op_mulX h
theorem od_mod {i j : Int} (h : 0 < j) : OD X .Mod (.int i) (.int j) (.int (i % j)) := od_int (C := fun _ j => 0 < j) op_mod h
/-- a divisor of fewer than 9000 binary digits -/
def CDivF (_ j : Int) : Prop := j ≠ 0 ∧ j.natAbs < 2 ^ 9000
theorem op_fdivF : OpR X (binaryOp .FloorDiv) (rI CDivF fun i j => .int (i.fdiv j)) := opI fun i j _ _ _ _ _ hc q =>
  PyProof.Rows.floordiv_int hc.1 q (.inl (PyProof.noPylong_of_log2 (PySem.Flt.log2_lt_of (by decide) hc.2)))
theorem od_fdiv {i j : Int} (h : j ≠ 0) (hb : j.natAbs < 2 ^ 9000) : OD X .FloorDiv (.int i) (.int j) (.int (i.fdiv j)) := od_int op_fdivF ⟨h, hb⟩
theorem op_fdivP : OpR X (binaryOp .FloorDiv) (rI (fun i j => 0 < j ∧ j.natAbs < 2 ^ 9000) fun i j => .int (i / j)) := opI fun i j _ _ _ _ _ hc q =>
  PyProof.Rows.floordiv_int (by have := hc.1; omega) (by rw [Int.fdiv_eq_ediv_of_nonneg i (Int.le_of_lt hc.1)]; exact q) (.inl (PyProof.noPylong_of_log2 (PySem.Flt.log2_lt_of (by decide) hc.2)))
theorem od_div {i j : Int} (h : 0 < j) (hb : j.natAbs < 2 ^ 9000) : OD X .FloorDiv (.int i) (.int j) (.int (i / j)) := od_int (C := fun i j => 0 < j ∧ j.natAbs < 2 ^ 9000) op_fdivP ⟨h, hb⟩
theorem od_shl {i j : Int} (h : CShl i j) : OD X .LShift (.int i) (.int j) (.int (i * 2 ^ j.toNat)) := od_int op_shlW h
theorem od_shr {i j : Int} (h : 0 ≤ j) : OD X .RShift (.int i) (.int j) (.int (i / 2 ^ j.toNat)) := od_int (C := fun _ j => 0 ≤ j) op_shr h
theorem od_and {i j : Int} : OD X .BitAnd (.int i) (.int j) (.int (Builtin.bitAnd i j)) := od_int0 op_and
theorem od_pow {i j : Int} (h : CPow i j) : OD X .Pow (.int i) (.int j) (.int (i ^ j.toNat)) := od_int op_pow h
theorem oo_cat (hz : xs.length + ys.length ≤ 1000000) : OO X .Add (.lst xs) (.lst ys) (xs ++ ys) :=
  ⟨_, op_cat, fun Hf H x y Q s rx ry k => by
    cases rx with
    | @lst a us _ ha hu => cases ry with
      | @lst b ws _ hb hw =>
        refine ⟨a, b, us, ws, rfl, rfl, s _ _ ha, s _ _ hb, ?_, fun p np => k p _ Hf _ (Gr.newO s np) np (s.free np) upd_same (hu.append hw)⟩
        rw [hu.length, hw.length, sizeLine_eq]; omega⟩
theorem Rps.rep {K : PySem.W.Frag} {H : Hp} {vs : List V} {ds : List Dt} (h : Rps K H vs ds) : ∀ n : Nat, Rps K H (List.replicate n vs).flatten (List.replicate n ds).flatten
  | 0 => .nil
  | n + 1 => by rw [List.replicate_succ, List.replicate_succ, List.flatten_cons, List.flatten_cons]; exact h.append (Rps.rep h n)

/-! ### comparisons -/
def CD (X : Cx) (op : CmpOp) (a b : Dt) (p : Prop) : Prop := ∃ r : R2, OpR X (compareOp op) r ∧ ∀ Hf H x y (Q : VK), Sm Hf H → Rp X.K Hf x a → Rp X.K Hf y b →
  (∀ (c : Bool) Hf' H', Gr Hf H Hf' H' → (c = true ↔ p) → Q (.bl c) H') → r x y H Q
theorem ee_cmp {op : CmpOp} [Decidable p] (ha : EE X δ a d1) (hb : EE X δ b d2) (ho : CD X op d1 d2 p) (hm : behindInMarks op b = false := by exact nomark _) : EE X δ (.Compare a [op] [b] pos) (.bl (decide p)) := fun Hf0 H0 Hf H σ Q r k => by
  obtain ⟨rr, hr, q⟩ := ho
  exact goE (pe_cmpR hr pe_w pe_w hm) (ha _ _ _ _ _ _ r fun x Hf1 H1 g1 rx => hb _ _ _ _ _ _ (r.grow g1) fun y Hf2 H2 g2 ry => q Hf2 H2 x y Q g2.s (rx.mono g2.f) ry fun c Hf3 H3 g3 hc =>
    k (.bl c) Hf3 H3 ((g1.trans g2).trans g3) (by
      have : c = decide p := by
        by_cases hp : p
        · rw [decide_eq_true hp]; exact hc.mpr hp
        · rw [decide_eq_false hp]; cases c with
          | false => rfl
          | true => exact absurd (hc.mp rfl) hp
      rw [this]; exact .bl _))
theorem et_cmp {op : CmpOp} (ha : EE X δ a d1) (hb : EE X δ b d2) (ho : CD X op d1 d2 p) (hm : behindInMarks op b = false := by exact nomark _) : ET X δ (.Compare a [op] [b] pos) p := fun Hf0 H0 Hf H σ Q r k => by
  obtain ⟨rr, hr, q⟩ := ho
  exact goT (pt_cmpR hr pe_w pe_w hm) (ha _ _ _ _ _ _ r fun x Hf1 H1 g1 rx => hb _ _ _ _ _ _ (r.grow g1) fun y Hf2 H2 g2 ry => q Hf2 H2 x y _ g2.s (rx.mono g2.f) ry fun c Hf3 H3 g3 hc =>
    ⟨c, rfl, k c Hf3 H3 ((g1.trans g2).trans g3) hc⟩)
theorem cd_int {op : CmpOp} {f : Int → Int → Prop} [∀ i j, Decidable (f i j)] {i j : Int} (ho : OpR X (compareOp op) (rI0 fun i j => .bl (decide (f i j)))) : CD X op (.int i) (.int j) (f i j) :=
  ⟨_, ho, fun Hf H x y Q s rx ry k => by cases rx; cases ry; exact ⟨i, j, rfl, rfl, k _ Hf H (Gr.refl s) (by exact decide_eq_true_iff)⟩⟩
theorem cd_lt {i j : Int} : CD X .Lt (.int i) (.int j) (i < j) := cd_int (f := fun i j => i < j) op_lt
theorem cd_le {i j : Int} : CD X .LtE (.int i) (.int j) (i ≤ j) := cd_int (f := fun i j => i ≤ j) op_le
theorem cd_gt {i j : Int} : CD X .Gt (.int i) (.int j) (j < i) := cd_int (f := fun i j => j < i) op_gt
theorem cd_ge {i j : Int} : CD X .GtE (.int i) (.int j) (j ≤ i) := cd_int (f := fun i j => j ≤ i) op_ge
theorem cd_eqI {i j : Int} : CD X .Eq (.int i) (.int j) (i = j) :=
  ⟨_, op_eq, fun Hf H x y Q s rx ry k => by
    cases rx; cases ry
    exact ⟨rfl, k _ Hf H (Gr.refl s) (by rw [decide_eq_true_iff]; exact ⟨fun h => V.int.inj h, fun h => by rw [h]⟩)⟩⟩
theorem cd_neI {i j : Int} : CD X .NotEq (.int i) (.int j) (i ≠ j) :=
  ⟨_, op_ne, fun Hf H x y Q s rx ry k => by
    cases rx; cases ry
    exact ⟨rfl, k _ Hf H (Gr.refl s) (by rw [Bool.not_eq_true', decide_eq_false_iff_not]; exact ⟨fun h z => h (by rw [z]), fun h z => h (V.int.inj z)⟩)⟩⟩
theorem cd_eqB {i j : Bool} : CD X .Eq (.bl i) (.bl j) (i = j) :=
  ⟨_, op_eq, fun Hf H x y Q s rx ry k => by
    cases rx; cases ry
    exact ⟨rfl, k _ Hf H (Gr.refl s) (by rw [decide_eq_true_iff]; exact ⟨fun h => V.bl.inj h, fun h => by rw [h]⟩)⟩⟩
theorem cd_neB {i j : Bool} : CD X .NotEq (.bl i) (.bl j) (i ≠ j) :=
  ⟨_, op_ne, fun Hf H x y Q s rx ry k => by
    cases rx; cases ry
    exact ⟨rfl, k _ Hf H (Gr.refl s) (by rw [Bool.not_eq_true', decide_eq_false_iff_not]; exact ⟨fun h z => h (by rw [z]), fun h z => h (V.bl.inj z)⟩)⟩⟩
theorem cd_eqS {i j : Str} : CD X .Eq (.str i) (.str j) (i = j) :=
  ⟨_, op_eq, fun Hf H x y Q s rx ry k => by
    cases rx; cases ry
    exact ⟨rfl, k _ Hf H (Gr.refl s) (by rw [decide_eq_true_iff]; exact ⟨fun h => V.str.inj h, fun h => by rw [h]⟩)⟩⟩
theorem cd_neS {i j : Str} : CD X .NotEq (.str i) (.str j) (i ≠ j) :=
  ⟨_, op_ne, fun Hf H x y Q s rx ry k => by
    cases rx; cases ry
    exact ⟨rfl, k _ Hf H (Gr.refl s) (by rw [Bool.not_eq_true', decide_eq_false_iff_not]; exact ⟨fun h z => h (by rw [z]), fun h z => h (V.str.inj z)⟩)⟩⟩
theorem cd_isB {i j : Bool} : CD X .Is (.bl i) (.bl j) (i = j) :=
  ⟨_, op_is_bl, fun Hf H x y Q s rx ry k => by cases rx; cases ry; exact ⟨i, j, rfl, rfl, k _ Hf H (Gr.refl s) (by exact decide_eq_true_iff)⟩⟩
theorem cd_isnotB {i j : Bool} : CD X .IsNot (.bl i) (.bl j) (i ≠ j) :=
  ⟨_, op_isnot_bl, fun Hf H x y Q s rx ry k => by cases rx; cases ry; exact ⟨i, j, rfl, rfl, k _ Hf H (Gr.refl s) (by rw [Bool.not_eq_true', decide_eq_false_iff_not])⟩⟩
def isNonD : Dt → Prop
  | .non => True
  | _ => False
theorem isNon_iff {K : PySem.W.Frag} {H : Hp} {v : V} {c : Dt} (r : Rp K H v c) : v = .non ↔ isNonD c := by
  cases r <;> simp [isNonD]
theorem cd_isN {c : Dt} : CD X .Is c .non (isNonD c) :=
  ⟨_, op_isN, fun Hf H x y Q s rx ry k => by
    cases ry
    exact ⟨rfl, k _ Hf H (Gr.refl s) (by rw [decide_eq_true_iff]; exact isNon_iff rx)⟩⟩
/-! == at any depth: as the library's data -/
mutual
def py : Dt → PyData
  | .non => .none
  | .bl b => .bool b
  | .int i => .int i
  | .str x => .str x
  | .lst xs => .list (pys xs)
  | .tup xs => .tuple (pys xs)
  | .scr ns => .list (ns.map PyData.int)
  | .obj _ _ => .none
  | .raw _ => .none
  | .ty _ => .none
def pys : List Dt → List PyData
  | [] => []
  | d :: ds => py d :: pys ds
end
mutual
def plainD : Dt → Bool
  | .non => true
  | .bl _ => true
  | .int _ => true
  | .str _ => true
  | .lst xs => plainDs xs
  | .tup xs => plainDs xs
  | .scr _ => true
  | _ => false
def plainDs : List Dt → Bool
  | [] => true
  | d :: ds => plainD d && plainDs ds
end
theorem dp_ints {K : PySem.W.Frag} {H : Hp} : ∀ ns : List Int, DpAll K H (ns.map V.int) (ns.map PyData.int)
  | [] => .nil
  | n :: ns => .cons (.int n) (dp_ints ns)
mutual
theorem Rp.dp {K : PySem.W.Frag} {H : Hp} : ∀ {v : V} {d : Dt}, Rp K H v d → plainD d = true → Dp K H v (py d)
  | _, _, .non, _ => .non
  | _, _, .bl b, _ => .bl b
  | _, _, .int i, _ => .int i
  | _, _, .str x, _ => .str x
  | _, _, .lst h r, e => .lst (SqL.of h) (Rps.dp r (by unfold plainD at e; exact e))
  | _, _, .tup h r, e => .tup h (Rps.dp r (by unfold plainD at e; exact e))
  | _, _, .scr h, _ => .lst h (dp_ints _)
  | _, _, .obj _, e => by simp [plainD] at e
  | _, _, .raw _, e => by simp [plainD] at e
  | _, _, .ty _, e => by simp [plainD] at e
theorem Rps.dp {K : PySem.W.Frag} {H : Hp} : ∀ {vs : List V} {ds : List Dt}, Rps K H vs ds → plainDs ds = true → DpAll K H vs (pys ds)
  | _, _, .nil, _ => .nil
  | _, _, .cons a b, e => by
    unfold plainDs at e
    rw [Bool.and_eq_true] at e
    exact .cons (Rp.dp a e.1) (Rps.dp b e.2)
end
theorem Dp.mono' {K : PySem.W.Frag} {H : Hp} {v : V} {c : Dt} (r : Rp K H v c) (h : plainD c = true) : Dp K H v (py c) := r.dp h
theorem cd_eqD (hu : X.A.units + 64 < cLine) (h1 : plainD d1 = true) (h2 : plainD d2 = true) (s1 : SeqAt.shaped (py d1) = true) (s2 : SeqAt.shaped (py d2) = true) : CD X .Eq d1 d2 (PyData.eqv (py d1) (py d2) = true) :=
  ⟨_, op_eqD hu, fun Hf H x y Q s rx ry k => ⟨py d1, py d2, (rx.mono s).dp h1, (ry.mono s).dp h2, s1, s2, k _ Hf H (Gr.refl s) Iff.rfl⟩⟩
theorem cd_neD (hu : X.A.units + 64 < cLine) (h1 : plainD d1 = true) (h2 : plainD d2 = true) (s1 : SeqAt.shaped (py d1) = true) (s2 : SeqAt.shaped (py d2) = true) : CD X .NotEq d1 d2 (PyData.eqv (py d1) (py d2) = false) :=
  ⟨_, op_neD hu, fun Hf H x y Q s rx ry k => ⟨py d1, py d2, (rx.mono s).dp h1, (ry.mono s).dp h2, s1, s2, k _ Hf H (Gr.refl s) (by rw [Bool.not_eq_true'])⟩⟩

/-! ### tests -/
theorem et_val {c : Bool} (h : EE X δ e (.bl c)) (he : ∀ whole, isTrue e X.env whole = (do let v ← whole; standAt e.pos; holding [v] (truthy v)) := by intro _; rfl) : ET X δ e (c = true) := fun Hf0 H0 Hf H σ Q r k =>
  goT (pt_val pe_w he) (h _ _ _ _ _ _ r fun v Hf1 H1 g1 rv => by cases rv; exact ⟨c, rfl, k c Hf1 H1 g1 Iff.rfl⟩)
theorem et_iff (h : ET X δ e p) (i : p ↔ q) : ET X δ e q := fun Hf0 H0 Hf H σ Q r k => h _ _ _ _ _ _ r fun b Hf' H' g hb => k b Hf' H' g (hb.trans i)
theorem et_not (h : ET X δ e p) : ET X δ (.UnaryOp .Not e pos) (¬ p) := fun Hf0 H0 Hf H σ Q r k =>
  goT (pt_not pt_w) (h _ _ _ _ _ _ r fun b Hf1 H1 g1 hb => k (!b) Hf1 H1 g1 (by rw [Bool.not_eq_true']; cases b with
    | false => exact ⟨fun _ z => Bool.false_ne_true (hb.mpr z), fun _ => rfl⟩
    | true => exact ⟨fun z => Bool.noConfusion z, fun z => absurd (hb.mp rfl) z⟩))
theorem ew_and1 (h : ET X δ a p) : EW X δ (.BoolOp .And [a] pos) p := fun Hf0 H0 Hf H σ Q r k => goW (pw_and1 pt_w) (h _ _ _ _ _ _ r k)
theorem ew_or1 (h : ET X δ a p) : EW X δ (.BoolOp .Or [a] pos) p := fun Hf0 H0 Hf H σ Q r k => goW (pw_or1 pt_w) (h _ _ _ _ _ _ r k)
theorem ew_and {rest : List Expr} (ha : ET X δ a p) (hb : p → EW X δ (.BoolOp .And (b :: rest) pos) q) : EW X δ (.BoolOp .And (a :: b :: rest) pos) (p ∧ q) := fun Hf0 H0 Hf H σ Q r k =>
  goW (pw_and pt_w pw_w) (ha _ _ _ _ _ _ r fun c Hf1 H1 g1 hc => by
    cases c with
    | true =>
      show wW X _ σ H1 Q
      exact hb (hc.mp rfl) _ _ _ _ _ _ (r.grow g1) fun c' Hf2 H2 g2 hc' => k c' Hf2 H2 (g1.trans g2) ⟨fun z => ⟨hc.mp rfl, hc'.mp z⟩, fun z => hc'.mpr z.2⟩
    | false =>
      show Q false H1
      exact k false Hf1 H1 g1 ⟨fun z => Bool.noConfusion z, fun z => hc.mpr z.1⟩)
theorem ew_or {rest : List Expr} (ha : ET X δ a p) (hb : ¬ p → EW X δ (.BoolOp .Or (b :: rest) pos) q) : EW X δ (.BoolOp .Or (a :: b :: rest) pos) (p ∨ q) := fun Hf0 H0 Hf H σ Q r k =>
  goW (pw_or pt_w pw_w) (ha _ _ _ _ _ _ r fun c Hf1 H1 g1 hc => by
    cases c with
    | true =>
      show Q true H1
      exact k true Hf1 H1 g1 ⟨fun _ => .inl (hc.mp rfl), fun _ => rfl⟩
    | false =>
      have np : ¬ p := fun z => Bool.false_ne_true (hc.mpr z)
      show wW X _ σ H1 Q
      exact hb np _ _ _ _ _ _ (r.grow g1) fun c' Hf2 H2 g2 hc' => k c' Hf2 H2 (g1.trans g2) ⟨fun z => .inr (hc'.mp z), fun z => hc'.mpr (z.resolve_left np)⟩)
theorem et_w (h : EW X δ e p) : ET X δ e p := fun Hf0 H0 Hf H σ Q r k => goT pw_w.pt (h _ _ _ _ _ _ r k)
theorem et_truthI {i : Int} (h : EE X δ e (.int i)) (he : ∀ whole, isTrue e X.env whole = (do let v ← whole; standAt e.pos; holding [v] (truthy v)) := by intro _; rfl) : ET X δ e (i ≠ 0) := fun Hf0 H0 Hf H σ Q r k =>
  goT (pt_truth pe_w he) (h _ _ _ _ _ _ r fun v Hf1 H1 g1 rv => by
    cases rv
    exact ⟨i != 0, rfl, k _ Hf1 H1 g1 (by simp)⟩)
/-- .. as values: all truths -/
theorem ee_and1 {op} (h : EE X δ a d) : EE X δ (.BoolOp op [a] pos) d := fun Hf0 H0 Hf H σ Q r k => goE (pe_one pe_w) (h _ _ _ _ _ _ r k)
theorem ee_and {c c' : Bool} {rest : List Expr} (ha : EE X δ a (.bl c)) (hb : c = true → EE X δ (.BoolOp .And (b :: rest) pos) (.bl c')) : EE X δ (.BoolOp .And (a :: b :: rest) pos) (.bl (c && c')) := fun Hf0 H0 Hf H σ Q r k =>
  goE (pe_and pe_w pe_w) (ha _ _ _ _ _ _ r fun v Hf1 H1 g1 rv => by
    cases rv
    refine ⟨c, rfl, ?_⟩
    cases c with
    | true => exact hb rfl _ _ _ _ _ _ (r.grow g1) fun v Hf2 H2 g2 rv => k v Hf2 H2 (g1.trans g2) rv
    | false => exact k _ Hf1 H1 g1 (.bl _))
theorem ee_or {c c' : Bool} {rest : List Expr} (ha : EE X δ a (.bl c)) (hb : c = false → EE X δ (.BoolOp .Or (b :: rest) pos) (.bl c')) : EE X δ (.BoolOp .Or (a :: b :: rest) pos) (.bl (c || c')) := fun Hf0 H0 Hf H σ Q r k =>
  goE (pe_or pe_w pe_w) (ha _ _ _ _ _ _ r fun v Hf1 H1 g1 rv => by
    cases rv
    refine ⟨c, rfl, ?_⟩
    cases c with
    | false => exact hb rfl _ _ _ _ _ _ (r.grow g1) fun v Hf2 H2 g2 rv => k v Hf2 H2 (g1.trans g2) rv
    | true => exact k _ Hf1 H1 g1 (.bl _))
theorem ee_notV {c : Bool} (ha : EE X δ a (.bl c)) : EE X δ (.UnaryOp .Not a pos) (.bl (!c)) := fun Hf0 H0 Hf H σ Q r k =>
  goE (pe_not pe_w) (ha _ _ _ _ _ _ r fun v Hf1 H1 g1 rv => by cases rv; exact ⟨c, rfl, k _ Hf1 H1 g1 (.bl _)⟩)
theorem ee_neg {i : Int} (ha : EE X δ a (.int i)) : EE X δ (.UnaryOp .USub a pos) (.int (-i)) := fun Hf0 H0 Hf H σ Q r k =>
  goE (pe_un un_neg pe_w) (ha _ _ _ _ _ _ r fun v Hf1 H1 g1 rv => by cases rv; exact ⟨i, rfl, k _ Hf1 H1 g1 (.int _)⟩)
theorem ee_ifexp [Decidable p] {c : Expr} (hc : ET X δ c p) (ha : p → EE X δ a d1) (hb : ¬ p → EE X δ b d2) : EE X δ (.IfExp c a b pos) (if p then d1 else d2) := fun Hf0 H0 Hf H σ Q r k =>
  goE (pe_ifExp pt_w pe_w pe_w) (hc _ _ _ _ _ _ r fun t Hf1 H1 g1 ht => by
    cases t with
    | true =>
      have hp := ht.mp rfl
      show wE X a σ H1 Q
      exact ha hp _ _ _ _ _ _ (r.grow g1) fun v Hf2 H2 g2 rv => k v Hf2 H2 (g1.trans g2) (by rw [if_pos hp]; exact rv)
    | false =>
      have hp : ¬ p := fun z => Bool.false_ne_true (ht.mpr z)
      show wE X b σ H1 Q
      exact hb hp _ _ _ _ _ _ (r.grow g1) fun v Hf2 H2 g2 rv => k v Hf2 H2 (g1.trans g2) (by rw [if_neg hp]; exact rv))
theorem ee_is (h : EE X δ e d1) (q : d1 = d2) : EE X δ e d2 := q ▸ h

/-! ### argument lists, displays -/
theorem ea_nil : EA X δ [] [] := fun Hf0 H0 Hf H σ Q r k => goA pa_nil (k [] Hf H (Gr.refl r.g.s) .nil)
theorem ea_cons (ha : EE X δ a d) (hb : EA X δ es ds) (hs : starEach (a :: es) X.env = (false, eval a X.env) :: starEach es X.env := by rfl) : EA X δ (a :: es) (d :: ds) := fun Hf0 H0 Hf H σ Q r k =>
  goA (pa_cons pe_w pa_w hs) (ha _ _ _ _ _ _ r fun x Hf1 H1 g1 rx => hb _ _ _ _ _ _ (r.grow g1) fun vs Hf2 H2 g2 rv => k _ Hf2 H2 (g1.trans g2) (.cons (rx.mono g2.f) rv))
theorem ee_tup {k0} (h : EA X δ es ds) (hz : ds.length ≤ 1000000 := by exact Nat.le_of_ble_eq_true rfl) : EE X δ (.Tuple es k0 pos) (.tup ds) := fun Hf0 H0 Hf H σ Q r k =>
  goE (pe_tup pa_w) (h _ _ _ _ _ _ r fun vs Hf1 H1 g1 rv => ⟨by rw [rv.length, sizeLine_eq]; omega, fun p np => k _ _ _ (g1.trans (Gr.new g1.s np)) (.tup (SqT.of upd_same) (rv.mono (Sm.new (g1.s.free np))))⟩)
theorem eo_lst (h : EA X δ es ds) (hz : ds.length ≤ 1000000 := by exact Nat.le_of_ble_eq_true rfl) : EO X δ (.List es pos) ds := fun Hf0 H0 Hf H σ Q r k =>
  goE (pe_lst pa_w) (h _ _ _ _ _ _ r fun vs Hf1 H1 g1 rv => ⟨by rw [rv.length, sizeLine_eq]; omega, fun p np => k p vs Hf1 _ (g1.trans (Gr.newO g1.s np)) (g1.h.free np) (g1.s.free np) upd_same rv⟩)
theorem eo_rep {n : Int} (h : EO X δ a xs) (hb : EE X δ b (.int n)) (h0 : -(2 ^ 63) ≤ n) (h1 : n < 2 ^ 63) (hz : xs.length * n.toNat ≤ 1000000) : EO X δ (.BinOp a .Mult b pos) (List.replicate n.toNat xs).flatten := fun Hf0 H0 Hf H σ Q r k =>
  goE (pe_op op_rep pe_w pe_w) (h.ee _ _ _ _ _ _ r fun v Hf1 H1 g1 rv => hb _ _ _ _ _ _ (r.grow g1) fun y Hf2 H2 g2 ry => by
    cases ry
    cases rv with
    | @lst p us _ hp hu =>
      refine ⟨p, n, us, rfl, rfl, g2.s _ _ (g2.f _ _ hp), h0, h1, by rw [hu.length, sizeLine_eq]; omega, fun q nq => ?_⟩
      exact k q _ Hf2 _ ((g1.trans g2).trans (Gr.newO g2.s nq)) (g1.h.free (g2.h.free nq)) (g2.s.free nq) upd_same ((hu.mono g2.f).rep _))

/-! ### subscripts -/
def ID (X : Cx) (a b d : Dt) : Prop := ∃ r : R2, IxR X r ∧ ∀ Hf H x y (Q : VK), Sm Hf H → Rp X.K Hf x a → Rp X.K Hf y b → (∀ z Hf' H', Gr Hf H Hf' H' → Rp X.K Hf' z d → Q z H') → r x y H Q
theorem ee_ix (ha : EE X δ a d1) (hb : EE X δ b d2) (ho : ID X d1 d2 d) (hs : PlainIx b := by exact fun _ _ => rfl) : EE X δ (.Subscript a b pos) d := fun Hf0 H0 Hf H σ Q r k => by
  obtain ⟨rr, hr, q⟩ := ho
  exact goE (pe_ix hr pe_w pe_w hs) (ha _ _ _ _ _ _ r fun x Hf1 H1 g1 rx => hb _ _ _ _ _ _ (r.grow g1) fun y Hf2 H2 g2 ry => q Hf2 H2 x y Q g2.s (rx.mono g2.f) ry fun z Hf3 H3 g3 rz => k z Hf3 H3 ((g1.trans g2).trans g3) rz)
theorem Rps.atI {K : PySem.W.Frag} {H : Hp} {vs : List V} {i : Int} (h : Rps K H vs ds) (e : atI ds i = some d) : ∃ v, L2.atI vs i = some v ∧ Rp K H v d := by
  unfold L2.atI at e ⊢
  rw [h.length]
  cases q : ixN ds.length i with
  | none => rw [q] at e; cases e
  | some j => rw [q] at e; exact h.get e
theorem id_lst {i : Int} (e : atI xs i = some d) : ID X (.lst xs) (.int i) d := ⟨_, ix_list, fun Hf H x y Q s rx ry k => by
  cases ry
  cases rx with
  | @lst p us _ hp hu =>
    obtain ⟨v, h1, h2⟩ := hu.atI e
    exact ⟨p, us, i, v, rfl, rfl, SqL.of (s _ _ hp), h1, k v Hf H (Gr.refl s) h2⟩⟩
theorem id_tup {i : Int} (e : atI xs i = some d) : ID X (.tup xs) (.int i) d := ⟨_, ix_tup, fun Hf H x y Q s rx ry k => by
  cases ry
  cases rx with
  | @tup p us _ hp hu =>
    obtain ⟨v, h1, h2⟩ := hu.atI e
    exact ⟨p, us, i, v, rfl, rfl, s.sqT hp, h1, k v Hf H (Gr.refl s) h2⟩⟩
theorem id_scr {i : Int} {j : Int} {ns : List Int} (e : atI ns i = some j) : ID X (.scr ns) (.int i) (.int j) := ⟨_, ix_list, fun Hf H x y Q s rx ry k => by
  cases ry
  cases rx with
  | @scr p _ hp =>
    refine ⟨p, _, i, .int j, rfl, rfl, s.sqL hp, ?_, k _ Hf H (Gr.refl s) (.int j)⟩
    unfold L2.atI at e ⊢
    rw [List.length_map]
    cases q : ixN ns.length i with
    | none => rw [q] at e; cases e
    | some m =>
      rw [q] at e
      show (ns.map V.int)[m]? = some (.int j)
      rw [List.getElem?_map]
      have e' : ns[m]? = some j := e
      rw [e']; rfl⟩
theorem atN {α : Type} {l : List α} {j : Nat} {x : α} (h : l[j]? = some x) : atI l (j : Int) = some x := atI_nat h

/-! ### built-in functions -/
def BD (X : Cx) (f : Value) (ds : List Dt) (d : Dt) : Prop := ∃ r, CallR X f r ∧ ∀ Hf H vs (Q : VK), Sm Hf H → Rps X.K Hf vs ds → (∀ z Hf' H', Gr Hf H Hf' H' → Rp X.K Hf' z d → Q z H') → r vs H Q
def BO (X : Cx) (f : Value) (ds xs : List Dt) : Prop := ∃ r, CallR X f r ∧ ∀ Hf H vs (Q : VK), Sm Hf H → Rps X.K Hf vs ds → (∀ p us Hf' H', Gr Hf H Hf' H' → H p = none → Hf' p = none → H' p = some (.lst us) → Rps X.K Hf' us xs → Q (.ref p) H') → r vs H Q
theorem ee_blt {x : Str} {id : String} {pp : Pos} (ha : EA X δ (a :: es) ds) (hg : Gl X x) (hm : X.mg x = none) (hv : bootBuiltins x = some (.builtin id)) (hd : BD X (.builtin id) ds d) (hn : x ≠ "__name__" := by decide) (hdb : (x == ("__debug__" : Str)) = false := by decide)
    (he : starEach (a :: es) X.env = (false, eval a X.env) :: starEach es X.env := by rfl) (hpl : (backTo pos (starEach es X.env)).any (·.1) = false := by rfl) : EE X δ (.Call (.Name x pp) (a :: es) [] pos) d := fun Hf0 H0 Hf H σ Q r k => by
  obtain ⟨rr, hr, q⟩ := hd
  exact goE (pe_callB hr hg hm hv pa_w hn hdb he hpl) (ha _ _ _ _ _ _ r fun vs Hf1 H1 g1 rv => q Hf1 H1 vs Q g1.s rv fun z Hf2 H2 g2 rz => k z Hf2 H2 (g1.trans g2) rz)
theorem ee_bty {x : Str} {id : String} {pp : Pos} (ha : EA X δ (a :: es) ds) (hg : Gl X x) (hm : X.mg x = none) (hv : bootBuiltins x = some (.type id)) (hd : BD X (.type id) ds d) (hn : x ≠ "__name__" := by decide) (hdb : (x == ("__debug__" : Str)) = false := by decide)
    (he : starEach (a :: es) X.env = (false, eval a X.env) :: starEach es X.env := by rfl) (hpl : (backTo pos (starEach es X.env)).any (·.1) = false := by rfl) : EE X δ (.Call (.Name x pp) (a :: es) [] pos) d := fun Hf0 H0 Hf H σ Q r k => by
  obtain ⟨rr, hr, q⟩ := hd
  exact goE (pe_callTy hr hg hm hv pa_w hn hdb he hpl) (ha _ _ _ _ _ _ r fun vs Hf1 H1 g1 rv => q Hf1 H1 vs Q g1.s rv fun z Hf2 H2 g2 rz => k z Hf2 H2 (g1.trans g2) rz)
theorem eo_bty {x : Str} {id : String} {pp : Pos} (ha : EA X δ (a :: es) ds) (hg : Gl X x) (hm : X.mg x = none) (hv : bootBuiltins x = some (.type id)) (hd : BO X (.type id) ds xs) (hn : x ≠ "__name__" := by decide) (hdb : (x == ("__debug__" : Str)) = false := by decide)
    (he : starEach (a :: es) X.env = (false, eval a X.env) :: starEach es X.env := by rfl) (hpl : (backTo pos (starEach es X.env)).any (·.1) = false := by rfl) : EO X δ (.Call (.Name x pp) (a :: es) [] pos) xs := fun Hf0 H0 Hf H σ Q r k => by
  obtain ⟨rr, hr, q⟩ := hd
  exact goE (pe_callTy hr hg hm hv pa_w hn hdb he hpl) (ha _ _ _ _ _ _ r fun vs Hf1 H1 g1 rv => q Hf1 H1 vs Q g1.s rv fun p us Hf2 H2 g2 n nf hp rz => k p us Hf2 H2 (g1.trans g2) (g1.h.free n) nf hp rz)
theorem Rps.one {K : PySem.W.Frag} {H : Hp} {vs : List V} (h : Rps K H vs [d]) : ∃ v, vs = [v] ∧ Rp K H v d := by
  cases h with
  | cons a b => cases b; exact ⟨_, rfl, a⟩
theorem Rps.two {K : PySem.W.Frag} {H : Hp} {vs : List V} (h : Rps K H vs [d1, d2]) : ∃ v u, vs = [v, u] ∧ Rp K H v d1 ∧ Rp K H u d2 := by
  cases h with
  | cons a b => cases b with
    | cons c b => cases b; exact ⟨_, _, rfl, a, c⟩
theorem bd_abs {i : Int} : BD X (.builtin "abs") [.int i] (.int (i.natAbs : Int)) := ⟨_, call_abs, fun Hf H vs Q s rv k => by
  obtain ⟨v, rfl, r1⟩ := rv.one
  cases r1
  refine ⟨i, rfl, k _ Hf H (Gr.refl s) ?_⟩
  have : (if i < 0 then -i else i) = (i.natAbs : Int) := by split <;> omega
  rw [this]; exact .int _⟩
theorem bd_max {i j : Int} (hc : X.calm = true) : BD X (.builtin "max") [.int i, .int j] (.int (max i j)) := ⟨_, call_max2 hc, fun Hf H vs Q s rv k => by
  obtain ⟨v, u, rfl, r1, r2⟩ := rv.two
  cases r1; cases r2
  refine ⟨i, j, rfl, k _ Hf H (Gr.refl s) ?_⟩
  have : (if j > i then j else i) = max i j := by omega
  rw [this]; exact .int _⟩
theorem bd_min {i j : Int} (hc : X.calm = true) : BD X (.builtin "min") [.int i, .int j] (.int (min i j)) := ⟨_, call_min2 hc, fun Hf H vs Q s rv k => by
  obtain ⟨v, u, rfl, r1, r2⟩ := rv.two
  cases r1; cases r2
  refine ⟨i, j, rfl, k _ Hf H (Gr.refl s) ?_⟩
  have : (if j < i then j else i) = min i j := by omega
  rw [this]; exact .int _⟩
theorem bd_lenL : BD X (.builtin "len") [.lst xs] (.int (xs.length : Int)) := ⟨_, call_len_seq, fun Hf H vs Q s rv k => by
  obtain ⟨v, rfl, r1⟩ := rv.one
  cases r1 with
  | @lst p us _ hp hu => exact ⟨p, us, rfl, .inl (SqL.of (s _ _ hp)), by rw [hu.length]; exact k _ Hf H (Gr.refl s) (.int _)⟩⟩
theorem bd_lenT : BD X (.builtin "len") [.tup xs] (.int (xs.length : Int)) := ⟨_, call_len_seq, fun Hf H vs Q s rv k => by
  obtain ⟨v, rfl, r1⟩ := rv.one
  cases r1 with
  | @tup p us _ hp hu => exact ⟨p, us, rfl, .inr (s.sqT hp), by rw [hu.length]; exact k _ Hf H (Gr.refl s) (.int _)⟩⟩
theorem bd_lenS {ns : List Int} : BD X (.builtin "len") [.scr ns] (.int (ns.length : Int)) := ⟨_, call_len_seq, fun Hf H vs Q s rv k => by
  obtain ⟨v, rfl, r1⟩ := rv.one
  cases r1 with
  | @scr p _ hp => exact ⟨p, _, rfl, .inl (s.sqL hp), by rw [List.length_map]; exact k _ Hf H (Gr.refl s) (.int _)⟩⟩
theorem bd_intI {i : Int} : BD X (.type "int") [.int i] (.int i) := ⟨_, call_int1, fun Hf H vs Q s rv k => by
  obtain ⟨v, rfl, r1⟩ := rv.one
  cases r1
  exact .inl ⟨i, rfl, k _ Hf H (Gr.refl s) (.int _)⟩⟩
def b2i (b : Bool) : Int := if b then 1 else 0
theorem bd_intB {c : Bool} : BD X (.type "int") [.bl c] (.int (b2i c)) := ⟨_, call_int1, fun Hf H vs Q s rv k => by
  obtain ⟨v, rfl, r1⟩ := rv.one
  cases r1
  exact .inr ⟨c, rfl, k _ Hf H (Gr.refl s) (.int _)⟩⟩
theorem bd_sum {ns : List Int} (hc : X.calm = true) : BD X (.builtin "sum") [.lst (ns.map Dt.int)] (.int ns.sum) := ⟨_, cr_sum hc, fun Hf H vs Q s rv k => by
  obtain ⟨v, rfl, r1⟩ := rv.one
  cases r1 with
  | @lst p us _ hp hu =>
    have e := hu.ints
    subst e
    exact ⟨p, ns, rfl, SqL.of (s _ _ hp), k _ Hf H (Gr.refl s) (.int _)⟩⟩
theorem bd_all {bs : List Bool} (hc : X.calm = true) : BD X (.builtin "all") [.lst (bs.map Dt.bl)] (.bl (bs.all id)) := ⟨_, cr_all hc, fun Hf H vs Q s rv k => by
  obtain ⟨v, rfl, r1⟩ := rv.one
  cases r1 with
  | @lst p us _ hp hu =>
    have e := hu.bools
    subst e
    exact ⟨p, bs, rfl, SqL.of (s _ _ hp), k _ Hf H (Gr.refl s) (.bl _)⟩⟩
theorem bo_list : BO X (.type "list") [.lst xs] xs := ⟨_, call_list_of, fun Hf H vs Q s rv k => by
  obtain ⟨v, rfl, r1⟩ := rv.one
  cases r1 with
  | @lst p us _ hp hu => exact ⟨p, us, rfl, .inl (SqL.of (s _ _ hp)), fun l nl => k l us Hf _ (Gr.newO s nl) nl (s.free nl) upd_same hu⟩⟩
theorem bo_listT : BO X (.type "list") [.tup xs] xs := ⟨_, call_list_of, fun Hf H vs Q s rv k => by
  obtain ⟨v, rfl, r1⟩ := rv.one
  cases r1 with
  | @tup p us _ hp hu => exact ⟨p, us, rfl, .inr (s.sqT hp), fun l nl => k l us Hf _ (Gr.newO s nl) nl (s.free nl) upd_same hu⟩⟩
/-- isinstance -/
def tyD : Dt → String
  | .non => "NoneType"
  | .bl _ => "bool"
  | .int _ => "int"
  | .str _ => "str"
  | .lst _ => "list"
  | .tup _ => "tuple"
  | .scr _ => "list"
  | _ => ""
theorem tyx_of {K : PySem.W.Frag} {H : Hp} {v : V} {c : Dt} (h : Rp K H v c) (hp : plainD c = true) : TyX K H v (.type (tyD c)) := by
  cases h with
  | non => exact .base .non
  | bl b => exact .base (.bl b)
  | int i => exact .base (.int i)
  | str x => exact .base (.str x)
  | lst h _ => exact .base (.lst h)
  | tup h _ =>
    rcases h with (h | ⟨o, h⟩) | ⟨o, _, _, h, c, _⟩
    · exact .base (.tup h)
    · exact .fTuple h
    · exact .kTuple h c
  | scr h =>
    rcases h with (h | ⟨o, h⟩) | ⟨o, _, _, h, c, _⟩
    · exact .base (.lst h)
    · exact .base (.frz h)
    · exact .kList h c
  | obj _ => simp [plainD] at hp
  | raw _ => simp [plainD] at hp
  | ty _ => simp [plainD] at hp
theorem bd_isi {c : Dt} {n : String} {t : Bool} (hp : plainD c = true) (h : kitB (tyD c) n = some t) : BD X (.builtin "isinstance") [c, .ty n] (.bl t) := ⟨_, call_isi, fun Hf H vs Q s rv k => by
  obtain ⟨v, u, rfl, r1, r2⟩ := rv.two
  cases r2
  exact ⟨v, .ty n, .type (tyD c), .type n, t, rfl, .ty n, tyx_of (r1.mono s) hp, kit_ty h, k _ Hf H (Gr.refl s) (.bl t)⟩⟩
/-- x.bit_length() -/
theorem ee_bits {apos : Pos} {i : Int} (h : EE X δ e (.int i)) (hbase : attributeBase e "bit_length" X.env (eval e X.env) = eval e X.env := by rfl) (hline : (apos.endLine == pos.line) = true := by rfl) :
    EE X δ (.Call (.Attribute e "bit_length" apos) [] [] pos) (.int (Builtin.Int.intBits i : Nat)) := fun Hf0 H0 Hf H σ Q r k =>
  goE (pe_bits pe_w hbase hline) (h _ _ _ _ _ _ r fun v Hf1 H1 g1 rv => by cases rv; exact ⟨i, rfl, k _ Hf1 H1 g1 (.int _)⟩)

/-! ### slices of lists -/
def cutD (xs : List Dt) (lo hi : Option Int) : List Dt := (xs.drop (HT.sIx xs.length 0 lo)).take (HT.sIx xs.length xs.length hi - HT.sIx xs.length 0 lo)
def EPt (X : Cx) (δ : DS) (e : Option Expr) (o : Option Int) : Prop := match e, o with
  | none, none => True
  | some e, some i => EE X δ e (.int i)
  | _, _ => False
theorem eo_slice {lo hi : Option Expr} {l h : Option Int} {p2 : Pos} (ha : EE X δ a (.lst xs)) (hl : EPt X δ lo l) (hh : EPt X δ hi h) : EO X δ (.Subscript a (.Slice lo hi none p2) pos) (cutD xs l h) := fun Hf0 H0 Hf H σ Q r k => by
  have po : ∀ (e : Option Expr), ∃ t, PO X e t ∧ ∀ (o : Option Int), EPt X δ e o → ∀ Hf H, SR X.K Hf0 H0 Hf H σ δ → ∀ (Q : Option Int → Hp → Prop), (∀ Hf' H', Gr Hf H Hf' H' → Q o H') → t σ H Q := fun e => by
    cases e with
    | none => exact ⟨_, po_none, fun o ho Hf H r Q k => by
        cases o with
        | none => exact k Hf H (Gr.refl r.g.s)
        | some _ => exact ho.elim⟩
    | some e => exact ⟨_, po_some pe_w, fun o ho Hf H r Q k => by
        cases o with
        | none => exact ho.elim
        | some i => exact (show EE X δ e (.int i) from ho) _ _ _ _ _ _ r fun v Hf' H' g rv => by cases rv; exact ⟨i, rfl, k Hf' H' g⟩⟩
  obtain ⟨tl, pl, ql⟩ := po lo
  obtain ⟨th, ph, qh⟩ := po hi
  refine goE (pe_slice sl_list pe_w pl ph) (ha _ _ _ _ _ _ r fun v Hf1 H1 g1 rv => ql l hl Hf1 H1 (r.grow g1) _ fun Hf2 H2 g2 => qh h hh Hf2 H2 ((r.grow g1).grow g2) _ fun Hf3 H3 g3 => ?_)
  cases rv with
  | @lst p us _ hp hu =>
    refine ⟨p, us, rfl, SqL.of (g3.s _ _ (g3.f _ _ (g2.f _ _ hp))), fun q nq => k q _ Hf3 _ (((g1.trans g2).trans g3).trans (Gr.newO g3.s nq)) (g1.h.free (g2.h.free (g3.h.free nq))) (g3.s.free nq) upd_same ?_⟩
    have e := hu.length
    unfold cutV cutD
    rw [e]
    exact (((hu.mono g2.f).mono g3.f).drop _).take _
end
end Tl

/-! Statements, targets, loops, comprehensions, calls, a def. -/
namespace Tl
open PySem L2
section
variable {X : Cx} {W : XK} {δ δ' : DS} {e a b tg : Expr} {es : List Expr} {d d1 d2 d3 : Dt} {ds xs ys : List Dt} {p q : Prop} {pos pos' : Pos} {P : Post} {st : Stmt} {ss rest : List Stmt} {js : List Nat}

/-! ### targets -/
theorem wipe_set {σ : L2.St} {j : Nat} {x : Option V} : ∀ {vs : List Nat}, j ∈ vs → wipe (σ.set j x) vs = wipe σ vs
  | [], h => by cases h
  | v :: vs, h => by
    unfold wipe
    by_cases hj : j ∈ vs
    · rw [wipe_set hj]
    · have e : j = v := by
        rcases List.mem_cons.mp h with h | h
        · exact h
        · exact absurd h hj
      subst e
      have c : ∀ {vs : List Nat}, j ∉ vs → wipe (σ.set j x) vs = (wipe σ vs).set j x := fun {vs} => by
        induction vs with
        | nil => intro _; rfl
        | cons w r ih =>
          intro hn
          have hw : w ≠ j := fun z => hn (by rw [z]; exact List.mem_cons_self)
          unfold wipe
          rw [ih fun z => hn (List.mem_cons_of_mem _ z), List.set_comm _ _ hw]
      rw [c hj, List.set_set]
theorem gt_name {i : Nat} {x : Str} (hN : X.N.Nodup) (hi : X.N[i]? = some x) (hx : Loc X.env.scope x) (hf : X.fn x = true ∨ X.env.scope.names.lookup x = some .local := by first | exact .inl rfl | exact .inr rfl | assumption) : GT X δ (.Name x pos) d [i] (δ.set i (some (.val d))) := fun Hf0 H0 Hf H σ v Q r rv k =>
  goG (pg_name hN hi hx hf) (k _ (r.set rv i) fun vs h => wipe_set (h i (by simp)))
/-- several names -/
def GTs (X : Cx) (δ : DS) (tgs : List Expr) (ds : List Dt) (js : List Nat) (δ' : DS) : Prop := ∃ gs, PGs X tgs gs ∧ ∀ (Hf0 H0 Hf H : Hp) (σ : L2.St) (vs : List V) (Q : L2.St → Hp → Prop), SR X.K Hf0 H0 Hf H σ δ → Rps X.K Hf vs ds →
  (∀ σ', SR X.K Hf0 H0 Hf H σ' δ' → (∀ vs : List Nat, (∀ j ∈ js, j ∈ vs) → wipe σ' vs = wipe σ vs) → Q σ' H) → gs vs σ H Q
theorem gts_nil : GTs X δ [] [] [] δ := ⟨_, pgs_nil, fun Hf0 H0 Hf H σ vs Q r rv k => by cases rv; exact ⟨rfl, k σ r fun _ _ => rfl⟩⟩
theorem gts_cons {δ1 δ2 : DS} {j1 j2 : List Nat} (h1 : GT X δ a d j1 δ1) (h2 : GTs X δ1 es ds j2 δ2)
    (hs : (assignEach (a :: es) X.env).map (·.2) = assign a X.env :: (assignEach es X.env).map (·.2) := by rfl) : GTs X δ (a :: es) (d :: ds) (j1 ++ j2) δ2 := by
  obtain ⟨gs, hg, q⟩ := h2
  refine ⟨_, pgs_cons pg_w hg hs, fun Hf0 H0 Hf H σ vs Q r rv k => ?_⟩
  cases rv with
  | @cons v vr _ _ r1 r2 =>
    refine ⟨v, vr, rfl, h1 _ _ _ _ _ _ _ r r1 fun σ1 s1 w1 => q _ _ _ _ _ _ _ s1 r2 fun σ2 s2 w2 => k σ2 s2 fun vs h => ?_⟩
    rw [w2 vs fun j hj => h j (List.mem_append_right _ hj), w1 vs fun j hj => h j (List.mem_append_left _ hj)]
theorem gt_tup {k0} (hc : X.calm = true) (h : GTs X δ es ds js δ') (hn : (assignEach es X.env).length = ds.length := by rfl) (hst : (assignEach es X.env).findIdx? (·.1) = none := by rfl) : GT X δ (.Tuple es k0 pos) (.tup ds) js δ' := fun Hf0 H0 Hf H σ v Q r rv k => by
  obtain ⟨gs, hg, q⟩ := h
  refine goG (pg_tup hc hg hn hst) ?_
  cases rv with
  | @tup t us _ ht hu => exact ⟨t, us, rfl, r.g.s.sqT ht, by rw [hu.length], q _ _ _ _ _ _ _ r hu k⟩

/-! ### statements -/
theorem ss_nil (h : P.nx δ) : SS X W δ [] P := fun Hf0 H0 Hf H σ D r k => goSs pss_nil (k.nx _ _ _ _ h r)
theorem ss_cons (h : S1 X W δ st { P with nx := fun δ' => SS X W δ' rest P }) : SS X W δ (st :: rest) P := fun Hf0 H0 Hf H σ D r k =>
  goSs (pss_cons ps_w pss_w) (h _ _ _ _ _ { D with nx := wSs X rest D } r ⟨fun δ' σ' Hf' H' hs r' => hs _ _ _ _ _ _ r' k, k.rt, k.bk, k.ct, k.ex⟩)
theorem ss_one (h : S1 X W δ st P) : SS X W δ [st] P := ss_cons (fun Hf0 H0 Hf H σ D r k => h _ _ _ _ _ D r ⟨fun δ' σ' Hf' H' hp r' => k.nx _ _ _ _ (ss_nil hp) r', k.rt, k.bk, k.ct, k.ex⟩)
theorem SS.imp {P' : Post} (h : SS X W δ ss P) (h1 : ∀ δ, P.nx δ → P'.nx δ) (h2 : ∀ d, P.rt d → P'.rt d) (h3 : ∀ δ, P.bk δ → P'.bk δ) (h4 : ∀ δ, P.ct δ → P'.ct δ) (h5 : ∀ c d H, P.ex c d H → P'.ex c d H) : SS X W δ ss P' := fun Hf0 H0 Hf H σ D r k =>
  h _ _ _ _ _ D r ⟨fun _ _ _ _ z => k.nx _ _ _ _ (h1 _ z), fun _ _ _ _ z => k.rt _ _ _ _ (h2 _ z), fun _ _ _ _ z => k.bk _ _ _ _ (h3 _ z), fun _ _ _ _ z => k.ct _ _ _ _ (h4 _ z), fun _ _ _ _ z => k.ex _ _ _ _ (h5 _ _ _ z)⟩
/-- forgetting slots -/
theorem SS.weak (h : SS X W δ' ss P) (hl : δ'.length = δ.length) (w : ∀ (i : Nat) s, δ'[i]? = some (some s) → δ[i]? = some (some s)) : SS X W δ ss P := fun Hf0 H0 Hf H σ D r k => h _ _ _ _ _ D (r.weak hl w) k
/-- an owned list is frozen from here on -/
theorem ss_frz {i : Nat} (e : δ[i]? = some (some (.own ds))) (h : SS X W (δ.set i (some (.val (.lst ds)))) ss P) : SS X W δ ss P := fun Hf0 H0 Hf H σ D r k => by
  obtain ⟨Hf', g, sm, r'⟩ := r.frz e
  exact h _ _ _ _ _ D r' k
theorem s1_asg {i : Nat} {x : Str} (he : EE X δ e d) (k : P.nx (δ.set i (some (.val d)))) (hN : X.N.Nodup) (hi : X.N[i]? = some x) (hx : Loc X.env.scope x) (hs : swapsWith e (some (.Name x pos')) pos.line X.env = pure false := by rfl) (hf : X.fn x = true ∨ X.env.scope.names.lookup x = some .local := by first | exact .inl rfl | exact .inr rfl | assumption) :
    S1 X W δ (.Assign [.Name x pos'] e pos) P := fun Hf0 H0 Hf H σ D r c =>
  goS (ps_set hN hi hx pe_w hs hf) (he _ _ _ _ _ _ r fun v Hf1 H1 g1 rv => c.nx _ _ _ _ k ((r.grow g1).set rv i))
/-- .. a fresh list, owned -/
theorem s1_asgO {i : Nat} {x : Str} (he : EO X δ e ds) (k : P.nx (δ.set i (some (.own ds)))) (hN : X.N.Nodup) (hi : X.N[i]? = some x) (hx : Loc X.env.scope x) (hs : swapsWith e (some (.Name x pos')) pos.line X.env = pure false := by rfl) (hf : X.fn x = true ∨ X.env.scope.names.lookup x = some .local := by first | exact .inl rfl | exact .inr rfl | assumption) :
    S1 X W δ (.Assign [.Name x pos'] e pos) P := fun Hf0 H0 Hf H σ D r c =>
  goS (ps_set hN hi hx pe_w hs hf) (he _ _ _ _ _ _ r fun p us Hf1 H1 g1 n nf hp rv => c.nx _ _ _ _ k (r.setO g1 n nf hp rv i))
theorem s1_asgT (he : EE X δ e d) (hg : GT X δ tg d js δ') (k : P.nx δ') (hs : swapsWithSole [tg] e pos.line X.env = pure false := by rfl) (hw : swappedStores [tg] e X.env = pure none := by rfl)
    (h1 : (assignEach [tg] X.env).map (·.2) = [assign tg X.env] := by rfl) : S1 X W δ (.Assign [tg] e pos) P := fun Hf0 H0 Hf H σ D r c =>
  goS (ps_asg pe_w pg_w hs hw h1) (he _ _ _ _ _ _ r fun v Hf1 H1 g1 rv => hg _ _ _ _ _ _ _ (r.grow g1) rv fun σ' s' _ => c.nx _ _ _ _ k s')
theorem s1_if {c : Expr} {s1 s2 : List Stmt} (hc : ET X δ c p) (h1 : p → SS X W δ s1 P) (h2 : ¬ p → SS X W δ s2 P) : S1 X W δ (.If c s1 s2 pos) P := fun Hf0 H0 Hf H σ D r k =>
  goS (ps_if pt_w pss_w pss_w) (hc _ _ _ _ _ _ r fun t Hf1 H1 g1 ht => by
    cases t with
    | true =>
      show wSs X s1 D σ H1
      exact h1 (ht.mp rfl) _ _ _ _ _ D (r.grow g1) k
    | false =>
      show wSs X s2 D σ H1
      exact h2 (fun z => Bool.false_ne_true (ht.mpr z)) _ _ _ _ _ D (r.grow g1) k)
theorem s1_ret (he : EE X δ e d) (k : P.rt d) : S1 X W δ (.Return (some e) pos) P := fun Hf0 H0 Hf H σ D r c =>
  goS (ps_ret pe_w) (he _ _ _ _ _ _ r fun v Hf1 H1 g1 rv => c.rt _ _ _ _ k (r.g.trans g1) rv)
theorem s1_retN (k : P.rt .non) : S1 X W δ (.Return none pos) P := fun Hf0 H0 Hf H σ D r c => goS ps_retN (c.rt _ _ _ _ k r.g .non)
theorem s1_pass (k : P.nx δ) : S1 X W δ (.Pass pos) P := fun Hf0 H0 Hf H σ D r c => goS ps_pass (c.nx _ _ _ _ k r)
theorem s1_brk (k : P.bk δ) : S1 X W δ (.Break pos) P := fun Hf0 H0 Hf H σ D r c => goS ps_break (c.bk _ _ _ _ k r)
theorem s1_cont (k : P.ct δ) : S1 X W δ (.Continue pos) P := fun Hf0 H0 Hf H σ D r c => goS ps_continue (c.ct _ _ _ _ k r)
theorem s1_drop (he : EE X δ e d) (k : P.nx δ) (hs : swapsWith e none pos.line X.env = pure false := by rfl) : S1 X W δ (.Expr e pos) P := fun Hf0 H0 Hf H σ D r c =>
  goS (ps_expr pe_w hs) (he _ _ _ _ _ _ r fun v Hf1 H1 g1 rv => c.nx _ _ _ _ k (r.grow g1))
/-- l.append(e), l an owned list -/
theorem s1_app {i : Nat} {x : Str} {p1 apos cpos : Pos} (hd : δ[i]? = some (some (.own ds))) (he : EE X δ e d) (hz : ds.length ≤ 1000000) (k : P.nx (δ.set i (some (.own (ds ++ [d]))))) (hN : X.N[i]? = some x) (hv : Vis X.env.scope x)
    (hbase : attributeBase (.Name x p1) "append" X.env (eval (.Name x p1) X.env) = eval (.Name x p1) X.env := by rfl)
    (hfew : ((backTo cpos (starEach [e] X.env)).all (fun x => !x.1) && (backToKw cpos (keywordEach [] X.env)).all (fun x => x.1.isSome)
      && decide ([e].length + ([] : List Keyword).length + (if ([] : List Keyword).isEmpty then 0 else 1) < 30)) = true := by rfl)
    (hline : (apos.endLine == cpos.line) = true := by rfl) (hs : starEach [e] X.env = (false, eval e X.env) :: starEach [] X.env := by rfl) (hplain : (backTo cpos (starEach [] X.env)).any (·.1) = false := by rfl)
    (hsw : swapsWith (.Call (.Attribute (.Name x p1) "append" apos) [e] [] cpos) none pos.line X.env = pure false := by rfl) (h1 : (x == ("__debug__" : Str)) = false := by decide) (h2 : (x == ("__classdict__" : Str)) = false := by decide) :
    S1 X W δ (.Expr (.Call (.Attribute (.Name x p1) "append" apos) [e] [] cpos) pos) P := fun Hf0 H0 Hf H σ D r c => by
  obtain ⟨q, us, e1, e2, e3, e4, e5⟩ := r.own i ds hd
  refine goS (ps_expr (pe_bm PySem.F.plainAttrs_list PySem.F.slot_list_append PySem.F.type_list_append mt_append (pe_var hN hv h1 h2) (pa_cons pe_w pa_nil hs) hbase hfew hline hs hplain) hsw) ?_
  refine ⟨.ref q, e1, .inl ⟨rfl, us, SqL.of e4⟩, he _ _ _ _ _ _ r fun v Hf1 H1 g1 rv => ?_⟩
  refine ⟨q, us, v, rfl, rfl, g1.h _ _ e4, by rw [e5.length, sizeLine_eq]; omega, ?_⟩
  exact c.nx _ _ _ _ k ((r.grow g1).mutO hd e1 ((e5.mono g1.f).append (.cons rv .nil)))
/-- l[i] = e, l an owned list -/
theorem s1_setix {i : Nat} {x : Str} {p1 spos : Pos} {n : Int} {m : Nat} (hd : δ[i]? = some (some (.own ds))) (he : EE X δ e d) (hb : EE X δ b (.int n)) (hm : ixN ds.length n = some m) (k : P.nx (δ.set i (some (.own (ds.set m d))))) (hN : X.N[i]? = some x) (hv : Vis X.env.scope x)
    (ha : ∀ v, assign (.Subscript (.Name x p1) b spos) X.env v = (do
      let ov ← holding [v] (eval (.Name x p1) X.env)
      let iv ← holding [v, ov] (eval b X.env)
      standAt spos
      holding [v, ov, iv] (setItem ov iv v)
      release [v, ov, iv] []) := by intro _; rfl)
    (hs : swapsWithSole [.Subscript (.Name x p1) b spos] e pos.line X.env = pure false := by rfl) (hw : swappedStores [.Subscript (.Name x p1) b spos] e X.env = pure none := by rfl)
    (h1 : (assignEach [.Subscript (.Name x p1) b spos] X.env).map (·.2) = [assign (.Subscript (.Name x p1) b spos) X.env] := by rfl) (h1 : (x == ("__debug__" : Str)) = false := by decide) (h2 : (x == ("__classdict__" : Str)) = false := by decide) :
    S1 X W δ (.Assign [.Subscript (.Name x p1) b spos] e pos) P := fun Hf0 H0 Hf H σ D r c => by
  refine goS (ps_asg pe_w (pg_sub (pe_var hN hv h1 h2) pe_w set_list ha) hs hw) (he _ _ _ _ _ _ r fun v Hf1 H1 g1 rv => ?_)
  obtain ⟨q, us, e1, e2, e3, e4, e5⟩ := (r.grow g1).own i ds hd
  refine ⟨.ref q, e1, hb _ _ _ _ _ _ (r.grow g1) fun y Hf2 H2 g2 ry => ?_⟩
  cases ry
  refine ⟨q, us, n, m, rfl, rfl, g2.h _ _ e4, by rw [e5.length]; exact hm, ?_⟩
  exact c.nx _ _ _ _ k (((r.grow g1).grow g2).mutO hd e1 ((e5.mono g2.f).set m (rv.mono g2.f)))
/-- an owned list read by place, its length -/
theorem ee_ixO {i : Nat} {x : Str} {p1 : Pos} {n : Int} (hd : δ[i]? = some (some (.own ds))) (hb : EE X δ b (.int n)) (hm : atI ds n = some d) (hN : X.N[i]? = some x) (hv : Vis X.env.scope x) (hs : PlainIx b := by exact fun _ _ => rfl)
    (h1 : (x == ("__debug__" : Str)) = false := by decide) (h2 : (x == ("__classdict__" : Str)) = false := by decide) : EE X δ (.Subscript (.Name x p1) b pos) d := fun Hf0 H0 Hf H σ Q r k => by
  obtain ⟨q, us, e1, e2, e3, e4, e5⟩ := r.own i ds hd
  refine goE (pe_ix ix_list (pe_var hN hv h1 h2) pe_w hs) ⟨.ref q, e1, hb _ _ _ _ _ _ r fun y Hf2 H2 g2 ry => ?_⟩
  cases ry
  obtain ⟨v, f1, f2⟩ := (e5.mono g2.f).atI hm
  exact ⟨q, us, n, v, rfl, rfl, SqL.of (g2.h _ _ e4), f1, k v Hf2 H2 g2 f2⟩
/-- flat data -/
def flatD : Dt → Bool
  | .non => true
  | .bl _ => true
  | .int _ => true
  | .str _ => true
  | _ => false
theorem Rp.flat {K : PySem.W.Frag} {H H' : Hp} {v : V} (h : Rp K H v d) (f : flatD d = true) : Rp K H' v d := by
  cases h <;> first | (exfalso; simp [flatD] at f; done) | constructor
/-- an owned list lent to an expression whose answer is flat -/
theorem EE.lend {i : Nat} (hd : δ[i]? = some (some (.own ds))) (h : EE X (δ.set i (some (.val (.lst ds)))) e d) (f : flatD d = true) : EE X δ e d := fun Hf0 H0 Hf H σ Q r k => by
  obtain ⟨Hf', g, sm, r'⟩ := r.frz hd
  exact h _ _ _ _ _ _ r' fun v Hf2 H2 g2 rv => k v Hf H2 ⟨Sm.refl _, g2.h, r.g.s.trans g2.h, fun _ _ _ z => z⟩ (rv.flat f)
theorem ET.lend {i : Nat} (hd : δ[i]? = some (some (.own ds))) (h : ET X (δ.set i (some (.val (.lst ds)))) e p) : ET X δ e p := fun Hf0 H0 Hf H σ Q r k => by
  obtain ⟨Hf', g, sm, r'⟩ := r.frz hd
  exact h _ _ _ _ _ _ r' fun v Hf2 H2 g2 rv => k v Hf H2 ⟨Sm.refl _, g2.h, r.g.s.trans g2.h, fun _ _ _ z => z⟩ rv

/-! ### loops -/
theorem s1_while {c : Expr} {body : List Stmt} (I : Nat → DS → Prop) (m0 : Nat) (h0 : I m0 δ)
    (hs : ∀ m δ1, I m δ1 → ∃ p, ET X δ1 c p ∧ (p → SS X W δ1 body { P with nx := fun δ2 => ∃ m', m' < m ∧ I m' δ2, ct := fun δ2 => ∃ m', m' < m ∧ I m' δ2, bk := P.nx }) ∧ (¬ p → P.nx δ1))
    (hp : PassesOwn (model X.prog X.w) X.A X.env X.xe := by exact PassesOwn.never) : S1 X W δ (.While c body [] pos) P := fun Hf0 H0 Hf H σ D r k =>
  goS (ps_while hp pt_w pss_w) ⟨fun m σ' H' => ∃ Hf' δ1, I m δ1 ∧ SR X.K Hf0 H0 Hf' H' σ' δ1, ⟨m0, Hf, δ, h0, r⟩, fun m σ' H' ⟨Hf', δ1, i1, r1⟩ => by
    obtain ⟨p, hc, ht, hf⟩ := hs m δ1 i1
    refine hc _ _ _ _ _ _ r1 fun t Hf2 H2 g2 h2 => ?_
    cases t with
    | true =>
      refine (if_pos rfl).mpr ⟨fun σ2 H2 => ∃ m', m' < m ∧ ∃ Hf' δ1, I m' δ1 ∧ SR X.K Hf0 H0 Hf' H2 σ2 δ1, fun _ _ h => h, ?_⟩
      refine ht (h2.mp rfl) _ _ _ _ _ _ (r1.grow g2) ⟨fun δ2 σ2 Hf3 H3 ⟨m', hm, i2⟩ r3 => ⟨m', hm, Hf3, δ2, i2, r3⟩, k.rt, k.nx, fun δ2 σ2 Hf3 H3 ⟨m', hm, i2⟩ r3 => ⟨m', hm, Hf3, δ2, i2, r3⟩, k.ex⟩
    | false =>
      exact (if_neg Bool.false_ne_true).mpr (k.nx _ _ _ _ (hf fun z => Bool.false_ne_true (h2.mpr z)) (r1.grow g2))⟩
theorem s1_forR1 {body : List Stmt} {pp cp : Pos} {n : Int} (he : EE X δ e (.int n)) (hb : -(2 ^ 62) ≤ n ∧ n < 2 ^ 62) (I : Nat → DS → Prop) (h0 : I 0 δ)
    (hs : ∀ (i : Nat) δ1, (i : Int) < n → I i δ1 → ∃ js δ2, GT X δ1 tg (.int (i : Int)) js δ2 ∧ SS X W δ2 body { P with nx := I (i + 1), ct := I (i + 1), bk := P.nx }) (hd : ∀ δ1, I n.toNat δ1 → P.nx δ1)
    (hc : X.calm = true) (hg : Gl X "range") (hm : X.mg "range" = none) (hst : starEach [e] X.env = [(false, eval e X.env)] := by rfl) (hst2 : starEach [e] X.env = (false, eval e X.env) :: starEach [] X.env := by rfl)
    (hfold : ∀ x, foldedSetIterable (.Call (.Name "range" pp) [e] [] cp) X.env x = pure x := by intro _; rfl)
    (hp : PassesOwn (model X.prog X.w) X.A X.env X.xe := by exact PassesOwn.never) : S1 X W δ (.For tg (.Call (.Name "range" pp) [e] [] cp) body [] pos) P := fun Hf0 H0 Hf H σ D r k => by
  refine goS (ps_for hp hc (pi_range1 hg hm (pa_cons pe_w pa_nil hst2) hst) pg_w pss_w hfold) (he _ _ _ _ _ _ r fun v Hf1 H1 g1 rv => ?_)
  cases rv
  refine ⟨n, rfl, hb.1, hb.2, for_range (lo := 0) (n := n.toNat) (fun i σ' H' => ∃ Hf' δ1, I i δ1 ∧ SR X.K Hf0 H0 Hf' H' σ' δ1) ⟨Hf1, δ, h0, r.grow g1⟩ (fun i σ' H' hi ⟨Hf', δ1, i1, r1⟩ => ?_) fun σ' H' ⟨Hf', δ1, i1, r1⟩ => k.nx _ _ _ _ (hd δ1 i1) r1⟩
  obtain ⟨js, δ2, ht, hb2⟩ := hs i δ1 (by omega) i1
  rw [Int.zero_add]
  exact ht _ _ _ _ _ _ _ r1 (.int _) fun σ2 s2 _ => hb2 _ _ _ _ _ _ s2 ⟨fun δ3 σ3 Hf3 H3 h3 r3 => ⟨Hf3, δ3, h3, r3⟩, k.rt, k.nx, fun δ3 σ3 Hf3 H3 h3 r3 => ⟨Hf3, δ3, h3, r3⟩, k.ex⟩
theorem s1_forR2 {body : List Stmt} {pp cp : Pos} {m n : Int} (ha : EE X δ a (.int m)) (he : EE X δ e (.int n)) (hb : -(2 ^ 62) ≤ m ∧ m < 2 ^ 62 ∧ -(2 ^ 62) ≤ n ∧ n < 2 ^ 62) (I : Nat → DS → Prop) (h0 : I 0 δ)
    (hs : ∀ (i : Nat) δ1, m + (i : Int) < n → I i δ1 → ∃ js δ2, GT X δ1 tg (.int (m + (i : Int))) js δ2 ∧ SS X W δ2 body { P with nx := I (i + 1), ct := I (i + 1), bk := P.nx }) (hd : ∀ δ1, I (n - m).toNat δ1 → P.nx δ1)
    (hc : X.calm = true) (hg : Gl X "range") (hm : X.mg "range" = none) (hst : starEach [a, e] X.env = [(false, eval a X.env), (false, eval e X.env)] := by rfl) (hst2 : starEach [e] X.env = [(false, eval e X.env)] := by rfl)
    (hst3 : starEach [a, e] X.env = (false, eval a X.env) :: starEach [e] X.env := by rfl) (hst4 : starEach [e] X.env = (false, eval e X.env) :: starEach [] X.env := by rfl)
    (hfold : ∀ x, foldedSetIterable (.Call (.Name "range" pp) [a, e] [] cp) X.env x = pure x := by intro _; rfl)
    (hp : PassesOwn (model X.prog X.w) X.A X.env X.xe := by exact PassesOwn.never) : S1 X W δ (.For tg (.Call (.Name "range" pp) [a, e] [] cp) body [] pos) P := fun Hf0 H0 Hf H σ D r k => by
  refine goS (ps_for hp hc (pi_range2 hg hm (pa_cons pe_w (pa_cons pe_w pa_nil hst4) hst3) hst hst2) pg_w pss_w hfold) (ha _ _ _ _ _ _ r fun u Hf0 H0 g0 ru => he _ _ _ _ _ _ (r.grow g0) fun v Hf1 H1 g1 rv => ?_)
  cases ru; cases rv
  refine ⟨m, n, rfl, hb, for_range (lo := m) (n := (n - m).toNat) (fun i σ' H' => ∃ Hf' δ1, I i δ1 ∧ SR X.K _ _ Hf' H' σ' δ1) ⟨Hf1, δ, h0, (r.grow g0).grow g1⟩ (fun i σ' H' hi ⟨Hf', δ1, i1, r1⟩ => ?_) fun σ' H' ⟨Hf', δ1, i1, r1⟩ => k.nx _ _ _ _ (hd δ1 i1) r1⟩
  obtain ⟨js, δ2, ht, hb2⟩ := hs i δ1 (by omega) i1
  exact ht _ _ _ _ _ _ _ r1 (.int _) fun σ2 s2 _ => hb2 _ _ _ _ _ _ s2 ⟨fun δ3 σ3 Hf3 H3 h3 r3 => ⟨Hf3, δ3, h3, r3⟩, k.rt, k.nx, fun δ3 σ3 Hf3 H3 h3 r3 => ⟨Hf3, δ3, h3, r3⟩, k.ex⟩
/-- the base moved on to what is frozen now -/
def jn (H0 Hf : Hp) : Hp := fun p => match Hf p with
  | some o => some o
  | none => H0 p
theorem jn_none {H0 Hf : Hp} {p : Addr} (h : jn H0 Hf p = none) : Hf p = none ∧ H0 p = none := by
  unfold jn at h
  cases e : Hf p with
  | none => rw [e] at h; exact ⟨rfl, h⟩
  | some o => rw [e] at h; cases h
theorem jn_of {H0 Hf : Hp} {p : Addr} (h1 : Hf p = none) (h2 : H0 p = none) : jn H0 Hf p = none := by
  unfold jn; rw [h1]; exact h2
theorem Gr.rebase {Hf0 H0 Hf H : Hp} (g : Gr Hf0 H0 Hf H) : Gr Hf (jn H0 Hf) Hf H := by
  refine ⟨Sm.refl _, fun p u e => ?_, g.s, fun _ _ _ z => z⟩
  unfold jn at e
  cases q : Hf p with
  | none => rw [q] at e; exact g.h p u e
  | some o => rw [q] at e; cases e; exact g.s p _ q
theorem Gr.unbase {Hf0 H0 Hf H Hf' H' : Hp} (g : Gr Hf0 H0 Hf H) (g' : Gr Hf (jn H0 Hf) Hf' H') : Gr Hf0 H0 Hf' H' := by
  have up : ∀ p u, H0 p = some u → jn H0 Hf p = some u := fun p u e => by
    unfold jn
    cases q : Hf p with
    | none => exact e
    | some o =>
      have h1 := g.s p o q
      have h2 := g.h p u e
      rw [h1] at h2
      exact h2
  exact ⟨g.f.trans g'.f, fun p u e => g'.h p u (up p u e), g'.s, fun p u e n => g'.o p u (up p u e) (g.o p u e n)⟩
theorem SR.rebase {K : PySem.W.Frag} {Hf0 H0 Hf H : Hp} {σ : L2.St} (r : SR K Hf0 H0 Hf H σ δ) : SR K Hf (jn H0 Hf) Hf H σ δ :=
  ⟨r.g.rebase, r.len, r.val, fun i ds h => by
    obtain ⟨p, us, h1, h2, h3, h4, h5⟩ := r.own i ds h
    exact ⟨p, us, h1, jn_of h3 h2, h3, h4, h5⟩, r.dis⟩
theorem SR.unbase {K : PySem.W.Frag} {Hf0 H0 Hf H Hf' H' : Hp} {σ : L2.St} (g : Gr Hf0 H0 Hf H) (r : SR K Hf (jn H0 Hf) Hf' H' σ δ) : SR K Hf0 H0 Hf' H' σ δ :=
  ⟨g.unbase r.g, r.len, r.val, fun i ds h => by
    obtain ⟨p, us, h1, h2, h3, h4, h5⟩ := r.own i ds h
    exact ⟨p, us, h1, (jn_none h2).2, h3, h4, h5⟩, r.dis⟩
/-- over a list (frozen); the items may be anything -/
theorem s1_forL {body : List Stmt} (he : EE X δ e (.lst xs)) (I : Nat → DS → Prop) (h0 : I 0 δ)
    (hs : ∀ (i : Nat) x δ1, xs[i]? = some x → I i δ1 → ∃ js δ2, GT X δ1 tg x js δ2 ∧ SS X W δ2 body { P with nx := I (i + 1), ct := I (i + 1), bk := P.nx }) (hd : ∀ δ1, I xs.length δ1 → P.nx δ1)
    (hc : X.calm = true) (hfold : ∀ x, foldedSetIterable e X.env x = pure x := by intro _; rfl)
    (hp : PassesOwn (model X.prog X.w) X.A X.env X.xe := by exact PassesOwn.never) : S1 X W δ (.For tg e body [] pos) P := fun Hf0 H0 Hf H σ D r k => by
  refine goS (ps_for hp hc (pi_list pe_w) pg_w pss_w hfold) (he _ _ _ _ _ _ r fun v Hf1 H1 g1 rv => ?_)
  have r1 := r.grow g1
  cases rv with
  | @lst l us _ hl hu =>
    refine ⟨l, rfl, ⟨us, SqL.of (g1.s _ _ hl)⟩, for_list (K := X.K) (a := l) (xs := us) (fun i σ' H' => ∃ Hf' δ1, I i δ1 ∧ SR X.K Hf1 (jn H0 Hf1) Hf' H' σ' δ1) ⟨Hf1, δ, h0, r1.rebase⟩
      (fun i σ' H' _ ⟨Hf', δ1, _, r2⟩ => SqL.of (r2.g.s _ _ (r2.g.f _ _ hl))) (fun i x σ' H' hx ⟨Hf', δ1, i1, r2⟩ => ?_) fun σ' H' ⟨Hf', δ1, i1, r2⟩ => k.nx _ _ _ _ (hd δ1 (by rw [← hu.length]; exact i1)) (r2.unbase r1.g)⟩
    obtain ⟨y, hy, ry⟩ := hu.getV hx
    obtain ⟨js, δ2, ht, hb2⟩ := hs i y δ1 hy i1
    exact ht _ _ _ _ _ _ _ r2 (ry.mono r2.g.f) fun σ2 s2 _ => hb2 _ _ _ _ _ _ s2 ⟨fun δ3 σ3 Hf3 H3 h3 r3 => ⟨Hf3, δ3, h3, r3⟩, fun d v Hf3 H3 h3 g3 rv => k.rt d v Hf3 H3 h3 (r1.g.unbase g3) rv,
      fun δ3 σ3 Hf3 H3 h3 r3 => k.nx _ _ _ _ h3 (r3.unbase r1.g), fun δ3 σ3 Hf3 H3 h3 r3 => ⟨Hf3, δ3, h3, r3⟩, fun c d Hf3 H3 h3 g3 => k.ex c d Hf3 H3 h3 (r1.g.unbase g3)⟩
theorem s1_forT {body : List Stmt} (he : EE X δ e (.tup xs)) (I : Nat → DS → Prop) (h0 : I 0 δ)
    (hs : ∀ (i : Nat) x δ1, xs[i]? = some x → I i δ1 → ∃ js δ2, GT X δ1 tg x js δ2 ∧ SS X W δ2 body { P with nx := I (i + 1), ct := I (i + 1), bk := P.nx }) (hd : ∀ δ1, I xs.length δ1 → P.nx δ1)
    (hc : X.calm = true) (hfold : ∀ x, foldedSetIterable e X.env x = pure x := by intro _; rfl)
    (hp : PassesOwn (model X.prog X.w) X.A X.env X.xe := by exact PassesOwn.never) : S1 X W δ (.For tg e body [] pos) P := fun Hf0 H0 Hf H σ D r k => by
  refine goS (ps_for hp hc (pi_tup pe_w) pg_w pss_w hfold) (he _ _ _ _ _ _ r fun v Hf1 H1 g1 rv => ?_)
  have r1 := r.grow g1
  cases rv with
  | @tup l us _ hl hu =>
    refine ⟨l, rfl, ⟨us, g1.s.sqT hl⟩, for_tup (K := X.K) (a := l) (xs := us) (fun i σ' H' => ∃ Hf' δ1, I i δ1 ∧ SR X.K Hf1 (jn H0 Hf1) Hf' H' σ' δ1) ⟨Hf1, δ, h0, r1.rebase⟩
      (fun i σ' H' _ ⟨Hf', δ1, _, r2⟩ => r2.g.s.sqT (r2.g.f.sqT hl)) (fun i x σ' H' hx ⟨Hf', δ1, i1, r2⟩ => ?_) fun σ' H' ⟨Hf', δ1, i1, r2⟩ => k.nx _ _ _ _ (hd δ1 (by rw [← hu.length]; exact i1)) (r2.unbase r1.g)⟩
    obtain ⟨y, hy, ry⟩ := hu.getV hx
    obtain ⟨js, δ2, ht, hb2⟩ := hs i y δ1 hy i1
    exact ht _ _ _ _ _ _ _ r2 (ry.mono r2.g.f) fun σ2 s2 _ => hb2 _ _ _ _ _ _ s2 ⟨fun δ3 σ3 Hf3 H3 h3 r3 => ⟨Hf3, δ3, h3, r3⟩, fun d v Hf3 H3 h3 g3 rv => k.rt d v Hf3 H3 h3 (r1.g.unbase g3) rv,
      fun δ3 σ3 Hf3 H3 h3 r3 => k.nx _ _ _ _ h3 (r3.unbase r1.g), fun δ3 σ3 Hf3 H3 h3 r3 => ⟨Hf3, δ3, h3, r3⟩, fun c d Hf3 H3 h3 g3 => k.ex c d Hf3 H3 h3 (r1.g.unbase g3)⟩

/-! ### list comprehensions, one clause -/
theorem ets_nil : ETs X δ [] True := fun Hf0 H0 Hf H σ Q r k => goTs pts_nil (k true Hf H (Gr.refl r.g.s) ⟨fun _ => trivial, fun _ => rfl⟩)
theorem ets_one (h : ET X δ e p) : ETs X δ [e] p := fun Hf0 H0 Hf H σ Q r k => goTs (pts_one pt_w) (h _ _ _ _ _ _ r k)
/-- what holds in every block of the comprehension -/
def Blk (X : Cx) (scope : Scope) (φ : Cx → Prop) : Prop := ∀ (s : Shared) (H : Hp) (C : Addr) (cl : List (Str × Addr)) (fp : List Addr), φ (X.blk s H scope (compEnvC scope cl C X.env) fp)
def gBk (X : Cx) (scope : Scope) (tg : Expr) : TG := fun v σ H Q => Blk X scope fun X' => wG X' tg v σ H Q
def tBk (X : Cx) (scope : Scope) (ifs : List Expr) : TT := fun σ H Q => Blk X scope fun X' => wTs X' ifs σ H Q
def eBk (X : Cx) (scope : Scope) (elt : Expr) : TE := fun σ H Q => Blk X scope fun X' => wE X' elt σ H Q
theorem wipe_wipe {σ : L2.St} {vs : List Nat} : ∀ {ws : List Nat}, (∀ j ∈ ws, j ∈ vs) → wipe (wipe σ ws) vs = wipe σ vs
  | [], _ => rfl
  | w :: ws, h => by
    show wipe ((wipe σ ws).set w none) vs = _
    rw [wipe_set (h w List.mem_cons_self)]
    exact wipe_wipe fun j hj => h j (List.mem_cons_of_mem _ hj)
/-- a turn: x is the item, p the test, y the element -/
def LcTurn (X : Cx) (scope : Scope) (δ : DS) (tg elt : Expr) (ifs : List Expr) (vs : List Nat) (x : Dt) (p : Prop) (y : Dt) : Prop :=
  ∃ js δ2, (∀ j ∈ js, j ∈ vs) ∧ Blk X scope fun X' => GT X' (wipeD δ vs) tg x js δ2 ∧ ETs X' δ2 ifs p ∧ (p → EE X' δ2 elt y)
theorem lc_turn {scope : Scope} {elt : Expr} {ifs : List Expr} {vs : List Nat} {x y : Dt} {v : V} {D : Addr} {us : List V} {zs zs' : List Dt} {Hf0 H0 Hf1 H1 Hf H : Hp} {σ : L2.St} (r : SR X.K Hf0 H0 Hf1 H1 σ δ) (nD : H1 D = none) (g : Gr Hf1 H1 Hf H) (hD : H D = some (.lst us)) (nf : Hf D = none)
    (hu : Rps X.K Hf us zs) (hz : us.length < 1000000) (rv : Rp X.K Hf v x) (ht : LcTurn X scope δ tg elt ifs vs x p y) (h1 : p → zs' = zs ++ [y]) (h2 : ¬ p → zs' = zs) {Pv : Hp → Prop}
    (k : ∀ Hf' H' us', Gr Hf1 H1 Hf' H' → H' D = some (.lst us') → Hf' D = none → Rps X.K Hf' us' zs' → Pv H') :
    gBk X scope tg v (wipe σ vs) H fun σ2 H2 => wipe σ2 vs = wipe σ vs ∧ tBk X scope ifs σ2 H2 fun b H3 =>
      if b = true then eBk X scope elt σ2 H3 fun y H4 => ∃ acc, H4 D = some (.lst acc) ∧ acc.length < sizeLine ∧ Pv (upd H4 D (.lst (acc ++ [y]))) else Pv H3 := by
  obtain ⟨js, δ2, hj, hb⟩ := ht
  intro s0 Hs C cl fp
  refine (hb s0 Hs C cl fp).1 _ _ _ _ _ _ _ ((r.grow g).wipe vs) rv fun σ2 r2 w2 => ⟨?_, ?_⟩
  · rw [w2 vs hj]; exact wipe_wipe fun _ z => z
  · intro s0 Hs C cl fp
    refine (hb s0 Hs C cl fp).2.1 _ _ _ _ _ _ r2 fun b Hf3 H3 g3 hbp => ?_
    have hD3 : H3 D = some (.lst us) := g3.h _ _ hD
    have nf3 : Hf3 D = none := g3.o _ _ hD nf
    cases b with
    | true =>
      have hp := hbp.mp rfl
      refine (if_pos rfl).mpr ?_
      intro s0 Hs C cl fp
      refine (hb s0 Hs C cl fp).2.2 hp _ _ _ _ _ _ (r2.grow g3) fun u Hf4 H4 g4 ru => ?_
      refine ⟨us, g4.h _ _ hD3, by rw [sizeLine_eq]; omega, ?_⟩
      refine k Hf4 _ (us ++ [u]) (((g.trans g3).trans g4).mut nD (g4.o _ _ hD3 nf3)) upd_same (g4.o _ _ hD3 nf3) ?_
      rw [h1 hp]
      exact ((hu.mono g3.f).mono g4.f).append (.cons ru .nil)
    | false =>
      have hp : ¬ p := fun z => Bool.false_ne_true (hbp.mpr z)
      refine (if_neg Bool.false_ne_true).mpr ?_
      exact k Hf3 H3 us (g.trans g3) hD3 nf3 (by rw [h2 hp]; exact hu.mono g3.f)
def LC (X : Cx) (δ : DS) (elt tg iter : Expr) (ifs : List Expr) (scope : Scope) (own : List (Str × Nat)) (ds : List Dt) : Prop :=
  BlkOk X.N X.env.scope scope own ∧ ∃ wi, PI X tg iter wi ∧ ∀ (Hf0 H0 Hf H : Hp) (σ : L2.St) (Q : VK), SR X.K Hf0 H0 Hf H σ δ →
    (∀ p xs Hf' H', Gr Hf H Hf' H' → H p = none → Hf' p = none → H' p = some (.lst xs) → Rps X.K Hf' xs ds → Q (.ref p) H') → tLc wi (gBk X scope tg) (tBk X scope ifs) (eBk X scope elt) (own.map (·.2)) σ H Q
section
variable {elt iter : Expr} {ifs : List Expr} {scope : Scope} {own : List (Str × Nat)}
theorem eo_lc (h : LC X δ elt tg iter ifs scope own ds) (hc : X.calm = true) (hN : X.N.Nodup) (hs : ∀ x, foldedSetIterable iter X.env x = pure x := by intro _; rfl) : EO X δ (.ListComp elt [⟨tg, iter, ifs, 0⟩] scope pos) ds := fun Hf0 H0 Hf H σ Q r k => by
  obtain ⟨ok, wi, hi, q⟩ := h
  exact goE (pe_lc hc hN hi ok (fun s H C cl fp => ⟨fun pins s' σ H' v u Q I r h => h s H C cl fp pins s' u I r⟩) (fun s H C cl fp => ⟨fun pins s' σ H' Q I h => h s H C cl fp pins s' I⟩) (fun s H C cl fp => ⟨fun pins s' σ H' Q I h => h s H C cl fp pins s' I⟩) hs) (q _ _ _ _ _ _ r k)
/-- y = [..], y a local -/
theorem s1_lc {i : Nat} {y : Str} (h : LC X δ elt tg iter ifs scope own ds) (k : P.nx (δ.set i (some (.own ds)))) (hc : X.calm = true) (hN : X.N.Nodup) (hy : X.N[i]? = some y) (hyl : X.env.scope.names.lookup y = some .local) (hsw : swapsWith (.ListComp elt [⟨tg, iter, ifs, 0⟩] scope pos) (some (.Name y pos')) pos'.line X.env = pure true)
    {spos : Pos} (hline : spos.line = pos'.line := by rfl) (hs : ∀ x, foldedSetIterable iter X.env x = pure x := by intro _; rfl) : S1 X W δ (.Assign [.Name y pos'] (.ListComp elt [⟨tg, iter, ifs, 0⟩] scope pos) spos) P := fun Hf0 H0 Hf H σ D r c => by
  obtain ⟨ok, wi, hi, q⟩ := h
  rw [← hline] at hsw
  exact goS (ps_setLc hc hN hy hyl hsw hi ok (fun s H C cl fp => ⟨fun pins s' σ H' v u Q I r h => h s H C cl fp pins s' u I r⟩) (fun s H C cl fp => ⟨fun pins s' σ H' Q I h => h s H C cl fp pins s' I⟩) (fun s H C cl fp => ⟨fun pins s' σ H' Q I h => h s H C cl fp pins s' I⟩) hs)
    (q _ _ _ _ _ (fun x H1 => gName i x σ H1 D.nx) r fun p us Hf1 H1 g1 n nf hp rv => c.nx _ _ _ _ k (r.setO g1 n nf hp rv i))
theorem lcY_len {n : Nat} {Y : Nat → List Dt} (h0 : Y 0 = []) (hs : ∀ i, i < n → ∃ (p : Prop) (y : Dt), (p → Y (i + 1) = Y i ++ [y]) ∧ (¬ p → Y (i + 1) = Y i)) : ∀ i, i ≤ n → (Y i).length ≤ i
  | 0, _ => by rw [h0]; exact Nat.le_refl _
  | i + 1, h => by
    have ih := lcY_len h0 hs i (by omega)
    obtain ⟨p, y, h1, h2⟩ := hs i (by omega)
    by_cases hp : p
    · rw [h1 hp, List.length_append, List.length_singleton]; omega
    · rw [h2 hp]; omega
/-- over a list -/
theorem lc_L (he : EE X δ iter (.lst xs)) (ok : BlkOk X.N X.env.scope scope own) (Y : Nat → List Dt) (h0 : Y 0 = []) (hz : xs.length ≤ 1000000)
    (hs : ∀ (i : Nat) x, xs[i]? = some x → ∃ (p : Prop) (y : Dt), LcTurn X scope δ tg elt ifs (own.map (·.2)) x p y ∧ (p → Y (i + 1) = Y i ++ [y]) ∧ (¬ p → Y (i + 1) = Y i)) : LC X δ elt tg iter ifs scope own (Y xs.length) := by
  refine ⟨ok, _, pi_list pe_w, fun Hf0 H0 Hf H σ Q r k => he _ _ _ _ _ _ r fun v Hf1 H1 g1 rv => ?_⟩
  have r1 := r.grow g1
  have hY := lcY_len (n := xs.length) h0 fun i hi => by
    obtain ⟨p, y, _, h1, h2⟩ := hs i _ (List.getElem?_eq_getElem hi)
    exact ⟨p, y, h1, h2⟩
  cases rv with
  | @lst l ls _ hl hu =>
    refine ⟨l, rfl, ⟨ls, SqL.of (g1.s _ _ hl)⟩, fun D nD => lc_list (K := X.K) (a := l) (xs := ls) (fun i H' => ∃ Hf' us, Gr Hf1 H1 Hf' H' ∧ H' D = some (.lst us) ∧ Hf' D = none ∧ Rps X.K Hf' us (Y i))
      ⟨Hf1, [], Gr.newO g1.s nD, upd_same, g1.s.free nD, by rw [h0]; exact .nil⟩ (fun i H' _ ⟨Hf', us, g, _⟩ => SqL.of (g.h _ _ (g1.s _ _ hl))) (fun i x H' hx ⟨Hf', us, g, hD, nf, ru⟩ => ?_) fun H' ⟨Hf', us, g, hD, nf, ru⟩ => ?_⟩
    · obtain ⟨y, hy, ry⟩ := hu.getV hx
      obtain ⟨p, z, ht, e1, e2⟩ := hs i y hy
      have hi := (List.getElem?_eq_some_iff.mp hy).1
      exact lc_turn r1 nD g hD nf ru (by have := hY i (by omega); rw [ru.length]; omega) (ry.mono g.f) ht e1 e2 fun Hf2 H2 us2 a b c d => ⟨Hf2, us2, a, b, c, d⟩
    · exact k D us Hf' H' (g1.trans g) (g1.h.free nD) nf hD (by rw [← hu.length]; exact ru)
theorem lc_T (he : EE X δ iter (.tup xs)) (ok : BlkOk X.N X.env.scope scope own) (Y : Nat → List Dt) (h0 : Y 0 = []) (hz : xs.length ≤ 1000000)
    (hs : ∀ (i : Nat) x, xs[i]? = some x → ∃ (p : Prop) (y : Dt), LcTurn X scope δ tg elt ifs (own.map (·.2)) x p y ∧ (p → Y (i + 1) = Y i ++ [y]) ∧ (¬ p → Y (i + 1) = Y i)) : LC X δ elt tg iter ifs scope own (Y xs.length) := by
  refine ⟨ok, _, pi_tup pe_w, fun Hf0 H0 Hf H σ Q r k => he _ _ _ _ _ _ r fun v Hf1 H1 g1 rv => ?_⟩
  have r1 := r.grow g1
  have hY := lcY_len (n := xs.length) h0 fun i hi => by
    obtain ⟨p, y, _, h1, h2⟩ := hs i _ (List.getElem?_eq_getElem hi)
    exact ⟨p, y, h1, h2⟩
  cases rv with
  | @tup l ls _ hl hu =>
    refine ⟨l, rfl, ⟨ls, g1.s.sqT hl⟩, fun D nD => lc_tup (K := X.K) (a := l) (xs := ls) (fun i H' => ∃ Hf' us, Gr Hf1 H1 Hf' H' ∧ H' D = some (.lst us) ∧ Hf' D = none ∧ Rps X.K Hf' us (Y i))
      ⟨Hf1, [], Gr.newO g1.s nD, upd_same, g1.s.free nD, by rw [h0]; exact .nil⟩ (fun i H' _ ⟨Hf', us, g, _⟩ => g.h.sqT (g1.s.sqT hl)) (fun i x H' hx ⟨Hf', us, g, hD, nf, ru⟩ => ?_) fun H' ⟨Hf', us, g, hD, nf, ru⟩ => ?_⟩
    · obtain ⟨y, hy, ry⟩ := hu.getV hx
      obtain ⟨p, z, ht, e1, e2⟩ := hs i y hy
      have hi := (List.getElem?_eq_some_iff.mp hy).1
      exact lc_turn r1 nD g hD nf ru (by have := hY i (by omega); rw [ru.length]; omega) (ry.mono g.f) ht e1 e2 fun Hf2 H2 us2 a b c d => ⟨Hf2, us2, a, b, c, d⟩
    · exact k D us Hf' H' (g1.trans g) (g1.h.free nD) nf hD (by rw [← hu.length]; exact ru)
/-- over the script -/
theorem lc_S {ns : List Int} (he : EE X δ iter (.scr ns)) (ok : BlkOk X.N X.env.scope scope own) (Y : Nat → List Dt) (h0 : Y 0 = []) (hz : ns.length ≤ 1000000)
    (hs : ∀ (i : Nat) x, ns[i]? = some x → ∃ (p : Prop) (y : Dt), LcTurn X scope δ tg elt ifs (own.map (·.2)) (.int x) p y ∧ (p → Y (i + 1) = Y i ++ [y]) ∧ (¬ p → Y (i + 1) = Y i)) : LC X δ elt tg iter ifs scope own (Y ns.length) := by
  refine ⟨ok, _, pi_list pe_w, fun Hf0 H0 Hf H σ Q r k => he _ _ _ _ _ _ r fun v Hf1 H1 g1 rv => ?_⟩
  have r1 := r.grow g1
  have hY := lcY_len (n := ns.length) h0 fun i hi => by
    obtain ⟨p, y, _, h1, h2⟩ := hs i _ (List.getElem?_eq_getElem hi)
    exact ⟨p, y, h1, h2⟩
  cases rv with
  | @scr l _ hl =>
    refine ⟨l, rfl, ⟨_, g1.s.sqL hl⟩, fun D nD => lc_list (K := X.K) (a := l) (xs := ns.map V.int) (fun i H' => ∃ Hf' us, Gr Hf1 H1 Hf' H' ∧ H' D = some (.lst us) ∧ Hf' D = none ∧ Rps X.K Hf' us (Y i))
      ⟨Hf1, [], Gr.newO g1.s nD, upd_same, g1.s.free nD, by rw [h0]; exact .nil⟩ (fun i H' _ ⟨Hf', us, g, _⟩ => g.h.sqL (g1.s.sqL hl)) (fun i x H' hx ⟨Hf', us, g, hD, nf, ru⟩ => ?_) fun H' ⟨Hf', us, g, hD, nf, ru⟩ => ?_⟩
    · obtain ⟨n, hn, rfl⟩ : ∃ n, ns[i]? = some n ∧ x = V.int n := by
        rw [List.getElem?_map] at hx
        cases q : ns[i]? with
        | none => rw [q] at hx; cases hx
        | some n => rw [q] at hx; exact ⟨n, rfl, (Option.some.inj hx).symm⟩
      obtain ⟨p, z, ht, e1, e2⟩ := hs i n hn
      have hi := (List.getElem?_eq_some_iff.mp hn).1
      exact lc_turn r1 nD g hD nf ru (by have := hY i (by omega); rw [ru.length]; omega) (.int n) ht e1 e2 fun Hf2 H2 us2 a b c d => ⟨Hf2, us2, a, b, c, d⟩
    · exact k D us Hf' H' (g1.trans g) (g1.h.free nD) nf hD (by rw [List.length_map] at ru; exact ru)
/-- over range(n) -/
theorem lc_R1 {n : Int} {pp cp : Pos} (he : EE X δ e (.int n)) (ok : BlkOk X.N X.env.scope scope own) (Y : Nat → List Dt) (h0 : Y 0 = []) (hz : n ≤ 1000000) (hb : -(2 ^ 62) ≤ n)
    (hs : ∀ (i : Nat), (i : Int) < n → ∃ (p : Prop) (y : Dt), LcTurn X scope δ tg elt ifs (own.map (·.2)) (.int (i : Int)) p y ∧ (p → Y (i + 1) = Y i ++ [y]) ∧ (¬ p → Y (i + 1) = Y i))
    (hg : Gl X "range") (hm : X.mg "range" = none) (hst : starEach [e] X.env = [(false, eval e X.env)] := by rfl) (hst2 : starEach [e] X.env = (false, eval e X.env) :: starEach [] X.env := by rfl) :
    LC X δ elt tg (.Call (.Name "range" pp) [e] [] cp) ifs scope own (Y n.toNat) := by
  refine ⟨ok, _, pi_range1 hg hm (pa_cons pe_w pa_nil hst2) hst, fun Hf0 H0 Hf H σ Q r k => he _ _ _ _ _ _ r fun v Hf1 H1 g1 rv => ?_⟩
  have r1 := r.grow g1
  have hY := lcY_len (n := n.toNat) h0 fun i hi => by
    obtain ⟨p, y, _, h1, h2⟩ := hs i (by omega)
    exact ⟨p, y, h1, h2⟩
  cases rv
  refine ⟨n, rfl, hb, by omega, fun D nD => lc_range (lo := 0) (n := n.toNat) (fun i H' => ∃ Hf' us, Gr Hf1 H1 Hf' H' ∧ H' D = some (.lst us) ∧ Hf' D = none ∧ Rps X.K Hf' us (Y i))
    ⟨Hf1, [], Gr.newO g1.s nD, upd_same, g1.s.free nD, by rw [h0]; exact .nil⟩ (fun i H' hi ⟨Hf', us, g, hD, nf, ru⟩ => ?_) fun H' ⟨Hf', us, g, hD, nf, ru⟩ => k D us Hf' H' (g1.trans g) (g1.h.free nD) nf hD ru⟩
  obtain ⟨p, z, ht, e1, e2⟩ := hs i (by omega)
  rw [Int.zero_add]
  exact lc_turn r1 nD g hD nf ru (by have := hY i (by omega); rw [ru.length]; omega) (.int _) ht e1 e2 fun Hf2 H2 us2 a b c d => ⟨Hf2, us2, a, b, c, d⟩
theorem lc_R2 {m n : Int} {pp cp : Pos} (ha : EE X δ a (.int m)) (he : EE X δ e (.int n)) (ok : BlkOk X.N X.env.scope scope own) (Y : Nat → List Dt) (h0 : Y 0 = []) (hz : n ≤ 1000000) (hb : -(2 ^ 62) ≤ n) (hb2 : 0 ≤ m ∧ m < 2 ^ 62)
    (hs : ∀ (i : Nat), m + (i : Int) < n → ∃ (p : Prop) (y : Dt), LcTurn X scope δ tg elt ifs (own.map (·.2)) (.int (m + (i : Int))) p y ∧ (p → Y (i + 1) = Y i ++ [y]) ∧ (¬ p → Y (i + 1) = Y i))
    (hg : Gl X "range") (hm : X.mg "range" = none) (hst : starEach [a, e] X.env = [(false, eval a X.env), (false, eval e X.env)] := by rfl) (hst2 : starEach [e] X.env = [(false, eval e X.env)] := by rfl)
    (hst3 : starEach [a, e] X.env = (false, eval a X.env) :: starEach [e] X.env := by rfl) (hst4 : starEach [e] X.env = (false, eval e X.env) :: starEach [] X.env := by rfl) :
    LC X δ elt tg (.Call (.Name "range" pp) [a, e] [] cp) ifs scope own (Y (n - m).toNat) := by
  refine ⟨ok, _, pi_range2 hg hm (pa_cons pe_w (pa_cons pe_w pa_nil hst4) hst3) hst hst2, fun Hf0 H0 Hf H σ Q r k => ha _ _ _ _ _ _ r fun u Hf2 H2 g2 ru => he _ _ _ _ _ _ (r.grow g2) fun v Hf1 H1 g1' rv => ?_⟩
  have g1 := g2.trans g1'
  have r1 := r.grow g1
  have hY := lcY_len (n := (n - m).toNat) h0 fun i hi => by
    obtain ⟨p, y, _, h1, h2⟩ := hs i (by omega)
    exact ⟨p, y, h1, h2⟩
  cases ru; cases rv
  refine ⟨m, n, rfl, ⟨by omega, hb2.2, hb, by omega⟩, fun D nD => lc_range (lo := m) (n := (n - m).toNat) (fun i H' => ∃ Hf' us, Gr Hf1 H1 Hf' H' ∧ H' D = some (.lst us) ∧ Hf' D = none ∧ Rps X.K Hf' us (Y i))
    ⟨Hf1, [], Gr.newO g1.s nD, upd_same, g1.s.free nD, by rw [h0]; exact .nil⟩ (fun i H' hi ⟨Hf', us, g, hD, nf, ru⟩ => ?_) fun H' ⟨Hf', us, g, hD, nf, ru⟩ => k D us Hf' H' (g1.trans g) (g1.h.free nD) nf hD ru⟩
  obtain ⟨p, z, ht, e1, e2⟩ := hs i (by omega)
  exact lc_turn r1 nD g hD nf ru (by have := hY i (by omega); rw [ru.length]; omega) (.int _) ht e1 e2 fun Hf2 H2 us2 a b c d => ⟨Hf2, us2, a, b, c, d⟩
end

/-! ### calls -/
/-- a def's promise over data: R ds d: of ds it may answer d; Rx ds c: it may refuse with the class at c -/
def spX (K : PySem.W.Frag) (R : List Dt → Dt → Prop) (Rx : List Dt → Addr → Prop) : Sp := fun vs H Q E => ∃ Hf ds, Sm Hf H ∧ Rps K Hf vs ds ∧
  ((∃ d, R ds d ∧ ∀ v Hf' H', Gr Hf H Hf' H' → Rp K Hf' v d → Q v H') ∨ (∃ c, Rx ds c ∧ ∀ Hf' H' dd, Gr Hf H Hf' H' → E (.ref c) dd H'))
def spR (K : PySem.W.Frag) (R : List Dt → Dt → Prop) : Sp := fun vs H Q _ => ∃ Hf ds d, Sm Hf H ∧ Rps K Hf vs ds ∧ R ds d ∧ ∀ v Hf' H', Gr Hf H Hf' H' → Rp K Hf' v d → Q v H'
/-- .. a fresh list -/
def spO (K : PySem.W.Frag) (R : List Dt → List Dt → Prop) : Sp := fun vs H Q _ => ∃ Hf ds zs, Sm Hf H ∧ Rps K Hf vs ds ∧ R ds zs ∧ ∀ p xs Hf' H', Gr Hf H Hf' H' → H p = none → Hf' p = none → H' p = some (.lst xs) → Rps K Hf' xs zs → Q (.ref p) H'
def Clb (P : Program) (w : World) (K : PySem.W.Frag) (mg : Str → Option Value) (base : Heap) (CX : CXT) (k : Nat) (x : Str) (sp : Sp) : Prop :=
  ∃ f fd ps, mg x = some (.ref f) ∧ PySem.W.keepIn K (.ref f) = true ∧ Binds K fd ps [] ∧ FnOk P w K mg base CX k f fd ps sp
theorem Clb.imp {P : Program} {w : World} {K : PySem.W.Frag} {mg : Str → Option Value} {base : Heap} {CX : CXT} {k : Nat} {x : Str} {sp sp' : Sp} (C : Clb P w K mg base CX k x sp) (h : ∀ vs H Q E, sp' vs H Q E → sp vs H Q E) : Clb P w K mg base CX k x sp' := by
  obtain ⟨f, fd, ps, h1, h2, h3, h4⟩ := C
  exact ⟨f, fd, ps, h1, h2, h3, h4.imp h⟩
theorem Clb.mono {P : Program} {w : World} {K : PySem.W.Frag} {mg : Str → Option Value} {base : Heap} {CX : CXT} {j k : Nat} {x : Str} {sp : Sp} (C : Clb P w K mg base CX j x sp) (h : j ≤ k) : Clb P w K mg base CX k x sp := by
  obtain ⟨f, fd, ps, h1, h2, h3, h4⟩ := C
  exact ⟨f, fd, ps, h1, h2, h3, h4.mono h⟩
theorem Clb.ofX {P : Program} {w : World} {K : PySem.W.Frag} {mg : Str → Option Value} {base : Heap} {CX : CXT} {k : Nat} {x : Str} {R : List Dt → Dt → Prop} {Rx : List Dt → Addr → Prop} (C : Clb P w K mg base CX k x (spX K R Rx)) : Clb P w K mg base CX k x (spR K R) :=
  C.imp fun vs H Q E ⟨Hf, ds, d, s, r, hr, q⟩ => ⟨Hf, ds, s, r, .inl ⟨d, hr, q⟩⟩
theorem Clb.ofO {P : Program} {w : World} {K : PySem.W.Frag} {mg : Str → Option Value} {base : Heap} {CX : CXT} {k : Nat} {x : Str} {R : List Dt → List Dt → Prop} (C : Clb P w K mg base CX k x (spO K R)) : Clb P w K mg base CX k x (spR K fun ds d => ∃ zs, R ds zs ∧ d = .lst zs) :=
  C.imp fun vs H Q E ⟨Hf, ds, d, s, r, ⟨zs, hr, e⟩, q⟩ => ⟨Hf, ds, zs, s, r, hr, fun p xs Hf' H' g n nf hp rx => q _ (upd Hf' p (.lst xs)) H' ⟨g.f.trans (Sm.new nf), g.h, fun b u z => by
      by_cases hb : b = p
      · subst hb; rw [upd_same] at z; cases z; exact hp
      · rw [upd_ne hb] at z; exact g.s b u z,
    fun q u z m => by
      by_cases hq : q = p
      · subst hq; rw [n] at z; cases z
      · rw [upd_ne hq]; exact g.o q u z m⟩ (by rw [e]; exact .lst upd_same (rx.mono (Sm.new nf)))⟩
section
variable {CX : CXT} {k : Nat} {x : Str} {R : List Dt → Dt → Prop} {pp : Pos}
theorem ee_call (C : Clb X.prog X.w X.K X.mg X.base CX k x (spR X.K R)) (ha : EA X δ (a :: es) ds) (hR : R ds d) (pas : Passes CX X E0) (hr : Room k X.A) (hg : Gl X x) (hdb : (x == ("__debug__" : Str)) = false := by decide) (he : starEach (a :: es) X.env = (false, eval a X.env) :: starEach es X.env := by rfl)
    (hpl : (backTo pos (starEach es X.env)).any (·.1) = false := by rfl) : EE X δ (.Call (.Name x pp) (a :: es) [] pos) d := fun Hf0 H0 Hf H σ Q r q => by
  obtain ⟨f, fd, ps, h1, h2, h3, h4⟩ := C
  refine goE (pe_call h4 hr hg h1 h2 h3 .nil pas pa_w hdb he hpl) (ha _ _ _ _ _ _ r fun vs Hf1 H1 g1 rv => ?_)
  show spR X.K R (vs ++ []) H1 Q E0
  rw [List.append_nil]
  exact ⟨Hf1, ds, d, g1.s, rv, hR, fun v Hf2 H2 g2 rd => q v Hf2 H2 (g1.trans g2) rd⟩
theorem ee_call0 (C : Clb X.prog X.w X.K X.mg X.base CX k x (spR X.K R)) (hR : R [] d) (pas : Passes CX X E0) (hr : Room k X.A) (hg : Gl X x) (hdb : (x == ("__debug__" : Str)) = false := by decide) : EE X δ (.Call (.Name x pp) [] [] pos) d := fun Hf0 H0 Hf H σ Q r q => by
  obtain ⟨f, fd, ps, h1, h2, h3, h4⟩ := C
  refine goE (pe_call0 h4 hr hg h1 h2 h3 .nil pas hdb) ?_
  show spR X.K R [] H Q E0
  exact ⟨Hf, [], d, r.g.s, .nil, hR, fun v Hf2 H2 g2 rd => q v Hf2 H2 g2 rd⟩
theorem eo_call {R : List Dt → List Dt → Prop} (C : Clb X.prog X.w X.K X.mg X.base CX k x (spO X.K R)) (ha : EA X δ (a :: es) ds) (hR : R ds xs) (pas : Passes CX X E0) (hr : Room k X.A) (hg : Gl X x) (hdb : (x == ("__debug__" : Str)) = false := by decide) (he : starEach (a :: es) X.env = (false, eval a X.env) :: starEach es X.env := by rfl)
    (hpl : (backTo pos (starEach es X.env)).any (·.1) = false := by rfl) : EO X δ (.Call (.Name x pp) (a :: es) [] pos) xs := fun Hf0 H0 Hf H σ Q r q => by
  obtain ⟨f, fd, ps, h1, h2, h3, h4⟩ := C
  refine goE (pe_call h4 hr hg h1 h2 h3 .nil pas pa_w hdb he hpl) (ha _ _ _ _ _ _ r fun vs Hf1 H1 g1 rv => ?_)
  show spO X.K R (vs ++ []) H1 Q E0
  rw [List.append_nil]
  exact ⟨Hf1, ds, xs, g1.s, rv, hR, fun p us Hf2 H2 g2 n nf hp rd => q p us Hf2 H2 (g1.trans g2) (g1.h.free n) nf hp rd⟩
end
end

/-! ### a def -/
def startD : List Str → List Dt → DS
  | _ :: N, d :: ds => some (.val d) :: startD N ds
  | _ :: N, [] => none :: startD N []
  | [], _ => []
theorem startD_len : ∀ (N : List Str) (ds : List Dt), ds.length ≤ N.length → (startD N ds).length = N.length
  | [], _, _ => by unfold startD; rfl
  | _ :: N, d :: ds, h => by
    unfold startD
    simp only [List.length_cons] at h ⊢
    rw [startD_len N ds (by omega)]
  | _ :: N, [], _ => by
    unfold startD
    simp only [List.length_cons]
    rw [startD_len N [] (Nat.zero_le _)]
theorem startD_get : ∀ (N : List Str) (ds : List Dt) (i : Nat) (s : Sl), (startD N ds)[i]? = some (some s) → ∃ d, ds[i]? = some d ∧ s = .val d
  | [], _, i, s, h => by unfold startD at h; simp at h
  | _ :: N, d :: ds, 0, s, h => by
    unfold startD at h
    simp at h
    exact ⟨d, rfl, h.symm⟩
  | _ :: N, d :: ds, i + 1, s, h => by
    unfold startD at h
    obtain ⟨e, h1, h2⟩ := startD_get N ds i s (by simpa using h)
    exact ⟨e, by simpa using h1, h2⟩
  | _ :: N, [], 0, s, h => by unfold startD at h; simp at h
  | _ :: N, [], i + 1, s, h => by
    unfold startD at h
    obtain ⟨e, h1, h2⟩ := startD_get N [] i s (by simpa using h)
    exact ⟨e, by simpa using h1, h2⟩
theorem sr_start {K : PySem.W.Frag} {Hf H : Hp} {N : List Str} {vs : List V} {ds : List Dt} (s : Sm Hf H) (r : Rps K Hf vs ds) (hl : ds.length ≤ N.length) : SR K Hf H Hf H (L2.start N vs) (startD N ds) := by
  have e := r.length
  refine ⟨Gr.refl s, ?_, fun i d h => ?_, fun i ds' h => ?_, fun i j a b p q _ h => ?_⟩
  · rw [startD_len N ds hl]
    unfold L2.start
    rw [List.length_append, List.length_map, List.length_replicate, e]; omega
  · obtain ⟨d', h1, h2⟩ := startD_get N ds i _ h
    cases h2
    obtain ⟨v, g1, g2⟩ := r.get h1
    refine ⟨v, ?_, g2⟩
    have hi := (List.getElem?_eq_some_iff.mp g1).1
    unfold L2.start
    rw [List.getElem?_append_left (by rw [List.length_map]; exact hi), List.getElem?_map, g1]; rfl
  · obtain ⟨d', h1, h2⟩ := startD_get N ds i _ h
    cases h2
  · obtain ⟨d', h1, h2⟩ := startD_get N ds i _ h
    cases h2
section
variable {P : Program} {w : World} {K : PySem.W.Frag} {mg : Str → Option Value} {base : Heap}
abbrev bodyX (P : Program) (w : World) (K : PySem.W.Frag) (mg : Str → Option Value) (base : Heap) (N : List Str) (qual : Str) (st : Stmt) (f : Addr) (cdv : Value) (A : Around) (outer : List Env) (s : Shared) (H : Hp) (E : XK) : Cx := (cxOf CX0 P w K mg base N qual (defScope st) f cdv A outer s H E).nox
/-- THE RULE for a def that raises nothing -/
theorem fn_R {x qual : Str} {st : Stmt} {f : Addr} {fd : FuncData} {N ps : List Str} {k : Nat} {R : List Dt → Dt → Prop} (F : Fun K x qual st f fd) (S : FnScope N ps (defScope st)) (len : ∀ ds d, R ds d → ds.length = ps.length)
    (hb : ∀ (cdv : Value) (A : Around) (outer : List Env) (s : Shared) (H : Hp) (E : XK), Room k (A.deeper (PyProof.Rows.envOfC qual (defScope st) s.heap.objs.size f cdv)) → ∀ ds d, R ds d →
      SS (bodyX P w K mg base N qual st f cdv A outer s H E) E0 (startD N ds) (defBody st) { nx := fun _ => d = .non, rt := fun d' => d' = d }) : FnOk P w K mg base CX0 (k + 1) f fd ps (spR K R) := by
  refine F.ok S (fun vs H Q E h => ?_) (fun cdv A outer s H vs Q E hr h => ?_)
  · obtain ⟨Hf, ds, d, _, r, hR, _⟩ := h
    rw [r.length]; exact len _ _ hR
  · obtain ⟨Hf, ds, d, sm, r, hR, q⟩ := h
    refine ⟨_, pss_w, hb cdv A outer s H E hr ds d hR Hf H Hf H _ _ (sr_start sm r (by have q := congrArg List.length S.pre; rw [List.length_take] at q; rw [len ds d hR]; omega)) ⟨fun δ' σ' Hf' H' hn r' => ?_, fun d' v Hf' H' hd g rv => ?_, fun _ _ _ _ z => z.elim, fun _ _ _ _ z => z.elim, fun _ _ _ _ z => z.elim⟩⟩
    · exact q .non Hf' H' r'.g (by rw [hn]; exact .non)
    · exact q v Hf' H' g (by rw [← hd]; exact rv)
end
end Tl

/-! Sizes of whole numbers; what is left open by a rule. -/
namespace Tl
open PySem L2
/-- i has at most n binary digits -/
def Sz (n : Nat) (i : Int) : Prop := i.natAbs < 2 ^ n
theorem Sz.un {n : Nat} {i : Int} (h : Sz n i) : i.natAbs < 2 ^ n := h
section
variable {n m : Nat} {i j : Int}
theorem Sz.mono (h : Sz n i) (e : n ≤ m) : Sz m i := Nat.lt_of_lt_of_le h (Nat.pow_le_pow_right (by decide) e)
theorem Sz.lit (h : i.natAbs < 2 ^ n) : Sz n i := h
theorem Sz.add (h : Sz n i) (k : Sz m j) : Sz (max n m + 1) (i + j) := by
  have h1 := h.mono (Nat.le_max_left n m)
  have h2 := k.mono (Nat.le_max_right n m)
  unfold Sz at *
  rw [Nat.pow_succ]; omega
theorem Sz.neg (h : Sz n i) : Sz n (-i) := by unfold Sz at *; omega
theorem Sz.sub (h : Sz n i) (k : Sz m j) : Sz (max n m + 1) (i - j) := by
  rw [Int.sub_eq_add_neg]; exact h.add k.neg
theorem Sz.mul (h : Sz n i) (k : Sz m j) : Sz (n + m) (i * j) := by
  unfold Sz at *
  rw [Int.natAbs_mul, Nat.pow_add]
  exact Nat.mul_lt_mul'' h k
theorem Sz.mod (k : Sz m j) (hj : 0 < j) : Sz m (i % j) := by
  unfold Sz at *
  have h1 := Int.emod_nonneg i (show j ≠ 0 by omega)
  have h2 := Int.emod_lt_of_pos i hj
  omega
theorem Sz.div (h : Sz n i) (hj : 0 < j) : Sz n (i / j) := by
  unfold Sz at *
  have : (i / j).natAbs ≤ i.natAbs := by
    by_cases hi : 0 ≤ i
    · have h1 := Int.ediv_nonneg hi (Int.le_of_lt hj)
      have h2 := Int.ediv_le_self j hi
      omega
    · have h1 : i / j < 0 := Int.ediv_neg_of_neg_of_pos (by omega) hj
      have h2 : i ≤ i / j := by
        have := Int.le_ediv_of_mul_le hj (show i * j ≤ i by
          have : i * j ≤ i * 1 := Int.mul_le_mul_of_nonpos_left (by omega) (by omega)
          omega)
        exact this
      omega
  omega
theorem Sz.abs (h : Sz n i) : Sz n (i.natAbs : Int) := by unfold Sz at *; omega
theorem Sz.between {a b : Int} (h : Sz n a) (k : Sz m b) (h1 : a ≤ i) (h2 : i ≤ b) : Sz (max n m) i := by
  have z1 := h.mono (Nat.le_max_left n m)
  have z2 := k.mono (Nat.le_max_right n m)
  unfold Sz at *
  omega
theorem Sz.small (h1 : -(2 ^ 62) ≤ i) (h2 : i ≤ 2 ^ 62) : Sz 63 i := by unfold Sz; omega
theorem Sz.shl {k : Nat} (h : Sz n i) (hj : j ≤ (k : Int)) : Sz (n + k) (i * 2 ^ j.toNat) := by
  have e : Sz k (2 ^ j.toNat : Int) ∨ k < 1 + j.toNat := by
    by_cases q : 1 + j.toNat ≤ k
    · left
      unfold Sz
      rw [Int.natAbs_pow]
      exact Nat.pow_lt_pow_right (by decide) (by omega)
    · right; omega
  unfold Sz at *
  rw [Int.natAbs_mul, Int.natAbs_pow, Nat.pow_add]
  have : (2 : Int).natAbs = 2 := rfl
  rw [this]
  have h2 : 2 ^ j.toNat ≤ 2 ^ k := Nat.pow_le_pow_right (by decide) (by omega)
  exact Nat.mul_lt_mul_of_lt_of_le h h2 (Nat.pow_pos (by decide))
theorem Sz.ofEq (h : Sz n i) (e : j = i) : Sz n j := e ▸ h
theorem Sz.ite {p : Prop} [Decidable p] (h : Sz n i) (k : Sz m j) : Sz (max n m) (if p then i else j) := by
  split
  · exact h.mono (Nat.le_max_left n m)
  · exact k.mono (Nat.le_max_right n m)
theorem Sz.max' (h : Sz n i) (k : Sz m j) : Sz (max n m) (max i j) := by
  have h1 := h.mono (Nat.le_max_left n m)
  have h2 := k.mono (Nat.le_max_right n m)
  unfold Sz at *
  omega
theorem Sz.min' (h : Sz n i) (k : Sz m j) : Sz (max n m) (min i j) := by
  have h1 := h.mono (Nat.le_max_left n m)
  have h2 := k.mono (Nat.le_max_right n m)
  unfold Sz at *
  omega
theorem cmul_of (h : Sz n i) (k : Sz m j) (e : n + m ≤ 134217728) : CMulX i j := mulx_ok h k e
theorem cshl_of {k : Nat} (h : Sz n i) (h0 : 0 ≤ j) (hj : j ≤ (k : Int)) (e : n + k ≤ 134217728) : CShl i j := by
  obtain ⟨a, rfl⟩ := Int.eq_ofNat_of_zero_le h0
  exact shl_ok h (by omega)
theorem Sz.nb (h : Sz n i) (e : n ≤ 9000) : i.natAbs < 2 ^ 9000 := h.mono e
end
theorem two_same {α : Type} {a x : α} {i : Nat} (h : [a, a][i]? = some x) : x = a := by
  match i, h with
  | 0, h => exact (Option.some.inj h).symm
  | 1, h => exact (Option.some.inj h).symm
theorem two_of {α : Type} {a b x : α} {i : Nat} (h : [a, b][i]? = some x) : x = a ∨ x = b := by
  match i, h with
  | 0, h => exact .inl (Option.some.inj h).symm
  | 1, h => exact .inr (Option.some.inj h).symm
theorem two_ints {a b : Int} {x : Dt} {i : Nat} (h : [Dt.int a, .int b][i]? = some x) : ∃ z, x = .int z ∧ (z = a ∨ z = b) := by
  rcases two_of h with rfl | rfl
  · exact ⟨a, rfl, .inl rfl⟩
  · exact ⟨b, rfl, .inr rfl⟩
theorem ite_of {α : Type} {p : Prop} [Decidable p] {z a b : α} (h1 : p → z = a) (h2 : ¬ p → z = b) : z = if p then a else b := by
  by_cases h : p
  · rw [if_pos h]; exact h1 h
  · rw [if_neg h]; exact h2 h
section
variable {X : Cx} {W : XK} {δ : DS} {e c : Expr} {p : Prop} {pos pos' pos1 : Pos} {P : Post} {x : Str} {i : Nat}
/-- name = an int, told by a letter -/
theorem s1_asgI {n : Int} (he : EE X δ e (.int n)) (k : ∀ m : Int, m = n → P.nx (δ.set i (some (.val (.int m))))) (hN : X.N.Nodup) (hi : X.N[i]? = some x) (hx : Loc X.env.scope x) (hs : swapsWith e (some (.Name x pos')) pos.line X.env = pure false := by rfl) (hf : X.fn x = true ∨ X.env.scope.names.lookup x = some .local := by first | exact .inl rfl | exact .inr rfl | assumption) :
    S1 X W δ (.Assign [.Name x pos'] e pos) P := s1_asg he (k n rfl) hN hi hx hs hf
/-- name = a pair of ints, told by letters -/
theorem s1_asgP {u v : Int} (he : EE X δ e (.tup [.int u, .int v])) (k : ∀ a b : Int, a = u → b = v → P.nx (δ.set i (some (.val (.tup [.int a, .int b]))))) (hN : X.N.Nodup) (hi : X.N[i]? = some x) (hx : Loc X.env.scope x) (hs : swapsWith e (some (.Name x pos')) pos.line X.env = pure false := by rfl) (hf : X.fn x = true ∨ X.env.scope.names.lookup x = some .local := by first | exact .inl rfl | exact .inr rfl | assumption) :
    S1 X W δ (.Assign [.Name x pos'] e pos) P := s1_asg he (k u v rfl rfl) hN hi hx hs hf
/-- a, b = a pair of ints -/
theorem s1_unp2 {tg : Expr} {js : List Nat} {i j : Nat} {u v : Int} (he : EE X δ e (.tup [.int u, .int v])) (hg : ∀ a b : Int, GT X δ tg (.tup [.int a, .int b]) js ((δ.set i (some (.val (.int a)))).set j (some (.val (.int b))))) (k : ∀ a b : Int, a = u → b = v → P.nx ((δ.set i (some (.val (.int a)))).set j (some (.val (.int b)))))
    (hs : swapsWithSole [tg] e pos.line X.env = pure false := by rfl) (hw : swappedStores [tg] e X.env = pure none := by rfl) (h1 : (assignEach [tg] X.env).map (·.2) = [assign tg X.env] := by rfl) : S1 X W δ (.Assign [tg] e pos) P := s1_asgT he (hg u v) (k u v rfl rfl) hs hw h1
theorem s1_unp4 {tg : Expr} {js : List Nat} {i j l m : Nat} {u v w z : Int} (he : EE X δ e (.tup [.int u, .int v, .int w, .int z])) (hg : ∀ a b c d : Int, GT X δ tg (.tup [.int a, .int b, .int c, .int d]) js ((((δ.set i (some (.val (.int a)))).set j (some (.val (.int b)))).set l (some (.val (.int c)))).set m (some (.val (.int d)))))
    (k : ∀ a b c d : Int, a = u → b = v → c = w → d = z → P.nx ((((δ.set i (some (.val (.int a)))).set j (some (.val (.int b)))).set l (some (.val (.int c)))).set m (some (.val (.int d)))))
    (hs : swapsWithSole [tg] e pos.line X.env = pure false := by rfl) (hw : swappedStores [tg] e X.env = pure none := by rfl) (h1 : (assignEach [tg] X.env).map (·.2) = [assign tg X.env] := by rfl) : S1 X W δ (.Assign [tg] e pos) P := s1_asgT he (hg u v w z) (k u v w z rfl rfl rfl rfl) hs hw h1
/-- if c: name = an int -/
theorem s1_ifI {n m : Int} (hc : ET X δ c p) (he : p → EE X δ e (.int n)) (hd : δ[i]? = some (some (.val (.int m)))) (k : ∀ z : Int, (p → z = n) → (¬ p → z = m) → P.nx (δ.set i (some (.val (.int z))))) (hN : X.N.Nodup) (hi : X.N[i]? = some x) (hx : Loc X.env.scope x) (hs : swapsWith e (some (.Name x pos')) pos1.line X.env = pure false := by rfl) (hf : X.fn x = true ∨ X.env.scope.names.lookup x = some .local := by first | exact .inl rfl | exact .inr rfl | assumption) :
    S1 X W δ (.If c [.Assign [.Name x pos'] e pos1] [] pos) P :=
  s1_if hc (fun hp => ss_one (s1_asg (he hp) (k n (fun _ => rfl) (fun z => absurd hp z)) hN hi hx hs hf)) (fun hp => ss_nil (by
    have q := k m (fun z => absurd z hp) (fun _ => rfl)
    have e2 : δ.set i (some (.val (.int m))) = δ := by
      obtain ⟨h1, h2⟩ := List.getElem?_eq_some_iff.mp hd
      rw [← h2]; exact List.set_getElem_self h1
    rw [e2] at q; exact q))
/-- if c: name = a pair -/
theorem s1_ifP {a b a' b' : Int} (hc : ET X δ c p) (he : p → EE X δ e (.tup [.int a, .int b])) (hd : δ[i]? = some (some (.val (.tup [.int a', .int b'])))) (k : ∀ y z : Int, (p → y = a) → (¬ p → y = a') → (p → z = b) → (¬ p → z = b') → P.nx (δ.set i (some (.val (.tup [.int y, .int z]))))) (hN : X.N.Nodup) (hi : X.N[i]? = some x) (hx : Loc X.env.scope x) (hs : swapsWith e (some (.Name x pos')) pos1.line X.env = pure false := by rfl) (hf : X.fn x = true ∨ X.env.scope.names.lookup x = some .local := by first | exact .inl rfl | exact .inr rfl | assumption) :
    S1 X W δ (.If c [.Assign [.Name x pos'] e pos1] [] pos) P :=
  s1_if hc (fun hp => ss_one (s1_asg (he hp) (k a b (fun _ => rfl) (fun z => absurd hp z) (fun _ => rfl) (fun z => absurd hp z)) hN hi hx hs hf)) (fun hp => ss_nil (by
    have q := k a' b' (fun z => absurd z hp) (fun _ => rfl) (fun z => absurd z hp) (fun _ => rfl)
    have e2 : δ.set i (some (.val (.tup [.int a', .int b']))) = δ := by
      obtain ⟨h1, h2⟩ := List.getElem?_eq_some_iff.mp hd
      rw [← h2]; exact List.set_getElem_self h1
    rw [e2] at q; exact q))
/-- any if, both ways meeting in Mid -/
theorem s1_ifM {a b : List Stmt} (Mid : DS → Prop) (hc : ET X δ c p) (h1 : p → SS X W δ a { P with nx := Mid }) (h2 : ¬ p → SS X W δ b { P with nx := Mid }) (k : ∀ δ', Mid δ' → P.nx δ') : S1 X W δ (.If c a b pos) P := fun Hf0 H0 Hf H σ D r q =>
  s1_if (P := { P with nx := Mid }) hc h1 h2 _ _ _ _ _ D r ⟨fun δ' σ' Hf' H' h r' => q.nx _ _ _ _ (k δ' h) r', q.rt, q.bk, q.ct, q.ex⟩
end
end Tl

/-! Small rules for the drafts. -/
namespace Tl
open PySem L2
section
variable {α : Type} {a b c d e : α} {l : List α}
theorem at0 : atI (a :: l) 0 = some a := atI_nat (j := 0) rfl
theorem at1 : atI (a :: b :: l) 1 = some b := atI_nat (j := 1) rfl
theorem at2 : atI (a :: b :: c :: l) 2 = some c := atI_nat (j := 2) rfl
theorem at3 : atI (a :: b :: c :: d :: l) 3 = some d := atI_nat (j := 3) rfl
theorem at4 : atI (a :: b :: c :: d :: e :: l) 4 = some e := atI_nat (j := 4) rfl
end
theorem atS {ns : List Int} {i : Int} (h0 : 0 ≤ i) (h1 : i < ns.length) : atI ns i = some (ns.getD i.toNat 0) := by
  obtain ⟨j, rfl⟩ := Int.eq_ofNat_of_zero_le h0
  refine atI_nat ?_
  have hj : j < ns.length := by omega
  rw [List.getElem?_eq_getElem hj]
  show some _ = some (ns.getD j 0)
  rw [List.getD_eq_getElem?_getD, List.getElem?_eq_getElem hj]; rfl
/-- an item of a list by its place -/
def gt {α : Type} [Inhabited α] (l : List α) (i : Int) : α := l.getD i.toNat default
theorem atM {α : Type} [Inhabited α] {f : α → Dt} {l : List α} {i : Int} (h0 : 0 ≤ i) (h1 : i < l.length) : atI (l.map f) i = some (f (gt l i)) := by
  obtain ⟨j, rfl⟩ := Int.eq_ofNat_of_zero_le h0
  refine atI_nat ?_
  have hj : j < l.length := by omega
  rw [List.getElem?_map, List.getElem?_eq_getElem hj]
  show some (f l[j]) = some (f (l.getD j default))
  rw [List.getD_eq_getElem?_getD, List.getElem?_eq_getElem hj]; rfl
/-- a choice by a small int -/
def pk2 {α : Type} (a b : α) (i : Int) : α := if i = 0 then a else b
def pk3 {α : Type} (a b c : α) (i : Int) : α := if i = 0 then a else if i = 1 then b else c
def pk4 {α : Type} (a b c d : α) (i : Int) : α := if i = 0 then a else if i = 1 then b else if i = 2 then c else d
theorem pick2 {a b i : Int} (h0 : 0 ≤ i) (h1 : i < 2) : atI [Dt.int a, .int b] i = some (.int (pk2 a b i)) := by
  have : i = 0 ∨ i = 1 := by omega
  rcases this with rfl | rfl <;> first | exact at0 | exact at1
theorem pick3 {a b c i : Int} (h0 : 0 ≤ i) (h1 : i < 3) : atI [Dt.int a, .int b, .int c] i = some (.int (pk3 a b c i)) := by
  have : i = 0 ∨ i = 1 ∨ i = 2 := by omega
  rcases this with rfl | rfl | rfl <;> first | exact at0 | exact at1 | exact at2
theorem pick4 {a b c d i : Int} (h0 : 0 ≤ i) (h1 : i < 4) : atI [Dt.int a, .int b, .int c, .int d] i = some (.int (pk4 a b c d i)) := by
  have : i = 0 ∨ i = 1 ∨ i = 2 ∨ i = 3 := by omega
  rcases this with rfl | rfl | rfl | rfl <;> first | exact at0 | exact at1 | exact at2 | exact at3
theorem Sz.pk2 {n m : Nat} {a b i : Int} (h : Sz n a) (k : Sz m b) : Sz (max n m) (pk2 a b i) := by unfold Tl.pk2; exact h.ite k
theorem Sz.pk3 {n m l : Nat} {a b c i : Int} (h : Sz n a) (k : Sz m b) (j : Sz l c) : Sz (max n (max m l)) (pk3 a b c i) := by unfold Tl.pk3; exact h.ite (k.ite j)
theorem Sz.pk4 {n m l o : Nat} {a b c d i : Int} (h : Sz n a) (k : Sz m b) (j : Sz l c) (q : Sz o d) : Sz (max n (max m (max l o))) (pk4 a b c d i) := by unfold Tl.pk4; exact h.ite (k.ite (j.ite q))
theorem Sz.ofEq' {n : Nat} {i j : Int} (e : j = i) (h : Sz n i) : Sz n j := e ▸ h
theorem pow_pos' {n : Nat} : (0 : Int) < 2 ^ n := Int.pow_pos (by decide)
theorem one_pow_pos {n : Nat} : (0 : Int) < 1 * 2 ^ n := by rw [Int.one_mul]; exact pow_pos'
theorem bd_lenTn {X : Cx} {xs : List Dt} {n : Int} (h : (xs.length : Int) = n) : BD X (.builtin "len") [.tup xs] (.int n) := h ▸ bd_lenT
/-- what isinstance answers -/
theorem kb_int_int : kitB "int" "int" = some true := by decide +kernel
theorem kb_int_bool : kitB "int" "bool" = some false := by decide +kernel
theorem kb_int_tuple : kitB "int" "tuple" = some false := by decide +kernel
theorem kb_int_list : kitB "int" "list" = some false := by decide +kernel
theorem kb_int_str : kitB "int" "str" = some false := by decide +kernel
theorem kb_bool_int : kitB "bool" "int" = some true := by decide +kernel
theorem kb_bool_bool : kitB "bool" "bool" = some true := by decide +kernel
theorem kb_bool_tuple : kitB "bool" "tuple" = some false := by decide +kernel
theorem kb_bool_list : kitB "bool" "list" = some false := by decide +kernel
theorem kb_tuple_tuple : kitB "tuple" "tuple" = some true := by decide +kernel
theorem kb_tuple_int : kitB "tuple" "int" = some false := by decide +kernel
theorem kb_tuple_list : kitB "tuple" "list" = some false := by decide +kernel
theorem kb_list_tuple : kitB "list" "tuple" = some false := by decide +kernel
theorem kb_list_list : kitB "list" "list" = some true := by decide +kernel
theorem kb_list_int : kitB "list" "int" = some false := by decide +kernel
theorem kb_str_tuple : kitB "str" "tuple" = some false := by decide +kernel
theorem kb_str_str : kitB "str" "str" = some true := by decide +kernel
theorem kb_str_int : kitB "str" "int" = some false := by decide +kernel
theorem kb_str_list : kitB "str" "list" = some false := by decide +kernel
theorem kb_none_tuple : kitB "NoneType" "tuple" = some false := by decide +kernel
theorem kb_none_int : kitB "NoneType" "int" = some false := by decide +kernel
theorem kb_none_list : kitB "NoneType" "list" = some false := by decide +kernel
section
variable {X : Cx}
theorem bi1 {a : Int} : BD X (.builtin "isinstance") [.int a, .ty "int"] (.bl true) := bd_isi rfl kb_int_int
theorem bi2 {a : Int} : BD X (.builtin "isinstance") [.int a, .ty "bool"] (.bl false) := bd_isi rfl kb_int_bool
theorem bi3 {xs : List Dt} (h : plainD (.tup xs) = true) : BD X (.builtin "isinstance") [.tup xs, .ty "tuple"] (.bl true) := bd_isi h kb_tuple_tuple
theorem bi4 {xs : List Dt} (h : plainD (.lst xs) = true) : BD X (.builtin "isinstance") [.lst xs, .ty "list"] (.bl true) := bd_isi h kb_list_list
theorem bi5 {a : Bool} : BD X (.builtin "isinstance") [.bl a, .ty "bool"] (.bl true) := bd_isi rfl kb_bool_bool
end
/-- == of plain data: made of ints, truths, None, to a depth -/
def okD : Nat → Dt → Bool
  | _, .non => true
  | _, .bl _ => true
  | _, .int _ => true
  | n + 1, .lst xs => xs.all (okD n)
  | n + 1, .tup xs => xs.all (okD n)
  | _ + 1, .scr _ => true
  | _, _ => false
theorem pys_all (P : PyData → Prop) (Q : Dt → Prop) (h : ∀ d, Q d → P (py d)) : ∀ xs : List Dt, (∀ d ∈ xs, Q d) → ∀ y ∈ pys xs, P y
  | [], _, y, hy => by unfold pys at hy; cases hy
  | d :: ds, hq, y, hy => by
    unfold pys at hy
    rcases List.mem_cons.mp hy with e | e
    · rw [e]; exact h d (hq d List.mem_cons_self)
    · exact pys_all P Q h ds (fun z hz => hq z (List.mem_cons_of_mem _ hz)) y e
theorem canAll_of : ∀ xs : List PyData, (∀ y ∈ xs, y.canLay0 = true) → PyData.canLayAll0 xs = true
  | [], _ => by unfold PyData.canLayAll0; rfl
  | x :: xs, h => by
    unfold PyData.canLayAll0
    rw [h x List.mem_cons_self, canAll_of xs fun y hy => h y (List.mem_cons_of_mem _ hy)]; rfl
theorem depAll_of {n : Nat} : ∀ xs : List PyData, (∀ y ∈ xs, y.depth ≤ n) → PyData.depthAll xs ≤ n
  | [], _ => by unfold PyData.depthAll; exact Nat.zero_le _
  | x :: xs, h => by
    unfold PyData.depthAll
    exact Nat.max_le.mpr ⟨h x List.mem_cons_self, depAll_of xs fun y hy => h y (List.mem_cons_of_mem _ hy)⟩
theorem plainDs_of : ∀ xs : List Dt, (∀ d ∈ xs, plainD d = true) → plainDs xs = true
  | [], _ => by unfold plainDs; rfl
  | x :: xs, h => by
    unfold plainDs
    rw [h x List.mem_cons_self, plainDs_of xs fun y hy => h y (List.mem_cons_of_mem _ hy)]; rfl
theorem okD_of : ∀ (n : Nat) (d : Dt), okD n d = true → plainD d = true ∧ (py d).canLay0 = true ∧ (py d).depth ≤ n
  | n, .non, _ => by unfold plainD py PyData.canLay0 PyData.depth; exact ⟨rfl, rfl, Nat.zero_le _⟩
  | n, .bl _, _ => by unfold plainD py PyData.canLay0 PyData.depth; exact ⟨rfl, rfl, Nat.zero_le _⟩
  | n, .int _, _ => by unfold plainD py PyData.canLay0 PyData.depth; exact ⟨rfl, rfl, Nat.zero_le _⟩
  | 0, .lst xs, h => by simp [okD] at h
  | 0, .tup xs, h => by simp [okD] at h
  | 0, .scr xs, h => by simp [okD] at h
  | n + 1, .lst xs, h => by
    unfold okD at h
    rw [List.all_eq_true] at h
    have ih := fun d hd => okD_of n d (h d hd)
    unfold plainD py PyData.canLay0 PyData.depth
    refine ⟨plainDs_of _ fun d hd => (ih d hd).1, canAll_of _ (pys_all _ (fun d => okD n d = true) (fun d q => (okD_of n d q).2.1) xs h), Nat.succ_le_succ (depAll_of _ (pys_all _ (fun d => okD n d = true) (fun d q => (okD_of n d q).2.2) xs h))⟩
  | n + 1, .tup xs, h => by
    unfold okD at h
    rw [List.all_eq_true] at h
    have ih := fun d hd => okD_of n d (h d hd)
    unfold plainD py PyData.canLay0 PyData.depth
    refine ⟨plainDs_of _ fun d hd => (ih d hd).1, canAll_of _ (pys_all _ (fun d => okD n d = true) (fun d q => (okD_of n d q).2.1) xs h), Nat.succ_le_succ (depAll_of _ (pys_all _ (fun d => okD n d = true) (fun d q => (okD_of n d q).2.2) xs h))⟩
  | n + 1, .scr ns, h => by
    unfold plainD py PyData.canLay0 PyData.depth
    refine ⟨rfl, canAll_of _ fun y hy => ?_, Nat.succ_le_succ (Nat.le_trans (depAll_of (n := 0) _ fun y hy => ?_) (Nat.zero_le _))⟩
    · obtain ⟨i, _, rfl⟩ := List.mem_map.mp hy; unfold PyData.canLay0; rfl
    · obtain ⟨i, _, rfl⟩ := List.mem_map.mp hy; unfold PyData.depth; exact Nat.le_refl _
  | 0, .str _, h => by simp [okD] at h
  | n + 1, .str _, h => by simp [okD] at h
  | 0, .obj _ _, h => by simp [okD] at h
  | n + 1, .obj _ _, h => by simp [okD] at h
  | 0, .raw _, h => by simp [okD] at h
  | n + 1, .raw _, h => by simp [okD] at h
  | 0, .ty _, h => by simp [okD] at h
  | n + 1, .ty _, h => by simp [okD] at h
theorem okD_shaped {d : Dt} (h : okD 60 d = true) : SeqAt.shaped (py d) = true := by
  obtain ⟨_, h2, h3⟩ := okD_of 60 d h
  unfold SeqAt.shaped
  rw [h2, decide_eq_true (by omega)]; rfl
/-- whether two data are equal, by the library -/
def eqB (a b : Dt) : Bool := PyData.eqv (py a) (py b)
section
variable {X : Cx} {k : Nat}
theorem cd_eq {a b : Dt} (hr : Room k X.A) (h1 : okD 60 a = true) (h2 : okD 60 b = true) : CD X .Eq a b (eqB a b = true) := cd_eqD hr.units (okD_of _ _ h1).1 (okD_of _ _ h2).1 (okD_shaped h1) (okD_shaped h2)
theorem cd_ne {a b : Dt} (hr : Room k X.A) (h1 : okD 60 a = true) (h2 : okD 60 b = true) : CD X .NotEq a b (eqB a b = false) := cd_neD hr.units (okD_of _ _ h1).1 (okD_of _ _ h2).1 (okD_shaped h1) (okD_shaped h2)
end
theorem eqB_int {a b : Int} : eqB (.int a) (.int b) = decide (a = b) := by unfold eqB py PyData.eqv; exact Bool.beq_eq_decide_eq a b
theorem eqB_tup2 {a b c d : Int} : eqB (.tup [.int a, .int b]) (.tup [.int c, .int d]) = decide (a = c ∧ b = d) := by
  unfold eqB py pys
  unfold PyData.eqv
  unfold py pys
  unfold PyData.eqvAll
  unfold py pys
  unfold PyData.eqvAll
  unfold PyData.eqvAll
  unfold PyData.eqv
  rw [Bool.beq_eq_decide_eq, Bool.beq_eq_decide_eq, Bool.and_true, Bool.decide_and]
theorem eqB_scr_nil {ns : List Int} : eqB (.scr ns) (.lst []) = decide (ns = []) := by
  unfold eqB py pys PyData.eqv
  cases ns with
  | nil => rfl
  | cons n ns => rw [List.map_cons]; unfold PyData.eqvAll; rfl
theorem bb_abs : bootBuiltins "abs" = some (.builtin "abs") := by decide +kernel
theorem bb_max : bootBuiltins "max" = some (.builtin "max") := by decide +kernel
theorem bb_min : bootBuiltins "min" = some (.builtin "min") := by decide +kernel
theorem bb_sum : bootBuiltins "sum" = some (.builtin "sum") := by decide +kernel
theorem bb_all : bootBuiltins "all" = some (.builtin "all") := by decide +kernel
theorem bb_len : bootBuiltins "len" = some (.builtin "len") := by decide +kernel
theorem bb_isinstance : bootBuiltins "isinstance" = some (.builtin "isinstance") := by decide +kernel
theorem bb_int : bootBuiltins "int" = some (.type "int") := by decide +kernel
theorem bb_bool : bootBuiltins "bool" = some (.type "bool") := by decide +kernel
theorem bb_list : bootBuiltins "list" = some (.type "list") := by decide +kernel
theorem bb_tuple : bootBuiltins "tuple" = some (.type "tuple") := by decide +kernel
theorem bb_str : bootBuiltins "str" = some (.type "str") := by decide +kernel
/-- a def of the module, called: from what stands behind its name -/
theorem clb_of {P : Program} {w : World} {K : PySem.W.Frag} {mg : Str → Option Value} {base : Heap} {CX : CXT} {k : Nat} {x : Str} {sp : Sp} {st : Stmt} {f : Addr} {fd : FuncData} {ps : List Str} (hm : mg x = some (.ref f)) (F : Fun K x x st f fd) (b : Binds K fd ps []) (h : FnOk P w K mg base CX k f fd ps sp) : Clb P w K mg base CX k x sp := ⟨f, fd, ps, hm, F.kp, b, h⟩
end Tl

/-! Plain mathematics: bits, powers of two. -/
namespace Tl
open PySem L2
theorem and_dbl (a b : Nat) : (2 * a) &&& (2 * b + 1) = 2 * (a &&& b) := by
  have h1 : ((2 * a) &&& (2 * b + 1)) / 2 = (2 * a / 2) &&& ((2 * b + 1) / 2) := Nat.and_div_two
  have e1 : 2 * a / 2 = a := by omega
  have e2 : (2 * b + 1) / 2 = b := by omega
  rw [e1, e2] at h1
  have h2 : ((2 * a) &&& (2 * b + 1)) % 2 = 0 := by
    have := @Nat.and_mod_two_eq_one (2 * a) (2 * b + 1)
    omega
  omega
theorem and_odd (a : Nat) : (2 * a + 1) &&& (2 * a) = 2 * a := by
  rw [Nat.and_comm, and_dbl, Nat.and_self]
/-- the lowest bit -/
def lowN (n : Nat) : Nat := n - (n &&& (n - 1))
theorem lowN_odd (a : Nat) : lowN (2 * a + 1) = 1 := by
  unfold lowN
  rw [show 2 * a + 1 - 1 = 2 * a by omega, and_odd]; omega
theorem lowN_dbl {k : Nat} (h : 0 < k) : lowN (2 * k) = 2 * lowN k := by
  unfold lowN
  rw [show 2 * k - 1 = 2 * (k - 1) + 1 by omega, and_dbl]
  have : k &&& (k - 1) ≤ k := Nat.and_le_left
  omega
theorem odd_part : ∀ n : Nat, 0 < n → ∃ v m : Nat, n = m * 2 ^ v ∧ m % 2 = 1 ∧ lowN n = 2 ^ v
  | n, h => by
    by_cases o : n % 2 = 1
    · refine ⟨0, n, by simp, o, ?_⟩
      have : n = 2 * (n / 2) + 1 := by omega
      rw [this, lowN_odd]
    · have hk : 0 < n / 2 := by omega
      obtain ⟨v, m, h1, h2, h3⟩ := odd_part (n / 2) hk
      refine ⟨v + 1, m, ?_, h2, ?_⟩
      · rw [Nat.pow_succ, ← Nat.mul_assoc, ← h1]; omega
      · have e : n = 2 * (n / 2) := by omega
        rw [e, lowN_dbl hk, h3, Nat.pow_succ, Nat.mul_comm]
  termination_by n => n
  decreasing_by omega
theorem bitAnd_low {w : Int} (h : w ≠ 0) : Builtin.bitAnd w (0 - w) = (lowN w.natAbs : Int) := by
  have key : ∀ n : Nat, 0 < n → ((n - (n &&& (n - 1)) : Nat) : Int) = (n : Int) - ((n &&& (n - 1) : Nat) : Int) := fun n _ => by
    have : n &&& (n - 1) ≤ n := Nat.and_le_left
    omega
  by_cases hp : 0 < w
  · rw [PyProof.Rows.bitAnd_pn (by omega) (by omega)]
    have e : (Builtin.bitNot (0 - w)).toNat = w.natAbs - 1 := by
      show (-(0 - w) - 1).toNat = _
      omega
    have e2 : w.toNat = w.natAbs := by omega
    rw [e, e2]
    unfold lowN
    rw [key _ (by omega)]; omega
  · rw [PyProof.Rows.bitAnd_np (by omega) (by omega)]
    have e : (Builtin.bitNot w).toNat = w.natAbs - 1 := by
      show (-w - 1).toNat = _
      omega
    have e2 : (0 - w).toNat = w.natAbs := by omega
    rw [e, e2]
    unfold lowN
    rw [key _ (by omega)]; omega
/-- w is m 2^v, m odd, and its lowest bit 2^v -/
theorem bit_split {w : Int} (h : w ≠ 0) : ∃ (v : Nat) (m : Int), w = m * 2 ^ v ∧ m % 2 = 1 ∧ Builtin.bitAnd w (0 - w) = 2 ^ v := by
  obtain ⟨v, m, h1, h2, h3⟩ := odd_part w.natAbs (by omega)
  have hl : Builtin.bitAnd w (0 - w) = 2 ^ v := by rw [bitAnd_low h, h3]; exact PySem.W.kbt_cast v
  have hc := PySem.W.kbt_cast v
  by_cases hp : 0 < w
  · refine ⟨v, m, ?_, by omega, hl⟩
    have : (w.natAbs : Int) = ((m * 2 ^ v : Nat) : Int) := by rw [h1]
    rw [Int.natCast_mul, hc] at this
    omega
  · refine ⟨v, -m, ?_, by omega, hl⟩
    have : (w.natAbs : Int) = ((m * 2 ^ v : Nat) : Int) := by rw [h1]
    rw [Int.natCast_mul, hc] at this
    rw [Int.neg_mul]
    omega
theorem ib_eq (i : Int) : Builtin.Int.intBits i = if i = 0 then 0 else i.natAbs.log2 + 1 := by
  unfold Builtin.Int.intBits
  by_cases h : i = 0
  · rw [if_pos h]; simp [h]
  · rw [if_neg h]; simp [h]
theorem ib_lt (i : Int) : i.natAbs < 2 ^ Builtin.Int.intBits i := by
  rw [ib_eq]
  split
  · omega
  · exact Nat.lt_log2_self
theorem ib_le {i : Int} {n : Nat} (h : i.natAbs < 2 ^ n) : Builtin.Int.intBits i ≤ n := PyProof.Rows.intBits_le h
theorem ib_ge {i : Int} (h : i ≠ 0) : 2 ^ (Builtin.Int.intBits i - 1) ≤ i.natAbs := by
  rw [ib_eq, if_neg h]
  exact Nat.log2_self_le (by omega)
theorem ib_pos {i : Int} (h : i ≠ 0) : 0 < Builtin.Int.intBits i := by rw [ib_eq, if_neg h]; omega
theorem ib_iff {i : Int} {n : Nat} (h1 : 2 ^ n ≤ i.natAbs) (h2 : i.natAbs < 2 ^ (n + 1)) : Builtin.Int.intBits i = n + 1 := by
  have a := ib_le h2
  have b := ib_lt i
  have : n < Builtin.Int.intBits i := by
    rcases Nat.lt_or_ge n (Builtin.Int.intBits i) with h | h
    · exact h
    · have := Nat.pow_le_pow_right (show 0 < 2 by decide) h
      omega
  omega
theorem ib_pow (v : Nat) : Builtin.Int.intBits ((2 : Int) ^ v) = v + 1 := by
  refine ib_iff ?_ ?_
  · rw [Int.natAbs_pow]; exact Nat.le_refl _
  · rw [Int.natAbs_pow]; exact Nat.pow_lt_pow_right (by decide) (by omega)
theorem odd_ne {m : Int} (h : m % 2 = 1) : m ≠ 0 := by omega
/-- the split is the only one -/
theorem odd_uniq {m m' : Int} {v v' : Nat} (h : m * 2 ^ v = m' * 2 ^ v') (o : m % 2 = 1) (o' : m' % 2 = 1) : m = m' ∧ v = v' := by
  have key : ∀ {m m' : Int} {v d : Nat}, m * 2 ^ v = m' * 2 ^ (v + d) → m % 2 = 1 → d = 0 := fun {m m' v d} h o => by
    cases d with
    | zero => rfl
    | succ d =>
      have hp : (2 : Int) ^ v ≠ 0 := by have := @pow_pos' v; omega
      have e : m = m' * 2 ^ (d + 1) := by
        apply Int.eq_of_mul_eq_mul_right hp
        rw [h, Int.mul_assoc, ← Int.pow_add, Nat.add_comm]
      rw [Int.pow_succ] at e
      have : m = 2 * (m' * 2 ^ d) := by grind
      omega
  rcases Nat.le_total v v' with hv | hv
  · obtain ⟨d, rfl⟩ := Nat.exists_eq_add_of_le hv
    have hd := key h o
    subst hd
    exact ⟨Int.eq_of_mul_eq_mul_right (by have := @pow_pos' v; omega) h, rfl⟩
  · obtain ⟨d, rfl⟩ := Nat.exists_eq_add_of_le hv
    have hd := key h.symm o'
    subst hd
    rw [Nat.add_zero] at h
    exact ⟨Int.eq_of_mul_eq_mul_right (by have := @pow_pos' v'; omega) h, rfl⟩
end Tl

/-! Plain mathematics: numbers of a width, placed ratios. -/
namespace Tl
open PySem L2
theorem two_pairs {a b c d : Int} {x : Dt} {i : Nat} (h : [Dt.tup [.int a, .int b], .tup [.int c, .int d]][i]? = some x) : ∃ u v, x = .tup [.int u, .int v] ∧ ((u = a ∧ v = b) ∨ (u = c ∧ v = d)) := by
  rcases two_of h with rfl | rfl
  · exact ⟨a, b, rfl, .inl ⟨rfl, rfl⟩⟩
  · exact ⟨c, d, rfl, .inr ⟨rfl, rfl⟩⟩
theorem gcd_step {a b : Int} : Int.gcd b (a - a / b * b) = Int.gcd a b := by rw [Int.gcd_sub_mul_right_right, Int.gcd_comm]
theorem gcd_step2 {a b : Int} : Int.gcd b (a % b) = Int.gcd a b := by
  have : a % b = a - a / b * b := by rw [Int.emod_def, Int.mul_comm]
  rw [this, gcd_step]
theorem step_lt {a b : Int} (hb : 0 < b) : 0 ≤ a - a / b * b ∧ a - a / b * b < b := by
  have e : a - a / b * b = a % b := by rw [Int.emod_def, Int.mul_comm]
  rw [e]
  exact ⟨Int.emod_nonneg a (by omega), Int.emod_lt_of_pos a hb⟩
theorem sz_gcd {n : Nat} {a b : Int} (h : Sz n b) (hb : b ≠ 0) : Sz n (Int.gcd a b : Int) := by
  have h1 := h.un
  have : Int.gcd a b ≤ b.natAbs := Nat.gcd_le_right _ (by omega)
  exact Sz.lit (by omega)
theorem gcd_pos' {a b : Int} (hb : b ≠ 0) : 0 < (Int.gcd a b : Int) := by
  have := Int.gcd_pos_of_ne_zero_right a hb
  omega
theorem gcd_pow2 {a : Int} (h : a % 2 = 1) (n : Nat) : Int.gcd a (2 ^ n) = 1 := by
  have h2 : Nat.Coprime a.natAbs 2 := by
    have : a.natAbs % 2 = 1 := by omega
    rw [Nat.coprime_comm]
    unfold Nat.Coprime
    rw [Nat.gcd_rec, this]; rfl
  have := Nat.Coprime.pow_right n h2
  unfold Int.gcd
  rw [Int.natAbs_pow]
  exact this
/-- top and under, scaled by a power -/
def TT (t p : Int) : Int := t * 2 ^ (max 0 (0 - p)).toNat
def UU (u p : Int) : Int := u * 2 ^ (max 0 p).toNat
theorem UU_pos {u p : Int} (h : 0 < u) : 0 < UU u p := Int.mul_pos h pow_pos'
theorem TT_pos {u p : Int} (h : 0 < u) : 0 < TT u p := Int.mul_pos h pow_pos'
theorem TU_step (t u p : Int) : (TT t (p - 1) = 2 * TT t p ∧ UU u (p - 1) = UU u p) ∨ (TT t (p - 1) = TT t p ∧ UU u p = 2 * UU u (p - 1)) := by
  unfold TT UU
  by_cases h : p ≤ 0
  · left
    obtain ⟨n, hn⟩ := Int.eq_ofNat_of_zero_le (show 0 ≤ 0 - p by omega)
    have e1 : (max 0 (0 - p)).toNat = n := by omega
    have e2 : (max 0 (0 - (p - 1))).toNat = n + 1 := by omega
    have e3 : (max 0 p).toNat = 0 := by omega
    have e4 : (max 0 (p - 1)).toNat = 0 := by omega
    rw [e1, e2, e3, e4]
    constructor <;> grind
  · right
    obtain ⟨n, hn⟩ := Int.eq_ofNat_of_zero_le (show 0 ≤ p - 1 by omega)
    have e1 : (max 0 (0 - p)).toNat = 0 := by omega
    have e2 : (max 0 (0 - (p - 1))).toNat = 0 := by omega
    have e3 : (max 0 p).toNat = n + 1 := by omega
    have e4 : (max 0 (p - 1)).toNat = n := by omega
    rw [e1, e2, e3, e4]
    constructor <;> grind
/-- what a placed ratio is -/
structure Plc (top under w wh lf pt p : Int) : Prop where
  lo : 2 ^ (w - 1).toNat ≤ wh
  hi : wh < 2 ^ w.toNat
  le : wh * UU under p ≤ TT top p
  lt : TT top p < (wh + 1) * UU under p
  pos : 0 < lf ↔ wh * UU under p < TT top p
  gt : pt < 2 * lf ↔ (2 * wh + 1) * UU under p < 2 * TT top p
  eq : 2 * lf = pt ↔ (2 * wh + 1) * UU under p = 2 * TT top p
theorem plc_mk {top under w T U p : Int} {c : Int} (hc : c = 1 ∨ c = 2) (hT : T = c * TT top p) (hU : U = c * UU under p) (hu : 0 < under) (hlo : 2 ^ (w - 1).toNat * U ≤ T) (hhi : T < 2 ^ w.toNat * U) : Plc top under w (T / U) (T % U) U p := by
  have hUp := @UU_pos under p hu
  have hU0 : 0 < U := by rcases hc with rfl | rfl <;> omega
  have d := Int.mul_ediv_add_emod T U
  have m0 := Int.emod_nonneg T (show U ≠ 0 by omega)
  have m1 := Int.emod_lt_of_pos T hU0
  have q1 : 2 ^ (w - 1).toNat ≤ T / U := Int.le_ediv_of_mul_le hU0 hlo
  have q2 : T / U < 2 ^ w.toNat := Int.ediv_lt_of_lt_mul hU0 hhi
  generalize T / U = wh at *
  generalize T % U = lf at *
  have e : U * wh = c * (wh * UU under p) := by rw [hU]; grind
  have e2 : (wh + 1) * UU under p = wh * UU under p + UU under p := by grind
  have e3 : (2 * wh + 1) * UU under p = 2 * (wh * UU under p) + UU under p := by grind
  rw [e] at d
  rcases hc with rfl | rfl
  · exact ⟨q1, q2, by omega, by omega, by omega, by omega, by omega⟩
  · exact ⟨q1, q2, by omega, by omega, by omega, by omega, by omega⟩
/-- binary digits of a ratio -/
theorem plc_bounds {top under w p : Int} (ht : 0 < top) (hu : 0 < under) (hw : 1 ≤ w) (hp : p = (Builtin.Int.intBits top : Int) - (Builtin.Int.intBits under : Int) - w) :
    2 ^ (w - 1).toNat * UU under p ≤ TT top p ∧ TT top p < 2 * (2 ^ w.toNat * UU under p) := by
  have a0 := ib_pos (show top ≠ 0 by omega)
  have b0 := ib_pos (show under ≠ 0 by omega)
  have a1 := ib_ge (show top ≠ 0 by omega)
  have a2 := ib_lt top
  have b1 := ib_ge (show under ≠ 0 by omega)
  have b2 := ib_lt under
  obtain ⟨a, ha⟩ := Nat.exists_eq_add_of_le a0
  obtain ⟨b, hb⟩ := Nat.exists_eq_add_of_le b0
  obtain ⟨k, hk⟩ := Int.eq_ofNat_of_zero_le (show 0 ≤ w - 1 by omega)
  have c := PySem.W.kbt_cast
  rw [ha] at a1 a2 hp
  rw [hb] at b1 b2 hp
  have e1 : (w - 1).toNat = k := by omega
  have e2 : w.toNat = k + 1 := by omega
  rw [e1, e2]
  rw [show 0 + 1 + a - 1 = a by omega] at a1
  rw [show 0 + 1 + b - 1 = b by omega] at b1
  rw [show 0 + 1 + a = a + 1 by omega] at a2
  rw [show 0 + 1 + b = b + 1 by omega] at b2
  have A1 : (2 : Int) ^ a ≤ top := by have := c a; omega
  have A2 : top < 2 * 2 ^ a := by have := c (a + 1); rw [Int.pow_succ] at this; omega
  have B1 : (2 : Int) ^ b ≤ under := by have := c b; omega
  have B2 : under < 2 * 2 ^ b := by have := c (b + 1); rw [Int.pow_succ] at this; omega
  unfold TT UU
  by_cases h : 0 < p
  · obtain ⟨n, hn⟩ := Int.eq_ofNat_of_zero_le (show 0 ≤ p by omega)
    have f1 : (max 0 (0 - p)).toNat = 0 := by omega
    have f2 : (max 0 p).toNat = n := by omega
    have f3 : a = b + k + 1 + n := by omega
    rw [f1, f2]
    have g : (2 : Int) ^ a = 2 ^ b * (2 * (2 ^ k * 2 ^ n)) := by rw [f3]; grind
    have hk0 : (0 : Int) < 2 ^ k * 2 ^ n := Int.mul_pos pow_pos' pow_pos'
    have r1 : 2 ^ k * (under * 2 ^ n) = under * (2 ^ k * 2 ^ n) := by grind
    have r2 : 2 * (2 ^ (k + 1) * (under * 2 ^ n)) = 4 * (under * (2 ^ k * 2 ^ n)) := by grind
    rw [r1, r2]
    generalize (2 : Int) ^ k * 2 ^ n = y at *
    have l1 := Int.mul_le_mul_of_nonneg_right B1 (Int.le_of_lt hk0)
    have l2 := Int.mul_lt_mul_of_pos_right B2 hk0
    have g2 : (2 : Int) ^ b * (2 * y) = 2 * (2 ^ b * y) := by grind
    have g3 : 2 * (2 : Int) ^ b * y = 2 * (2 ^ b * y) := by grind
    rw [g2] at g; rw [g3] at l2
    constructor
    · rw [Int.pow_zero, Int.mul_one]; omega
    · rw [Int.pow_zero, Int.mul_one]; omega
  · obtain ⟨n, hn⟩ := Int.eq_ofNat_of_zero_le (show 0 ≤ 0 - p by omega)
    have f1 : (max 0 (0 - p)).toNat = n := by omega
    have f2 : (max 0 p).toNat = 0 := by omega
    have f3 : a + n = b + k + 1 := by omega
    rw [f1, f2]
    have g : (2 : Int) ^ a * 2 ^ n = 2 * (2 ^ b * 2 ^ k) := by rw [← Int.pow_add, f3]; grind
    have hn0 : (0 : Int) < 2 ^ n := pow_pos'
    have hk0 : (0 : Int) < 2 ^ k := pow_pos'
    have l1 := Int.mul_le_mul_of_nonneg_right A1 (Int.le_of_lt hn0)
    have l2 := Int.mul_lt_mul_of_pos_right A2 hn0
    have l3 := Int.mul_le_mul_of_nonneg_right B1 (Int.le_of_lt hk0)
    have l4 := Int.mul_lt_mul_of_pos_right B2 hk0
    rw [Int.pow_zero, Int.mul_one]
    have r1 : 2 ^ k * under = under * 2 ^ k := Int.mul_comm _ _
    have r2 : 2 * (2 ^ (k + 1) * under) = 4 * (under * 2 ^ k) := by grind
    have g3 : 2 * (2 : Int) ^ b * 2 ^ k = 2 * (2 ^ b * 2 ^ k) := by grind
    have g4 : 2 * (2 : Int) ^ a * 2 ^ n = 2 * (2 ^ a * 2 ^ n) := by grind
    rw [r1, r2]
    rw [g3] at l4; rw [g4] at l2
    constructor <;> omega
section
variable {X : Cx} {W : XK} {δ : DS} {e c : Expr} {p : Prop} {pos pos' pos1 : Pos} {P : Post} {x : Str} {i : Nat}
theorem s1_asgB {n : Bool} (he : EE X δ e (.bl n)) (k : ∀ m : Bool, m = n → P.nx (δ.set i (some (.val (.bl m))))) (hN : X.N.Nodup) (hi : X.N[i]? = some x) (hx : Loc X.env.scope x) (hs : swapsWith e (some (.Name x pos')) pos.line X.env = pure false := by rfl) (hf : X.fn x = true ∨ X.env.scope.names.lookup x = some .local := by first | exact .inl rfl | exact .inr rfl | assumption) :
    S1 X W δ (.Assign [.Name x pos'] e pos) P := s1_asg he (k n rfl) hN hi hx hs hf
end
theorem two_intsI {a b : Int} {x : Dt} {i : Nat} (h : [Dt.int a, .int b][i]? = some x) : ∃ z, x = .int z ∧ ((i = 0 ∧ z = a) ∨ (i = 1 ∧ z = b)) := by
  match i, h with
  | 0, h => exact ⟨a, (Option.some.inj h).symm, .inl ⟨rfl, rfl⟩⟩
  | 1, h => exact ⟨b, (Option.some.inj h).symm, .inr ⟨rfl, rfl⟩⟩
/-- a neighbour that is nearer -/
def badN (size scale far : Int) (even : Bool) (z : Int) : Prop := ((size - z * scale).natAbs : Int) < far ∨ (((size - z * scale).natAbs : Int) = far ∧ ¬ (even = true))
instance {size scale far : Int} {even : Bool} {z : Int} : Decidable (badN size scale far even z) := by unfold badN; exact inferInstance
end Tl

/-! Loops over a range with a step. -/
namespace Tl
open PySem L2
section
variable {X : Cx} {W : XK} {δ : DS} {tg a b e : Expr} {pos : Pos} {P : Post}
theorem s1_forR3 {body : List Stmt} {pp cp : Pos} {m n c : Int} {N : Nat} (ha : EE X δ a (.int m)) (hb0 : EE X δ b (.int n)) (he : EE X δ e (.int c)) (hb : RgC m n c N) (I : Nat → DS → Prop) (h0 : I 0 δ)
    (hs : ∀ (i : Nat) δ1, i < N → I i δ1 → ∃ js δ2, GT X δ1 tg (.int (m + (i : Int) * c)) js δ2 ∧ SS X W δ2 body { P with nx := I (i + 1), ct := I (i + 1), bk := P.nx }) (hd : ∀ δ1, I N δ1 → P.nx δ1)
    (hc : X.calm = true) (hg : Gl X "range") (hm : X.mg "range" = none)
    (hst3 : starEach [a, b, e] X.env = (false, eval a X.env) :: starEach [b, e] X.env := by rfl) (hst4 : starEach [b, e] X.env = (false, eval b X.env) :: starEach [e] X.env := by rfl) (hst5 : starEach [e] X.env = (false, eval e X.env) :: starEach [] X.env := by rfl)
    (hpl : (backTo cp (starEach [b, e] X.env)).any (·.1) = false := by rfl)
    (hfold : ∀ x, foldedSetIterable (.Call (.Name "range" pp) [a, b, e] [] cp) X.env x = pure x := by intro _; rfl)
    (hp : PassesOwn (model X.prog X.w) X.A X.env X.xe := by exact PassesOwn.never) : S1 X W δ (.For tg (.Call (.Name "range" pp) [a, b, e] [] cp) body [] pos) P := fun Hf0 H0 Hf H σ D r k => by
  refine goS (ps_for hp hc (pi_range3 hg hm (pa_cons pe_w (pa_cons pe_w (pa_cons pe_w pa_nil hst5) hst4) hst3) hst3 hpl) pg_w pss_w hfold) (ha _ _ _ _ _ _ r fun u Hf0 H0 g0 ru => hb0 _ _ _ _ _ _ (r.grow g0) fun v Hf1 H1 g1 rv => he _ _ _ _ _ _ ((r.grow g0).grow g1) fun z Hf2 H2 g2 rz => ?_)
  cases ru; cases rv; cases rz
  refine ⟨m, n, c, N, rfl, hb, for_rangeC (lo := m) (c := c) (n := N) (fun i σ' H' => ∃ Hf' δ1, I i δ1 ∧ SR X.K _ _ Hf' H' σ' δ1) ⟨Hf2, δ, h0, ((r.grow g0).grow g1).grow g2⟩ (fun i σ' H' hi ⟨Hf', δ1, i1, r1⟩ => ?_) fun σ' H' ⟨Hf', δ1, i1, r1⟩ => k.nx _ _ _ _ (hd δ1 i1) r1⟩
  obtain ⟨js, δ2, ht, hb2⟩ := hs i δ1 hi i1
  exact ht _ _ _ _ _ _ _ r1 (.int _) fun σ2 s2 _ => hb2 _ _ _ _ _ _ s2 ⟨fun δ3 σ3 Hf3 H3 h3 r3 => ⟨Hf3, δ3, h3, r3⟩, k.rt, k.nx, fun δ3 σ3 Hf3 H3 h3 r3 => ⟨Hf3, δ3, h3, r3⟩, k.ex⟩
end
theorem RgC.up {n c : Int} (hn : 0 ≤ n) (hn2 : n < 1000000) (hc : 1 ≤ c) (hc2 : c < 1000) : RgC 0 n c ((n + c - 1) / c).toNat := by
  have e := PyProof.Rows.rangeSize_pos hc hn
  have d0 : 0 ≤ (n + c - 1) / c := Int.ediv_nonneg (by omega) (by omega)
  have d1 : (n + c - 1) / c ≤ n + c - 1 := Int.ediv_le_self _ (by omega)
  refine ⟨by omega, by omega, ?_, by rw [e]; omega⟩
  unfold Builtin.Range.small
  rw [e]
  simp only [Builtin.Range.rangeFitsLong, Bool.and_eq_true, Bool.or_eq_true, decide_eq_true_eq, beq_iff_eq]
  have hcp : c > 0 := by omega
  rw [if_pos hcp]
  generalize (n + c - 1) / c = q at *
  have p63 : (2 : Int) ^ 63 = 9223372036854775808 := by decide
  rw [p63]
  refine ⟨⟨⟨⟨by omega, by omega⟩, by omega⟩, by omega⟩, .inr ?_⟩
  first | omega | (simp only [Bool.and_eq_true, decide_eq_true_eq]; omega)
end Tl

/-! Plain mathematics: ratios as rationals. -/
namespace Tl
open PySem L2
/-- the rational of a pair -/
def rat (n : Int × Int) : Rat := (n.1 : Rat) / (n.2 : Rat)
/-- the pair of a rational, told whole -/
def canon (q : Rat) : Int × Int := (q.num, (q.den : Int))
def IsRt (n : Int × Int) : Prop := canon (rat n) = n
theorem rat_canon (q : Rat) : rat (canon q) = q := by
  unfold rat canon
  dsimp only
  rw [← Rat.divInt_eq_div]
  exact Rat.num_divInt_den q
theorem isRt_canon (q : Rat) : IsRt (canon q) := by unfold IsRt; rw [rat_canon]
theorem canon_pos (q : Rat) : 0 < (canon q).2 := by
  have := q.den_pos
  unfold canon; dsimp only; omega
theorem IsRt.pos {n : Int × Int} (h : IsRt n) : 0 < n.2 := by rw [← h]; exact canon_pos _
theorem canon_inj {p q : Rat} (h : canon p = canon q) : p = q := by rw [← rat_canon p, h, rat_canon]
theorem cast_ne {a : Int} (h : a ≠ 0) : (a : Rat) ≠ 0 := by
  intro z
  exact h (Rat.intCast_eq_zero_iff.mp z)
/-- told whole, by division by the greatest common divisor -/
theorem canon_div {t u g : Int} (hu : u ≠ 0) (hg : g = if u < 0 then 0 - (Int.gcd t u : Int) else (Int.gcd t u : Int)) : (Int.fdiv t g, Int.fdiv u g) = canon ((t : Rat) / (u : Rat)) := by
  unfold canon
  rw [← Rat.divInt_eq_div, Rat.num_divInt, Rat.den_divInt, if_neg hu]
  have hp : 0 < (Int.gcd t u : Int) := by
    have := Int.gcd_pos_of_ne_zero_right t hu; omega
  have d1 : (Int.gcd t u : Int) ∣ t := Int.gcd_dvd_left ..
  have d2 : (Int.gcd t u : Int) ∣ u := Int.gcd_dvd_right ..
  rw [Int.gcd_comm u t, Int.natCast_ediv]
  have hgne : g ≠ 0 := by split at hg <;> omega
  have dg1 : g ∣ t := by
    rw [hg]; split
    · rw [Int.zero_sub]; exact Int.neg_dvd.mpr d1
    · exact d1
  have dg2 : g ∣ u := by
    rw [hg]; split
    · rw [Int.zero_sub]; exact Int.neg_dvd.mpr d2
    · exact d2
  rw [Int.fdiv_eq_ediv_of_dvd dg1, Int.fdiv_eq_ediv_of_dvd dg2]
  by_cases h : u < 0
  · rw [if_pos h] at hg
    rw [hg, Int.zero_sub, Int.ediv_neg, Int.ediv_neg, Int.sign_eq_neg_one_of_neg h]
    have e : (u.natAbs : Int) = -u := by omega
    rw [e, Int.neg_one_mul, Int.neg_ediv_of_dvd d1, Int.neg_ediv_of_dvd d2]
  · rw [if_neg h] at hg
    rw [hg, Int.sign_eq_one_of_pos (by omega), Int.one_mul]
    have e : (u.natAbs : Int) = u := by omega
    rw [e]
theorem rat_add {a b c d : Int} (hb : b ≠ 0) (hd : d ≠ 0) : ((a * d + c * b : Int) : Rat) / ((b * d : Int) : Rat) = rat (a, b) + rat (c, d) := by
  have h1 := cast_ne hb
  have h2 := cast_ne hd
  unfold rat
  dsimp only
  rw [Rat.intCast_add, Rat.intCast_mul, Rat.intCast_mul, Rat.intCast_mul]
  grind
theorem rat_sub {a b c d : Int} (hb : b ≠ 0) (hd : d ≠ 0) : ((a * d - c * b : Int) : Rat) / ((b * d : Int) : Rat) = rat (a, b) - rat (c, d) := by
  have h1 := cast_ne hb
  have h2 := cast_ne hd
  unfold rat
  dsimp only
  rw [Rat.intCast_sub, Rat.intCast_mul, Rat.intCast_mul, Rat.intCast_mul]
  grind
theorem rat_mul {a b c d : Int} : ((a * c : Int) : Rat) / ((b * d : Int) : Rat) = rat (a, b) * rat (c, d) := by
  unfold rat
  dsimp only
  rw [Rat.intCast_mul, Rat.intCast_mul]
  grind
theorem rat_div {a b c d : Int} (hd : d ≠ 0) : ((a * d : Int) : Rat) / ((b * c : Int) : Rat) = rat (a, b) / rat (c, d) := by
  have h2 := cast_ne hd
  unfold rat
  dsimp only
  rw [Rat.intCast_mul, Rat.intCast_mul]
  grind
/-- order, crosswise -/
theorem rat_lt {a b c d : Int} (hb : 0 < b) (hd : 0 < d) : rat (a, b) < rat (c, d) ↔ a * d < c * b := by
  have h1 : (0 : Rat) < (b : Rat) := Rat.intCast_pos.mpr hb
  have h2 : (0 : Rat) < (d : Rat) := Rat.intCast_pos.mpr hd
  unfold rat
  dsimp only
  rw [Rat.div_lt_iff h1]
  have e : (c : Rat) / (d : Rat) * (b : Rat) = ((c * b : Int) : Rat) / (d : Rat) := by rw [Rat.intCast_mul]; grind
  rw [e, Rat.lt_div_iff h2, ← Rat.intCast_mul, Rat.intCast_lt_intCast]
theorem rat_eq {a b c d : Int} (hb : 0 < b) (hd : 0 < d) : rat (a, b) = rat (c, d) ↔ a * d = c * b := by
  have l1 := @rat_lt a b c d hb hd
  have l2 := @rat_lt c d a b hd hb
  constructor
  · intro h
    rw [h] at l1 l2
    have ir := Rat.lt_irrefl (a := rat (c, d))
    rcases Int.lt_trichotomy (a * d) (c * b) with q | q | q
    · exact absurd (l1.mpr q) ir
    · exact q
    · exact absurd (l2.mpr q) ir
  · intro h
    have h1 := cast_ne (show b ≠ 0 by omega)
    have h2 := cast_ne (show d ≠ 0 by omega)
    have h3 : (a : Rat) * d = c * b := by rw [← Rat.intCast_mul, ← Rat.intCast_mul, h]
    unfold rat
    dsimp only
    grind
theorem q_lt1 (p q r : Rat) : q + r < p + r ↔ q < p := ⟨fun h => by grind, fun h => by grind⟩
theorem q_lt2 (p q : Rat) : 0 - q < 0 - p ↔ p < q := ⟨fun h => by grind, fun h => by grind⟩
theorem rat01 : rat (0, 1) = 0 := by
  have : ((0 : Int) : Rat) = 0 := rfl
  unfold rat; dsimp only; rw [this]; grind
theorem q_eq_of (p q : Rat) (h : ¬ q < p) (k : ¬ p < q) : p = q := by grind
end Tl

/-! min(list of ints, default=int). -/
namespace Tl
open PySem L2 PySem.W
/-- the least of a list, else d -/
def minD (d : Int) : List Int → Int
  | [] => d
  | y :: ys => minOf y ys
theorem hold_ints {h : Heap} : ∀ {vs : List Value} {ns : List Int}, PyProof.Rows.IntsAre vs ns → HoldAll h vs ns
  | _, _, .nil => HoldAll.nil
  | _, _, .cons n t r => HoldAll.cons (holds_int n t) (hold_ints r)
theorem hold_int {h : Heap} {v : Value} {n : Int} (H : Holds h v n) : ∃ t, v = .int n t := by
  obtain ⟨as, r⟩ := H
  cases r
  exact ⟨_, rfl⟩
def rMinD (K : PySem.W.Frag) : List V → List V → Hp → VK → Prop := fun vs zs H Q => ∃ (a : Addr) (ns : List Int) (d : Int), vs = [V.ref a] ∧ zs = [V.int d] ∧ SqL K H a (ns.map V.int) ∧ Q (.int (minD d ns)) H
theorem cr_minDef {X : Cx} (hc : X.calm = true) (hu : X.A.units + 64 < cLine) : CallRK X (.builtin "min") [Str.ofString "default"] (rMinD X.K) := by
  intro pins s σ H vs zs us ws Q I r rz h
  obtain ⟨a, ns, d, rfl, rfl, hs, q⟩ := h
  obtain ⟨its, rv, hl, _⟩ := I.list hs
  obtain rfl := Vals.ref1 r
  cases rz with
  | cons z1 z2 =>
    cases z2
    obtain ⟨td, rfl⟩ := z1
    refine min_list_datum_default (xs := ns) (I.ok.hd hc) hl.isList (hold_ints rv.ints) (by show X.A.units + 1 + 0 < cLine; omega) (fun e h' tk hk => ?_) (fun y ys i v h' tk e hi H' hk => ?_)
    · subst e
      exact ⟨.int _, H, I.kept hk, ⟨_, rfl⟩, q⟩
    · subst e
      obtain ⟨t, rfl⟩ := hold_int H'
      exact ⟨.int _, H, I.kept hk, ⟨_, rfl⟩, q⟩
section
variable {X : Cx} {δ : DS} {a e : Expr}
/-- min(list of ints, default=int) -/
theorem ee_minDef {ns : List Int} {n : Int} {pp pos kp : Pos} {nm : Option Str} (ha : EE X δ a (.lst (ns.map Dt.int))) (he : EE X δ e (.int n)) (hg : Gl X "min") (hm : X.mg "min" = none) (hc : X.calm = true) (hu : X.A.units + 64 < cLine)
    (hst : starEach [a] X.env = (false, eval a X.env) :: starEach [] X.env := by rfl)
    (h1 : backTo pos (starEach [a] X.env) = (false, eval a X.env) :: backTo pos (starEach [] X.env) := by rfl) (hpl : (backTo pos (starEach [a] X.env)).any (·.1) = false := by rfl)
    (hall : (backToKw pos (keywordEach [⟨nm, e, kp⟩] X.env)).all (·.1.isSome) = true := by rfl) (hnone : (backToKw pos (keywordEach [⟨nm, e, kp⟩] X.env)).any (·.1.isNone) = false := by rfl) (hks : (backToKw pos (keywordEach [⟨nm, e, kp⟩] X.env)).filterMap (·.1) = [Str.ofString "default"] := by rfl) :
    EE X δ (.Call (.Name "min" pp) [a] [⟨nm, e, kp⟩] pos) (.int (minD n ns)) := fun Hf0 H0 Hf H σ Q r k => by
  refine goE (pe_callBK (cr_minDef hc hu) hg hm (by decide +kernel) (pa_cons pe_w pa_nil hst) (pk_cons pe_w pk_nil) (by decide) (by decide) h1 hpl hall hnone hks) ?_
  refine ha _ _ _ _ _ _ r fun v Hf1 H1 g1 rv => ?_
  refine he _ _ _ _ _ _ (r.grow g1) fun z Hf2 H2 g2 rz => ?_
  cases rz
  have rv2 := rv.mono g2.f
  show rMinD X.K [v] [V.int n] H2 Q
  cases rv2 with
  | @lst p us _ hp hu =>
    have e := hu.ints
    subst e
    exact ⟨p, ns, n, rfl, rfl, SqL.of (((r.grow g1).grow g2).g.s _ _ hp), k _ Hf2 H2 (g1.trans g2) (.int _)⟩
end
end Tl

/-! List comprehensions over a list, one name, no test. -/
namespace Tl
open PySem L2
section
variable {X : Cx} {δ : DS} {iter elt : Expr} {scope : Scope} {x : Str} {i : Nat} {pos : Pos}
theorem lc_map {α β : Type} (f : α → Dt) (g : α → β) (h : β → Dt) {l : List α} (he : EE X δ iter (.lst (l.map f))) (ok : blkC X.N X.env.scope scope [(x, i)] = true) (hz : l.length ≤ 1000000)
    (hN : X.N.Nodup) (hi : X.N[i]? = some x) (hx : Loc (relabel scope X.env) x) (hf : (relabel scope X.env).names.lookup x = some .local)
    (hb : ∀ a ∈ l, Blk X scope fun X' => EE X' ((wipeD δ [i]).set i (some (.val (f a)))) elt (h (g a))) : LC X δ elt (.Name x pos) iter [] scope [(x, i)] ((l.map g).map h) := by
  have q := lc_L (tg := .Name x pos) (elt := elt) (ifs := []) he (blkOk_by ok) (fun j => ((l.take j).map g).map h) rfl (by rw [List.length_map]; exact hz) (fun j y hy => by
    rw [List.getElem?_map] at hy
    obtain ⟨a, ha, e⟩ := Option.map_eq_some_iff.mp hy
    subst e
    refine ⟨True, h (g a), ⟨[i], (wipeD δ [i]).set i (some (.val (f a))), by simp, fun s H C cl fp => ⟨gt_name hN hi hx (.inr hf), ets_nil, fun _ => hb a (List.mem_of_getElem? ha) s H C cl fp⟩⟩, fun _ => ?_, fun z => absurd trivial z⟩
    rw [List.take_succ, ha, Option.toList_some, List.map_append, List.map_append]; rfl)
  have e : l.take (l.map f).length = l := by rw [List.length_map, List.take_length]
  rw [e] at q
  exact q
end
theorem minOf_le : ∀ (ys : List Int) (y : Int), PySem.W.minOf y ys ≤ y ∧ (∀ z ∈ ys, PySem.W.minOf y ys ≤ z) ∧ (PySem.W.minOf y ys = y ∨ PySem.W.minOf y ys ∈ ys)
  | [], y => by
    have e : PySem.W.minOf y ([] : List Int) = y := rfl
    rw [e]
    exact ⟨Int.le_refl _, fun _ h => (List.not_mem_nil h).elim, .inl rfl⟩
  | z :: zs, y => by
    have e : PySem.W.minOf y (z :: zs) = PySem.W.minOf (if z < y then z else y) zs := by
      unfold PySem.W.minOf
      show List.foldl _ (if PySem.W.DatumOrd.lt z y then z else y) zs = _
      show List.foldl _ (if decide (z < y) = true then z else y) zs = _
      by_cases h : z < y
      · rw [decide_eq_true h, if_pos rfl, if_pos h]
      · rw [decide_eq_false h, if_neg Bool.false_ne_true, if_neg h]
    obtain ⟨h1, h2, h3⟩ := minOf_le zs (if z < y then z else y)
    rw [e]
    by_cases h : z < y
    · rw [if_pos h] at h1 h2 h3 ⊢
      refine ⟨by omega, fun a ha => ?_, ?_⟩
      · rcases List.mem_cons.mp ha with q | q
        · omega
        · exact h2 a q
      · rcases h3 with q | q
        · exact .inr (by rw [q]; exact List.mem_cons_self)
        · exact .inr (List.mem_cons_of_mem _ q)
    · rw [if_neg h] at h1 h2 h3 ⊢
      refine ⟨by omega, fun a ha => ?_, ?_⟩
      · rcases List.mem_cons.mp ha with q | q
        · omega
        · exact h2 a q
      · rcases h3 with q | q
        · exact .inl q
        · exact .inr (List.mem_cons_of_mem _ q)
theorem minD_le {d : Int} {l : List Int} {y : Int} (h : y ∈ l) : minD d l ≤ y := by
  cases l with
  | nil => cases h
  | cons z zs =>
    obtain ⟨h1, h2, _⟩ := minOf_le zs z
    rcases List.mem_cons.mp h with e | e
    · rw [e]; exact h1
    · exact h2 y e
theorem minD_mem {d : Int} {l : List Int} (h : l ≠ []) : minD d l ∈ l := by
  cases l with
  | nil => exact absurd rfl h
  | cons z zs =>
    rcases (minOf_le zs z).2.2 with e | e
    · show PySem.W.minOf z zs ∈ _
      rw [e]; exact List.mem_cons_self
    · exact List.mem_cons_of_mem _ e
end Tl

/-! Plain mathematics: values of numbers and placed ratios, as rationals. -/
namespace Tl
open PySem L2
theorem q_lt_le {a b c : Rat} (h : a < b) (k : b ≤ c) : a < c := by grind
theorem q_le_lt {a b c : Rat} (h : a ≤ b) (k : b < c) : a < c := by grind
/-- two to a power -/
def e2 (p : Int) : Rat := (2 : Rat) ^ p
theorem e2_pos {p : Int} : 0 < e2 p := Rat.zpow_pos (by decide)
theorem e2_ne {p : Int} : e2 p ≠ 0 := by have := @e2_pos p; intro z; rw [z] at this; exact Rat.lt_irrefl this
theorem e2_add (p q : Int) : e2 (p + q) = e2 p * e2 q := Rat.zpow_add (by decide) p q
theorem e2_nat (n : Nat) : e2 (n : Int) = ((2 ^ n : Int) : Rat) := by
  unfold e2
  rw [Rat.zpow_natCast, Rat.intCast_pow]; rfl
theorem e2_zero : e2 0 = 1 := Rat.zpow_zero 2
theorem e2_succ (p : Int) : e2 (p + 1) = 2 * e2 p := by
  have : e2 1 = 2 := Rat.zpow_one 2
  rw [e2_add, this, Rat.mul_comm]
theorem e2_toNat {p : Int} (h : 0 ≤ p) : ((2 ^ p.toNat : Int) : Rat) = e2 p := by
  rw [← e2_nat, Int.toNat_of_nonneg h]
/-- what a number is worth -/
def val (n : Int × Int) : Rat := (n.1 : Rat) * e2 n.2
theorem cast_le {a b : Int} : ((a : Rat) ≤ (b : Rat)) ↔ a ≤ b := Rat.intCast_le_intCast
theorem cast_lt {a b : Int} : ((a : Rat) < (b : Rat)) ↔ a < b := Rat.intCast_lt_intCast
theorem TU_rat {t u p : Int} (hu : 0 < u) : (TT t p : Rat) * e2 p = rat (t, u) * (UU u p : Rat) := by
  have h := cast_ne (show u ≠ 0 by omega)
  have k : rat (t, u) * (u : Rat) = (t : Rat) := by unfold rat; dsimp only; grind
  unfold TT UU
  rw [Rat.intCast_mul, Rat.intCast_mul]
  by_cases hp : 0 ≤ p
  · have e1 : (max 0 (0 - p)).toNat = 0 := by omega
    have e3 : (max 0 p).toNat = p.toNat := by omega
    rw [e1, e3, e2_toNat hp, ← Rat.mul_assoc, k]
    have : (((2 : Int) ^ 0 : Int) : Rat) = 1 := rfl
    rw [this, Rat.mul_one]
  · have e1 : (max 0 (0 - p)).toNat = (0 - p).toNat := by omega
    have e3 : (max 0 p).toNat = 0 := by omega
    rw [e1, e3, e2_toNat (by omega)]
    have : (((2 : Int) ^ 0 : Int) : Rat) = 1 := rfl
    rw [this, Rat.mul_one, k, Rat.mul_assoc, ← e2_add, show 0 - p + p = 0 by omega, e2_zero, Rat.mul_one]
/-- comparing, scaled -/
theorem cmp_le {a b t u p : Int} (hu : 0 < u) : a * UU u p ≤ b * TT t p ↔ (a : Rat) * e2 p ≤ (b : Rat) * rat (t, u) := by
  have hU : (0 : Rat) < (UU u p : Rat) := Rat.intCast_pos.mpr (UU_pos hu)
  have k := TU_rat (t := t) (p := p) hu
  have he := @e2_pos p
  have s1 : (a : Rat) * (UU u p : Rat) * e2 p = a * e2 p * UU u p := by grind
  have s2 : (b : Rat) * (TT t p : Rat) * e2 p = b * rat (t, u) * UU u p := by rw [Rat.mul_assoc, k, Rat.mul_assoc]
  rw [← cast_le, Rat.intCast_mul, Rat.intCast_mul]
  constructor
  · intro h
    have h2 := Rat.mul_le_mul_of_nonneg_right h (Rat.le_of_lt he)
    rw [s1, s2] at h2
    exact Rat.le_of_mul_le_mul_right h2 hU
  · intro h
    have h2 := Rat.mul_le_mul_of_nonneg_right h (Rat.le_of_lt hU)
    rw [← s1, ← s2] at h2
    exact Rat.le_of_mul_le_mul_right h2 he
theorem cmp_ge {a b t u p : Int} (hu : 0 < u) : b * TT t p ≤ a * UU u p ↔ (b : Rat) * rat (t, u) ≤ (a : Rat) * e2 p := by
  have hU : (0 : Rat) < (UU u p : Rat) := Rat.intCast_pos.mpr (UU_pos hu)
  have k := TU_rat (t := t) (p := p) hu
  have he := @e2_pos p
  have s1 : (a : Rat) * (UU u p : Rat) * e2 p = a * e2 p * UU u p := by grind
  have s2 : (b : Rat) * (TT t p : Rat) * e2 p = b * rat (t, u) * UU u p := by rw [Rat.mul_assoc, k, Rat.mul_assoc]
  rw [← cast_le, Rat.intCast_mul, Rat.intCast_mul]
  constructor
  · intro h
    have h2 := Rat.mul_le_mul_of_nonneg_right h (Rat.le_of_lt he)
    rw [s1, s2] at h2
    exact Rat.le_of_mul_le_mul_right h2 hU
  · intro h
    have h2 := Rat.mul_le_mul_of_nonneg_right h (Rat.le_of_lt hU)
    rw [← s1, ← s2] at h2
    exact Rat.le_of_mul_le_mul_right h2 he
/-- the same for rationals, scaled down by e2 p: comparing wholes -/
theorem e2_le {a b p : Int} : (a : Rat) * e2 p ≤ (b : Rat) * e2 p ↔ a ≤ b := by
  rw [← cast_le]
  exact ⟨fun h => Rat.le_of_mul_le_mul_right h e2_pos, fun h => Rat.mul_le_mul_of_nonneg_right h (Rat.le_of_lt e2_pos)⟩
theorem e2_lt {a b p : Int} : (a : Rat) * e2 p < (b : Rat) * e2 p ↔ a < b := by
  rw [← cast_lt]; exact Rat.mul_lt_mul_right e2_pos
theorem e2_mono {p q : Int} (h : p ≤ q) : e2 p ≤ e2 q := by
  obtain ⟨n, hn⟩ := Int.eq_ofNat_of_zero_le (show 0 ≤ q - p by omega)
  have e : q = p + (n : Int) := by omega
  rw [e, e2_add, e2_nat]
  have h1 : (1 : Int) ≤ 2 ^ n := by have := @pow_pos' n; omega
  have h2 : ((1 : Int) : Rat) ≤ ((2 ^ n : Int) : Rat) := cast_le.mpr h1
  have h3 := Rat.mul_le_mul_of_nonneg_left h2 (Rat.le_of_lt (@e2_pos p))
  have h4 : ((1 : Int) : Rat) = 1 := rfl
  rw [h4, Rat.mul_one] at h3
  exact h3
/-- the place of a rational q > 0: w digits ahead of 2 ^ p -/
def At (w : Int) (q : Rat) (p : Int) : Prop := e2 (w - 1) * e2 p ≤ q ∧ q < e2 w * e2 p
theorem At.uniq {w p p' : Int} {q : Rat} (h : At w q p) (h' : At w q p') : p = p' := by
  have key : ∀ {p p' : Int}, At w q p → At w q p' → ¬ p < p' := fun {p p'} h h' l => by
    have m := e2_mono (show w + p ≤ w - 1 + p' by omega)
    rw [e2_add, e2_add] at m
    exact Rat.lt_irrefl (q_lt_le h.2 (Rat.le_trans m h'.1))
  have a := key h h'
  have b := key h' h
  omega
/-- what a whole in its place is, as rationals -/
theorem Plc.rat {t u w wh lf pt p : Int} (P : Plc t u w wh lf pt p) (hu : 0 < u) (hw : 1 ≤ w) :
    (wh : Rat) * e2 p ≤ Tl.rat (t, u) ∧ Tl.rat (t, u) < ((wh + 1 : Int) : Rat) * e2 p ∧ At w (Tl.rat (t, u)) p ∧
    (0 < lf ↔ (wh : Rat) * e2 p < Tl.rat (t, u)) ∧ (pt < 2 * lf ↔ ((2 * wh + 1 : Int) : Rat) * e2 p < 2 * Tl.rat (t, u)) ∧ (2 * lf = pt ↔ ((2 * wh + 1 : Int) : Rat) * e2 p = 2 * Tl.rat (t, u)) := by
  have le : ∀ a b : Int, a * UU u p ≤ b * TT t p ↔ (a : Rat) * e2 p ≤ (b : Rat) * Tl.rat (t, u) := fun a b => cmp_le hu
  have ge : ∀ a b : Int, b * TT t p ≤ a * UU u p ↔ (b : Rat) * Tl.rat (t, u) ≤ (a : Rat) * e2 p := fun a b => cmp_ge hu
  have c1 : ((1 : Int) : Rat) = 1 := rfl
  have c2 : ((2 : Int) : Rat) = 2 := rfl
  have le1 := le wh 1
  have ge1 := ge wh 1
  have ge2 := ge (wh + 1) 1
  have le2 := le (wh + 1) 1
  have le3 := le (2 * wh + 1) 2
  have ge3 := ge (2 * wh + 1) 2
  rw [c1, Rat.one_mul, Int.one_mul] at le1 ge1 le2 ge2
  rw [c2] at le3 ge3
  have a1 := le1.mp P.le
  have a2 : Tl.rat (t, u) < ((wh + 1 : Int) : Rat) * e2 p := by
    rw [← Rat.not_le]; intro z; have := le2.mpr z; have := P.lt; omega
  refine ⟨a1, a2, ⟨?_, ?_⟩, ?_, ?_, ?_⟩
  · rw [← e2_toNat (show 0 ≤ w - 1 by omega)]
    exact Rat.le_trans (e2_le.mpr P.lo) a1
  · rw [← e2_toNat (show 0 ≤ w by omega)]
    exact q_lt_le a2 (e2_le.mpr (by have := P.hi; omega))
  · rw [P.pos, ← Rat.not_le, ← ge1]; omega
  · rw [P.gt, ← Rat.not_le, ← ge3]; omega
  · rw [P.eq]
    constructor
    · intro h; exact Rat.le_antisymm (le3.mp (by omega)) (ge3.mp (by omega))
    · intro h
      have x1 := le3.mpr (by rw [h]; exact Rat.le_refl)
      have x2 := ge3.mpr (by rw [h]; exact Rat.le_refl)
      omega
theorem two_cast : ((2 : Int) : Rat) = 2 := rfl
theorem At.mono {w p p' : Int} {q q' : Rat} (h : At w q p) (h' : At w q' p') (l : q ≤ q') : p ≤ p' := by
  rcases Int.lt_or_le p' p with k | k
  · exfalso
    have m := e2_mono (show w + p' ≤ w - 1 + p by omega)
    rw [e2_add, e2_add] at m
    exact Rat.lt_irrefl (q_lt_le h'.2 (Rat.le_trans m (Rat.le_trans h.1 l)))
  · exact k
theorem At.pos {w p : Int} {q : Rat} (h : At w q p) : 0 < q := q_lt_le (Rat.mul_pos e2_pos e2_pos) h.1
/-- y 2 ^ p is the number nearest to q > 0 -/
structure NrQ (w : Int) (q : Rat) (y p : Int) : Prop where
  place : At w q p
  lo : 2 ^ (w - 1).toNat ≤ y
  hi : y ≤ 2 ^ w.toNat
  le : 2 * q ≤ ((2 * y + 1 : Int) : Rat) * e2 p
  ge : ((2 * y - 1 : Int) : Rat) * e2 p ≤ 2 * q
  tie1 : 2 * q = ((2 * y + 1 : Int) : Rat) * e2 p → y % 2 = 0
  tie2 : ((2 * y - 1 : Int) : Rat) * e2 p = 2 * q → y % 2 = 0
theorem NrQ.mono {w y p y' p' : Int} {q q' : Rat} (hw : 1 ≤ w) (h : NrQ w q y p) (h' : NrQ w q' y' p') (l : q ≤ q') : p ≤ p' ∧ (p = p' → y ≤ y') := by
  refine ⟨h.place.mono h'.place l, fun e => ?_⟩
  subst e
  have l2 : 2 * q ≤ 2 * q' := Rat.mul_le_mul_of_nonneg_left l (by decide)
  have m := Rat.le_trans h.ge (Rat.le_trans l2 h'.le)
  have m2 := e2_le.mp m
  by_cases k : y ≤ y'
  · exact k
  · exfalso
    have e : 2 * y - 1 = 2 * y' + 1 := by omega
    have a := h.ge
    have b := h'.le
    rw [← e] at b
    have q1 : ((2 * y - 1 : Int) : Rat) * e2 p = 2 * q := Rat.le_antisymm a (Rat.le_trans l2 b)
    have q2 : 2 * q' = ((2 * y' + 1 : Int) : Rat) * e2 p := by rw [← e]; exact Rat.le_antisymm b (Rat.le_trans a l2)
    have := h.tie2 q1
    have := h'.tie1 q2
    omega
theorem NrQ.uniq {w y p y' p' : Int} {q : Rat} (hw : 1 ≤ w) (h : NrQ w q y p) (h' : NrQ w q y' p') : y = y' ∧ p = p' := by
  have a := h.mono hw h' Rat.le_refl
  have b := h'.mono hw h Rat.le_refl
  have e : p = p' := by omega
  exact ⟨by have := a.2 e; have := b.2 e.symm; omega, e⟩
theorem NrQ.val_mono {w y p y' p' : Int} {q q' : Rat} (hw : 1 ≤ w) (h : NrQ w q y p) (h' : NrQ w q' y' p') (l : q ≤ q') : (y : Rat) * e2 p ≤ (y' : Rat) * e2 p' := by
  obtain ⟨m1, m2⟩ := h.mono hw h' l
  by_cases e : p = p'
  · subst e; exact e2_le.mpr (m2 rfl)
  · have h1 : (y : Rat) * e2 p ≤ e2 w * e2 p := by
      rw [← e2_toNat (show 0 ≤ w by omega)]; exact e2_le.mpr h.hi
    have h2 : e2 (w - 1) * e2 p' ≤ (y' : Rat) * e2 p' := by
      rw [← e2_toNat (show 0 ≤ w - 1 by omega)]; exact e2_le.mpr h'.lo
    have m := e2_mono (show w + p ≤ w - 1 + p' by omega)
    rw [e2_add, e2_add] at m
    exact Rat.le_trans h1 (Rat.le_trans m h2)
/-- a whole of w digits is its own nearest -/
theorem NrQ.self {w y p : Int} (hw : 1 ≤ w) (h1 : 2 ^ (w - 1).toNat ≤ y) (h2 : y < 2 ^ w.toNat) : NrQ w ((y : Rat) * e2 p) y p := by
  have hp := @e2_pos p
  have a1 : ((2 * y + 1 : Int) : Rat) = 2 * (y : Rat) + 1 := by rw [Rat.intCast_add, Rat.intCast_mul]; rfl
  have a2 : ((2 * y - 1 : Int) : Rat) = 2 * (y : Rat) - 1 := by rw [Rat.intCast_sub, Rat.intCast_mul]; rfl
  refine ⟨⟨?_, ?_⟩, h1, by omega, ?_, ?_, ?_, ?_⟩
  · rw [← e2_toNat (show 0 ≤ w - 1 by omega)]; exact e2_le.mpr h1
  · rw [← e2_toNat (show 0 ≤ w by omega)]; exact e2_lt.mpr h2
  · rw [a1]; grind
  · rw [a2]; grind
  · rw [a1]; intro z; exfalso; grind
  · rw [a2]; intro z; exfalso; grind
section
variable {X : Cx} {W : XK} {δ : DS} {a b : Expr} {P : Post}
/-- x, y = a, b with plain local names -/
theorem s1_par {i j : Nat} {x y : Str} {d1 d2 : Dt} {px py pt pt2 pos : Pos} {kt k2} (ha : EA X δ [a, b] [d1, d2]) (k : P.nx ((δ.set i (some (.val d1))).set j (some (.val d2)))) (hc : X.calm = true) (hN : X.N.Nodup) (hi : X.N[i]? = some x) (hj : X.N[j]? = some y) (hij : i ≠ j)
    (hx : X.env.scope.names.lookup x = some .local) (hy : X.env.scope.names.lookup y = some .local)
    (hw : swappedStores [.Tuple [.Name x px, .Name y py] kt pt] (.Tuple [a, b] k2 pt2) X.env = pure (some [x, y]) := by rfl)
    (hs : swapsWithSole [.Tuple [.Name x px, .Name y py] kt pt] (.Tuple [a, b] k2 pt2) pos.line X.env = pure false := by rfl) :
    S1 X W δ (.Assign [.Tuple [.Name x px, .Name y py] kt pt] (.Tuple [a, b] k2 pt2) pos) P := fun Hf0 H0 Hf H σ D r c =>
  goS (ps_par hc hN hi hj hij hx hy pa_w hw hs) (ha _ _ _ _ _ _ r fun vs Hf1 H1 g1 rv => by
    cases rv with
    | cons r1 rr =>
      cases rr with
      | cons r2 rr2 =>
        cases rr2
        exact ⟨_, _, rfl, c.nx _ _ _ _ k (((r.grow g1).set r1 i).set r2 j)⟩)
end
end Tl

namespace Tl
open PySem L2
def topS (i : Nat) : Stmt := PySem.Challenge.pw_trueline_k19_whole_near_keeps_order.main.body.getD i (.Pass ⟨0, 0, 0, 0⟩)
abbrev s_p_common_divisor : Stmt := topS 4
abbrev s_p_order_of : Stmt := topS 6
abbrev s_p_bare_number : Stmt := topS 8
abbrev s_p_value : Stmt := topS 9
abbrev s_p_placed : Stmt := topS 10
abbrev s_p_opposite : Stmt := topS 15
abbrev s_l_cell : Stmt := topS 17
abbrev s_l_drawn : Stmt := topS 18
abbrev s_l_bare : Stmt := topS 19
abbrev s_l_common : Stmt := topS 21
abbrev s_p_ratio : Stmt := topS 5
abbrev s_p_near_parts : Stmt := topS 11
abbrev s_p_lower : Stmt := topS 13
abbrev s_l_number : Stmt := topS 20
abbrev s_l_width : Stmt := topS 22
abbrev s_l_ordered : Stmt := topS 24
abbrev s_p_near : Stmt := topS 12
abbrev s_p_upper : Stmt := topS 14
abbrev s_l_ratio : Stmt := topS 23
abbrev s_l_single : Stmt := topS 25
abbrev s_p_law : Stmt := topS 26
local macro_rules | `(tactic| walk_at "sz") => `(tactic| first
  | (with_reducible assumption)
  | (exact Sz.lit (n := 8) (by decide)) | (exact Sz.lit (n := 64) (by decide)) | (exact Sz.lit (n := 140) (by decide))
  | (exact Sz.small (by omega) (by omega))
  | ((with_reducible apply Sz.ofEq'); (with_reducible assumption); (walk_at "sz"))
  | ((with_reducible apply Sz.add); (walk_at "sz"); (walk_at "sz")) | ((with_reducible apply Sz.sub); (walk_at "sz"); (walk_at "sz")) | ((with_reducible apply Sz.mul); (walk_at "sz"); (walk_at "sz")) | ((with_reducible apply Sz.neg); walk_at "sz")
  | ((with_reducible apply Sz.mod); (walk_at "sz"); (walk_at "pos")) | ((with_reducible apply Sz.div); (walk_at "sz"); (walk_at "pos")) | ((with_reducible apply Sz.abs); walk_at "sz")
  | ((with_reducible apply Sz.ite); (walk_at "sz"); (walk_at "sz")) | ((with_reducible apply Sz.pk2); (walk_at "sz"); (walk_at "sz")) | ((with_reducible apply Sz.pk3); (walk_at "sz"); (walk_at "sz"); (walk_at "sz")) | ((with_reducible apply Sz.pk4); (walk_at "sz"); (walk_at "sz"); (walk_at "sz"); (walk_at "sz"))
  | ((with_reducible apply Sz.max'); (walk_at "sz"); (walk_at "sz")) | ((with_reducible apply Sz.min'); (walk_at "sz"); (walk_at "sz"))
  | ((with_reducible apply Sz.shl (k := 72)); (walk_at "sz"); omega) | ((with_reducible apply Sz.shl (k := 2000)); (walk_at "sz"); omega) | ((with_reducible apply Sz.shl (k := 1000000)); (walk_at "sz"); omega))
local macro_rules | `(tactic| walk_at "szm") => `(tactic| (apply Sz.mono; (walk_at "sz"); decide))
local macro_rules | `(tactic| walk_at "hz") => `(tactic| first | assumption | (simp only [List.length_cons, List.length_nil]; omega) | omega | decide)
local macro_rules | `(tactic| walk_at "sd") => `(tactic| first | assumption | omega | decide)
local macro_rules | `(tactic| walk_at "pos") => `(tactic| first | assumption | omega | exact pow_pos' | exact one_pow_pos | decide)
local macro_rules | `(tactic| walk_at "ne") => `(tactic| first | assumption | omega)
local macro_rules | `(tactic| walk_at "pos0") => `(tactic| first | assumption | omega | decide)
local macro_rules | `(tactic| walk_at "mul") => `(tactic| (apply cmul_of; (walk_at "sz"); (walk_at "sz"); decide))
local macro_rules | `(tactic| walk_at "nb") => `(tactic| (apply Sz.nb; (walk_at "sz"); decide))
local macro_rules | `(tactic| walk_at "shl") => `(tactic| (apply cshl_of (k := 1000000); (walk_at "sz"); omega; omega; decide))
local macro_rules | `(tactic| walk_at "pick2") => `(tactic| exact pick2 (by omega) (by omega))
local macro_rules | `(tactic| walk_at "pick3") => `(tactic| exact pick3 (by omega) (by omega))
local macro_rules | `(tactic| walk_at "pick4") => `(tactic| exact pick4 (by omega) (by omega))
local macro_rules | `(tactic| walk_at "atS") => `(tactic| exact atS (by omega) (by omega))
local macro_rules | `(tactic| walk_at "rng") => `(tactic| (constructor <;> omega))
local macro_rules | `(tactic| walk_at "isi") => `(tactic| first | exact bi1 | exact bi2 | exact bi3 rfl | exact bi4 rfl | exact bi5)
local macro_rules | `(tactic| walk_at "ok") => `(tactic| first | rfl | decide)
local macro_rules | `(tactic| walk_at "pr") => `(tactic| first | (with_reducible assumption) | omega | walk_at "szm" | exact True.intro)
local macro_rules | `(tactic| walk_at "call") => `(tactic| (first | exact True.intro | ((try dsimp only); (repeat' apply And.intro) <;> walk_at "pr")))
local macro_rules | `(tactic| walk_at "nx") => `(tactic| (show SS _ _ _ _ _; try dsimp only [startD, List.set]))
/-! common_divisor -/
def m_p_common_divisor (one other : Int) : Int := (Int.gcd one other : Int)

abbrev R_p_common_divisor : List Dt → Dt → Prop := fun ds d => ∃ (one : Int) (other : Int), ds = [.int one, .int other] ∧ (Sz 1000000 one ∧ Sz 9000 other) ∧ d = .int (m_p_common_divisor one other)
theorem sc_p_common_divisor : FnScope ["one", "other", "left"] ["one", "other"] (defScope s_p_common_divisor) := ⟨rfl, rfl, rfl, by decide +kernel, rfl, by decide +kernel, by decide +kernel⟩
theorem ok_p_common_divisor {P : Program} {w : World} {K : PySem.W.Frag} {mg : Str → Option Value} {base : Heap} {f : Addr} {fd : FuncData} (F : Fun K "common_divisor" "common_divisor" s_p_common_divisor f fd)  (m_abs : mg "abs" = none) : FnOk P w K mg base CX0 1 f fd ["one", "other"] (spR K R_p_common_divisor) := by
  refine fn_R (k := 0) F sc_p_common_divisor (fun ds d h => by obtain ⟨_, _, rfl, _⟩ := h; rfl) (fun cdv A outer s H E hr ds d h => ?_)
  obtain ⟨one, other, rfl, ⟨pa, pb⟩, rfl⟩ := h
  refine ss_cons (s1_asgI (i := 0) (ee_blt (ea_cons (ee_name (i := 0) rfl (by first | exact .inl rfl | exact .inr (.inl rfl) | exact .inr (.inr rfl)) rfl) ea_nil) rfl m_abs bb_abs bd_abs) ?_ sc_p_common_divisor.nd rfl (by first | exact .inl rfl | exact .inr rfl))
  intro a0 h_a0
  walk_at "nx"
  refine ss_cons (s1_asgI (i := 1) (ee_blt (ea_cons (ee_name (i := 1) rfl (by first | exact .inl rfl | exact .inr (.inl rfl) | exact .inr (.inr rfl)) rfl) ea_nil) rfl m_abs bb_abs bd_abs) ?_ sc_p_common_divisor.nd rfl (by first | exact .inl rfl | exact .inr rfl))
  intro b0 h_b0
  walk_at "nx"
  refine ss_cons (s1_while (fun m δ => ∃ (a b : Int) (c : Option Sl), δ = [some (.val (.int a)), some (.val (.int b)), c] ∧ 0 ≤ a ∧ 0 ≤ b ∧ b.natAbs = m ∧ Sz 1000000 a ∧ Sz 9000 b ∧ Int.gcd a b = Int.gcd one other) b0.natAbs ⟨a0, b0, _, rfl, by omega, by omega, rfl, by rw [h_a0]; exact pa.abs, by rw [h_b0]; exact pb.abs, by rw [h_a0, h_b0]; unfold Int.gcd; rw [Int.natAbs_natCast, Int.natAbs_natCast]⟩ (fun m δ1 hI => ?_))
  obtain ⟨a, b, c, rfl, ha, hb, hm, hza, hzb, hg⟩ := hI
  refine ⟨_, et_cmp (ee_name (i := 1) rfl (by first | exact .inl rfl | exact .inr (.inl rfl) | exact .inr (.inr rfl)) rfl) ee_int cd_gt, fun hp => ?_, fun hp => ?_⟩
  · have hbp : 0 < b := by omega
    refine ss_cons (s1_asgI (i := 2) (ee_bin (ee_name (i := 0) rfl (by first | exact .inl rfl | exact .inr (.inl rfl) | exact .inr (.inr rfl)) rfl) (ee_name (i := 1) rfl (by first | exact .inl rfl | exact .inr (.inl rfl) | exact .inr (.inr rfl)) rfl) (od_mod ?_)) ?_ sc_p_common_divisor.nd rfl (by first | exact .inl rfl | exact .inr rfl))
    · exact hbp
    intro left h_left
    walk_at "nx"
    refine ss_cons (s1_asg (i := 0) (ee_name (i := 1) rfl (by first | exact .inl rfl | exact .inr (.inl rfl) | exact .inr (.inr rfl)) rfl) ?_ sc_p_common_divisor.nd rfl (by first | exact .inl rfl | exact .inr rfl))
    walk_at "nx"
    refine ss_cons (s1_asg (i := 1) (ee_name (i := 2) rfl (by first | exact .inl rfl | exact .inr (.inl rfl) | exact .inr (.inr rfl)) rfl) ?_ sc_p_common_divisor.nd rfl (by first | exact .inl rfl | exact .inr rfl))
    walk_at "nx"
    have l0 := Int.emod_nonneg a (show b ≠ 0 by omega)
    have l1 := Int.emod_lt_of_pos a hbp
    rw [← h_left] at l0 l1
    refine ss_nil ⟨left.natAbs, by omega, b, left, _, rfl, hb, l0, rfl, hzb.mono (by decide), ?_, by rw [h_left, gcd_step2, hg]⟩
    have := hzb.un
    exact Sz.lit (by omega)
  · show SS _ _ _ _ _
    have hb0 : b = 0 := by omega
    refine ss_one (s1_ret (ee_name (i := 0) rfl (by first | exact .inl rfl | exact .inr (.inl rfl) | exact .inr (.inr rfl)) rfl) ?_)
    show _ = _
    unfold m_p_common_divisor
    rw [← hg, hb0, Int.gcd_zero_right]
    have : (a.natAbs : Int) = a := by omega
    rw [this]
/-! order_of -/
def m_p_order_of (one : (Int × Int)) (other : (Int × Int)) : Int :=
  let left := ((one.1 * other.2) - (other.1 * one.2))
  ((b2i ((decide ((0 : Int) < left)))) - (b2i ((decide (left < (0 : Int))))))
theorem order_rat {a b : Int × Int} (ha : 0 < a.2) (hb : 0 < b.2) : m_p_order_of a b = if rat b < rat a then 1 else if rat a < rat b then -1 else 0 := by
  obtain ⟨a1, a2⟩ := a
  obtain ⟨b1, b2⟩ := b
  have l1 := @rat_lt b1 b2 a1 a2 hb ha
  have l2 := @rat_lt a1 a2 b1 b2 ha hb
  unfold m_p_order_of b2i
  dsimp only at *
  by_cases h1 : b1 * a2 < a1 * b2
  · rw [if_pos (l1.mpr h1), decide_eq_true (show 0 < a1 * b2 - b1 * a2 by omega), decide_eq_false (show ¬ a1 * b2 - b1 * a2 < 0 by omega)]; rfl
  · rw [if_neg (fun z => h1 (l1.mp z)), decide_eq_false (show ¬ 0 < a1 * b2 - b1 * a2 by omega)]
    by_cases h2 : a1 * b2 < b1 * a2
    · rw [if_pos (l2.mpr h2), decide_eq_true (show a1 * b2 - b1 * a2 < 0 by omega)]; rfl
    · rw [if_neg (fun z => h2 (l2.mp z)), decide_eq_false (show ¬ a1 * b2 - b1 * a2 < 0 by omega)]; rfl

abbrev R_p_order_of : List Dt → Dt → Prop := fun ds d => ∃ (one0 one1 : Int) (other0 other1 : Int), ds = [.tup [.int one0, .int one1], .tup [.int other0, .int other1]] ∧ ((Sz 20000 one0 ∧ Sz 20000 one1) ∧ (Sz 20000 other0 ∧ Sz 20000 other1)) ∧ d = .int (m_p_order_of (one0, one1) (other0, other1))
theorem sc_p_order_of : FnScope ["one", "other", "left"] ["one", "other"] (defScope s_p_order_of) := ⟨rfl, rfl, rfl, by decide +kernel, rfl, by decide +kernel, by decide +kernel⟩
theorem ok_p_order_of {P : Program} {w : World} {K : PySem.W.Frag} {mg : Str → Option Value} {base : Heap} {f : Addr} {fd : FuncData} (F : Fun K "order_of" "order_of" s_p_order_of f fd)  (m_int : mg "int" = none) : FnOk P w K mg base CX0 1 f fd ["one", "other"] (spR K R_p_order_of) := by
  refine fn_R (k := 0) F sc_p_order_of (fun ds d h => by obtain ⟨_, _, _, _, rfl, _⟩ := h; rfl) (fun cdv A outer s H E hr ds d h => ?_)
  obtain ⟨one0, one1, other0, other1, rfl, ⟨⟨pa1, pa2⟩, pb1, pb2⟩, rfl⟩ := h
  -- left = one[0] * other[1] - other[0] * one[1]
  refine ss_cons (s1_asgI (i := 2) (ee_bin (ee_bin (ee_ix (ee_name (i := 0) rfl (by first | exact .inl rfl | exact .inr (.inl rfl) | exact .inr (.inr rfl)) rfl) ee_int (id_tup at0)) (ee_ix (ee_name (i := 1) rfl (by first | exact .inl rfl | exact .inr (.inl rfl) | exact .inr (.inr rfl)) rfl) ee_int (id_tup at1)) (od_mul ?_)) (ee_bin (ee_ix (ee_name (i := 1) rfl (by first | exact .inl rfl | exact .inr (.inl rfl) | exact .inr (.inr rfl)) rfl) ee_int (id_tup at0)) (ee_ix (ee_name (i := 0) rfl (by first | exact .inl rfl | exact .inr (.inl rfl) | exact .inr (.inr rfl)) rfl) ee_int (id_tup at1)) (od_mul ?_)) od_sub) ?_ sc_p_order_of.nd rfl (by first | exact .inl rfl | exact .inr rfl))
  · walk_at "mul"
  · walk_at "mul"
  intro left h_left
  walk_at "nx"
  -- return int(left > 0) - int(left < 0)
  refine ss_one (s1_ret (ee_bin (ee_bty (ea_cons (ee_cmp (ee_name (i := 2) rfl (by first | exact .inl rfl | exact .inr (.inl rfl) | exact .inr (.inr rfl)) rfl) ee_int cd_gt) ea_nil) rfl m_int bb_int bd_intB) (ee_bty (ea_cons (ee_cmp (ee_name (i := 2) rfl (by first | exact .inl rfl | exact .inr (.inl rfl) | exact .inr (.inr rfl)) rfl) ee_int cd_lt) ea_nil) rfl m_int bb_int bd_intB) od_sub) ?_)
  show _ = _
  subst h_left
  unfold m_p_order_of
  all_goals rfl
/-! bare_number -/
def m_p_bare_number (whole : Int) (power : Int) : (Int × Int) :=
  if whole = (0 : Int) then
    ((0 : Int), (0 : Int))
  else
    let twos := ((Builtin.Int.intBits ((Builtin.bitAnd whole ((0 : Int) - whole))) : Int) - (1 : Int))
    ((whole / 2 ^ (twos).toNat), (power + twos))
theorem pbare_spec {w p : Int} (h : w ≠ 0) : ∃ (v : Nat) (m : Int), w = m * 2 ^ v ∧ m % 2 = 1 ∧ m_p_bare_number w p = (m, p + v) := by
  obtain ⟨v, m, e1, e2, e3⟩ := bit_split h
  refine ⟨v, m, e1, e2, ?_⟩
  unfold m_p_bare_number
  rw [if_neg h, e3]
  dsimp only
  rw [ib_pow]
  have hp : (2 : Int) ^ v ≠ 0 := by have := @pow_pos' v; omega
  have e4 : (((v + 1 : Nat) : Int) - 1).toNat = v := by omega
  rw [e4]
  have : w / 2 ^ v = m := by rw [e1, Int.mul_ediv_cancel _ hp]
  rw [this]
  congr 1
  omega
theorem pbare_zero {p : Int} : m_p_bare_number 0 p = (0, 0) := rfl
/-- what is known of the bare number of a whole of w digits, or of 2 ^ w -/
theorem pbare_w {x p w : Int} (hw : 1 ≤ w) (h1 : 2 ^ (w - 1).toNat ≤ x.natAbs) (h2 : x.natAbs ≤ 2 ^ w.toNat) :
    ∃ (v : Nat) (m : Int), x = m * 2 ^ v ∧ m % 2 = 1 ∧ m_p_bare_number x p = (m, p + v) ∧ m.natAbs < 2 ^ w.toNat ∧ (v : Int) ≤ w ∧
      ((x.natAbs < 2 ^ w.toNat ∧ (v : Int) = w - Builtin.Int.intBits m) ∨ (x.natAbs = 2 ^ w.toNat ∧ (v : Int) = w ∧ m.natAbs = 1)) := by
  obtain ⟨n, hn⟩ := Int.eq_ofNat_of_zero_le (show 0 ≤ w - 1 by omega)
  have e1 : (w - 1).toNat = n := by omega
  have e2 : w.toNat = n + 1 := by omega
  rw [e1] at h1
  rw [e2] at h2 ⊢
  have hpos : 0 < 2 ^ n := Nat.pow_pos (a := 2) (n := n) (by decide)
  have hx : x ≠ 0 := by omega
  obtain ⟨v, m, f1, f2, f3⟩ := pbare_spec (p := p) hx
  have hm : 1 ≤ m.natAbs := by omega
  have g : x.natAbs = m.natAbs * 2 ^ v := by rw [f1, Int.natAbs_mul, Int.natAbs_pow]; rfl
  have g3 : 2 ^ v ≤ x.natAbs := by rw [g]; exact Nat.le_mul_of_pos_left _ hm
  have g4 : m.natAbs ≤ x.natAbs := by rw [g]; exact Nat.le_mul_of_pos_right _ (Nat.pow_pos (by decide))
  refine ⟨v, m, f1, f2, f3, ?_⟩
  by_cases hlt : x.natAbs < 2 ^ (n + 1)
  · have hb : Builtin.Int.intBits m + v = n + 1 := by
      have m0 : m ≠ 0 := by omega
      obtain ⟨b, hb⟩ := Nat.exists_eq_add_of_le (ib_pos m0)
      have l1 := ib_ge m0
      have l2 := ib_lt m
      rw [hb] at l1 l2 ⊢
      rw [show Nat.succ 0 + b - 1 = b by omega] at l1
      rw [show Nat.succ 0 + b = b + 1 by omega] at l2 ⊢
      have k1 : 2 ^ (b + v) ≤ x.natAbs := by rw [g, Nat.pow_add]; exact Nat.mul_le_mul_right _ l1
      have k2 : x.natAbs < 2 ^ (b + 1 + v) := by rw [g, Nat.pow_add _ (b + 1) v]; exact Nat.mul_lt_mul_of_pos_right l2 (Nat.pow_pos (by decide))
      have k3 : b + v < n + 1 := (Nat.pow_lt_pow_iff_right (show 1 < 2 by decide)).mp (Nat.lt_of_le_of_lt k1 hlt)
      have k4 : n < b + 1 + v := (Nat.pow_lt_pow_iff_right (show 1 < 2 by decide)).mp (Nat.lt_of_le_of_lt h1 k2)
      omega
    exact ⟨by omega, by omega, .inl ⟨hlt, by omega⟩⟩
  · have he : x.natAbs = 2 ^ (n + 1) := by omega
    have c1 := PySem.W.kbt_cast (n + 1)
    have c2 := PySem.W.kbt_cast v
    have u : (m.natAbs : Int) * 2 ^ v = 1 * 2 ^ (n + 1) := by rw [← c1, ← c2, Int.one_mul, ← Int.natCast_mul]; omega
    obtain ⟨u1, u2⟩ := odd_uniq u (by omega) (by decide)
    have hgt : 1 < 2 ^ (n + 1) := Nat.one_lt_two_pow (by omega)
    exact ⟨by omega, by omega, .inr ⟨he, by omega, by omega⟩⟩
theorem bare_sign {x m : Int} {v : Nat} (h : x = m * 2 ^ v) : (0 < m ↔ 0 < x) ∧ (m < 0 ↔ x < 0) ∧ (m = 0 ↔ x = 0) := by
  have p := @pow_pos' v
  rcases Int.lt_trichotomy m 0 with c | c | c
  · have := Int.mul_neg_of_neg_of_pos c p; omega
  · subst c; rw [Int.zero_mul] at h; omega
  · have := Int.mul_pos c p; omega
theorem bare_back {m p : Int} {d : Nat} (h : m % 2 = 1) : m_p_bare_number (m * 2 ^ d) p = (m, p + d) := by
  have hp := @pow_pos' d
  have h0 : m * 2 ^ d ≠ 0 := Int.mul_ne_zero (by omega) (by omega)
  obtain ⟨v, m', e1, e2, e3⟩ := pbare_spec (p := p) h0
  obtain ⟨u1, u2⟩ := odd_uniq e1 h e2
  rw [e3, u1, u2]
theorem bare_neg {x p : Int} : m_p_bare_number (-x) p = (-(m_p_bare_number x p).1, (m_p_bare_number x p).2) := by
  by_cases h : x = 0
  · subst h; rfl
  · obtain ⟨v, m, e1, e2, e3⟩ := pbare_spec (p := p) h
    have e4 : -x = (-m) * 2 ^ v := by rw [e1, Int.neg_mul]
    rw [e4, bare_back (by omega), e3]
theorem bare_val {x p : Int} : val (m_p_bare_number x p) = (x : Rat) * e2 p := by
  by_cases h : x = 0
  · subst h
    rw [pbare_zero]; unfold val; dsimp only
    have : ((0 : Int) : Rat) = 0 := rfl
    rw [this, Rat.zero_mul, Rat.zero_mul]
  · obtain ⟨v, m, e1, e2', e3⟩ := pbare_spec (p := p) h
    rw [e3, e1]
    unfold val
    dsimp only
    rw [Int.add_comm, e2_add, e2_nat, Rat.intCast_mul, Rat.mul_assoc]
theorem bare_up {x p : Int} (h : x ≠ 0) : m_p_bare_number x (p + 1) = ((m_p_bare_number x p).1, (m_p_bare_number x p).2 + 1) := by
  obtain ⟨v, m, e1, e2, e3⟩ := pbare_spec (p := p) h
  obtain ⟨v', m', f1, f2, f3⟩ := pbare_spec (p := p + 1) h
  obtain ⟨u1, u2⟩ := odd_uniq (e1.symm.trans f1) e2 f2
  rw [e3, f3, u1, u2]
  dsimp only
  congr 1
  omega

abbrev R_p_bare_number : List Dt → Dt → Prop := fun ds d => ∃ (whole : Int) (power : Int), ds = [.int whole, .int power] ∧ (True) ∧ d = .tup [.int ((m_p_bare_number whole power).1), .int ((m_p_bare_number whole power).2)]
theorem sc_p_bare_number : FnScope ["whole", "power", "twos"] ["whole", "power"] (defScope s_p_bare_number) := ⟨rfl, rfl, rfl, by decide +kernel, rfl, by decide +kernel, by decide +kernel⟩
theorem ok_p_bare_number {P : Program} {w : World} {K : PySem.W.Frag} {mg : Str → Option Value} {base : Heap} {f : Addr} {fd : FuncData} (F : Fun K "bare_number" "bare_number" s_p_bare_number f fd)   : FnOk P w K mg base CX0 1 f fd ["whole", "power"] (spR K R_p_bare_number) := by
  refine fn_R (k := 0) F sc_p_bare_number (fun ds d h => by obtain ⟨_, _, rfl, _⟩ := h; rfl) (fun cdv A outer s H E hr ds d h => ?_)
  obtain ⟨whole, power, rfl, _, rfl⟩ := h
  -- if whole == 0:
  refine ss_cons (s1_if (et_cmp (ee_name (i := 0) rfl (by first | exact .inl rfl | exact .inr (.inl rfl) | exact .inr (.inr rfl)) rfl) ee_int cd_eqI) (fun hp1 => ?_) (fun hp1 => ?_))
  ·
    -- return (0, 0)
    refine ss_one (s1_ret (ee_tup (ea_cons ee_int (ea_cons ee_int ea_nil))) ?_)
    show _ = _
    unfold m_p_bare_number
    (try dsimp only)
    rw [if_pos hp1]
    all_goals rfl
  refine ss_nil ?_
  walk_at "nx"
  -- twos = (whole & 0 - whole).bit_length() - 1
  refine ss_cons (s1_asgI (i := 2) (ee_bin (ee_bits (ee_bin (ee_name (i := 0) rfl (by first | exact .inl rfl | exact .inr (.inl rfl) | exact .inr (.inr rfl)) rfl) (ee_bin ee_int (ee_name (i := 0) rfl (by first | exact .inl rfl | exact .inr (.inl rfl) | exact .inr (.inr rfl)) rfl) od_sub) od_and)) ee_int od_sub) ?_ sc_p_bare_number.nd rfl (by first | exact .inl rfl | exact .inr rfl))
  intro twos h_twos
  walk_at "nx"
  have ht0 : 0 ≤ twos := by
    obtain ⟨v, m, e1, e2, e3⟩ := bit_split hp1
    rw [h_twos, e3, ib_pow]; omega
  -- return (whole >> twos, power + twos)
  refine ss_one (s1_ret (ee_tup (ea_cons (ee_bin (ee_name (i := 0) rfl (by first | exact .inl rfl | exact .inr (.inl rfl) | exact .inr (.inr rfl)) rfl) (ee_name (i := 2) rfl (by first | exact .inl rfl | exact .inr (.inl rfl) | exact .inr (.inr rfl)) rfl) (od_shr ?_)) (ea_cons (ee_bin (ee_name (i := 1) rfl (by first | exact .inl rfl | exact .inr (.inl rfl) | exact .inr (.inr rfl)) rfl) (ee_name (i := 2) rfl (by first | exact .inl rfl | exact .inr (.inl rfl) | exact .inr (.inr rfl)) rfl) od_add) ea_nil))) ?_)
  · walk_at "pos0"
  show _ = _
  subst h_twos
  unfold m_p_bare_number
  (try dsimp only)
  rw [if_neg hp1]
  all_goals rfl
/-! value -/
def m_p_value (number : (Int × Int)) : (Int × Int) :=
  let tt := number
  let whole := tt.1
  let power := tt.2
  if (0 : Int) ≤ power then
    ((whole * 2 ^ (power).toNat), (1 : Int))
  else
    (whole, ((1 : Int) * 2 ^ (((0 : Int) - power)).toNat))
theorem value_rat (n : Int × Int) : rat (m_p_value n) = val n ∧ 0 < (m_p_value n).2 := by
  obtain ⟨a, p⟩ := n
  unfold m_p_value val rat
  dsimp only
  by_cases h : 0 ≤ p
  · rw [if_pos h]
    refine ⟨?_, by show (0 : Int) < 1; decide⟩
    dsimp only
    have : ((1 : Int) : Rat) = 1 := rfl
    rw [this, Rat.div_def, Rat.intCast_mul, e2_toNat h]
    grind
  · rw [if_neg h]
    refine ⟨?_, one_pow_pos⟩
    dsimp only
    rw [Int.one_mul, e2_toNat (by omega)]
    have := e2_add p (0 - p)
    rw [show p + (0 - p) = 0 by omega, e2_zero] at this
    have h2 := @e2_ne (0 - p)
    grind
theorem value_szv {a p : Int} (h : Sz 70 a) (h0 : -5000 ≤ p) (h1 : p ≤ 5000) : Sz 5200 (m_p_value (a, p)).1 ∧ Sz 5200 (m_p_value (a, p)).2 := by
  unfold m_p_value
  dsimp only
  split
  · exact ⟨(h.shl (k := 5000) (by omega)).mono (by decide), Sz.mono (n := 1) (show Sz 1 1 from Sz.lit (by decide)) (by decide)⟩
  · exact ⟨h.mono (by decide), ((Sz.lit (n := 1) (by decide)).shl (k := 5000) (by omega)).mono (by decide)⟩

abbrev R_p_value : List Dt → Dt → Prop := fun ds d => ∃ (number0 number1 : Int), ds = [.tup [.int number0, .int number1]] ∧ (Sz 100000 number0 ∧ (-100000 ≤ number1 ∧ number1 ≤ 100000)) ∧ d = .tup [.int ((m_p_value (number0, number1)).1), .int ((m_p_value (number0, number1)).2)]
theorem sc_p_value : FnScope ["number", "whole", "power"] ["number"] (defScope s_p_value) := ⟨rfl, rfl, rfl, by decide +kernel, rfl, by decide +kernel, by decide +kernel⟩
theorem ok_p_value {P : Program} {w : World} {K : PySem.W.Frag} {mg : Str → Option Value} {base : Heap} {f : Addr} {fd : FuncData} (F : Fun K "value" "value" s_p_value f fd)   : FnOk P w K mg base CX0 1 f fd ["number"] (spR K R_p_value) := by
  refine fn_R (k := 0) F sc_p_value (fun ds d h => by obtain ⟨_, _, rfl, _⟩ := h; rfl) (fun cdv A outer s H E hr ds d h => ?_)
  obtain ⟨number0, number1, rfl, ⟨pw, pp0, pp1⟩, rfl⟩ := h
  -- whole, power = number
  refine ss_cons (s1_unp2 (i := 1) (j := 2) (ee_name (i := 0) rfl (by first | exact .inl rfl | exact .inr (.inl rfl) | exact .inr (.inr rfl)) rfl) (fun _ _ => (gt_tup rfl (gts_cons (gt_name sc_p_value.nd (i := 1) rfl (by first | exact .inl rfl | exact .inr rfl)) (gts_cons (gt_name sc_p_value.nd (i := 2) rfl (by first | exact .inl rfl | exact .inr rfl)) gts_nil)))) ?_)
  intro whole power h_whole h_power
  walk_at "nx"
  -- if power >= 0:
  refine ss_cons (s1_if (et_cmp (ee_name (i := 2) rfl (by first | exact .inl rfl | exact .inr (.inl rfl) | exact .inr (.inr rfl)) rfl) ee_int cd_ge) (fun hp1 => ?_) (fun hp1 => ?_))
  ·
    -- return (whole << power, 1)
    refine ss_one (s1_ret (ee_tup (ea_cons (ee_bin (ee_name (i := 1) rfl (by first | exact .inl rfl | exact .inr (.inl rfl) | exact .inr (.inr rfl)) rfl) (ee_name (i := 2) rfl (by first | exact .inl rfl | exact .inr (.inl rfl) | exact .inr (.inr rfl)) rfl) (od_shl ?_)) (ea_cons ee_int ea_nil))) ?_)
    · walk_at "shl"
    show _ = _
    subst h_power
    subst h_whole
    unfold m_p_value
    (try dsimp only)
    rw [if_pos hp1]
    all_goals rfl
  refine ss_nil ?_
  walk_at "nx"
  -- return (whole, 1 << 0 - power)
  refine ss_one (s1_ret (ee_tup (ea_cons (ee_name (i := 1) rfl (by first | exact .inl rfl | exact .inr (.inl rfl) | exact .inr (.inr rfl)) rfl) (ea_cons (ee_bin ee_int (ee_bin ee_int (ee_name (i := 2) rfl (by first | exact .inl rfl | exact .inr (.inl rfl) | exact .inr (.inr rfl)) rfl) od_sub) (od_shl ?_)) ea_nil))) ?_)
  · walk_at "shl"
  show _ = _
  subst h_power
  subst h_whole
  unfold m_p_value
  (try dsimp only)
  rw [if_neg hp1]
  all_goals rfl
/-! placed -/
def m_p_placed_i1 (top : Int) (under : Int) (power : Int) : Int × Int :=
  if (0 : Int) < power then
    let under := (under * 2 ^ (power).toNat)
    (top, under)
  else
    let top := (top * 2 ^ (((0 : Int) - power)).toNat)
    (top, under)
def m_p_placed_i2 (top : Int) (under : Int) (width : Int) (power : Int) : Int × Int :=
  if (under * 2 ^ (width).toNat) ≤ top then
    let under := (under * 2 ^ ((1 : Int)).toNat)
    let power := (power + (1 : Int))
    (under, power)
  else
    (under, power)
def m_p_placed (top : Int) (under : Int) (width : Int) : (Int × Int × Int × Int) :=
  let power := (((Builtin.Int.intBits top : Int) - (Builtin.Int.intBits under : Int)) - width)
  let tt := m_p_placed_i1 top under power
  let top := tt.1
  let under := tt.2
  let tt := m_p_placed_i2 top under width power
  let under := tt.1
  let power := tt.2
  ((top / under), (top % under), under, power)
theorem placed_i1 {t u p : Int} : m_p_placed_i1 t u p = (TT t p, UU u p) := by
  unfold m_p_placed_i1 TT UU
  split
  · rename_i h
    have e1 : (max 0 (0 - p)).toNat = 0 := by omega
    have e2 : (max 0 p) = p := by omega
    rw [e1, e2]; simp
  · rename_i h
    have e1 : (max 0 (0 - p)) = 0 - p := by omega
    have e2 : (max 0 p).toNat = 0 := by omega
    rw [e1, e2]; simp
theorem placed_spec {top under w : Int} (ht : 0 < top) (hu : 0 < under) (hw : 1 ≤ w) :
    Plc top under w (m_p_placed top under w).1 (m_p_placed top under w).2.1 (m_p_placed top under w).2.2.1 (m_p_placed top under w).2.2.2 ∧
    (m_p_placed top under w).2.2.2 ≤ (Builtin.Int.intBits top : Int) - (Builtin.Int.intBits under : Int) - w + 1 ∧ (Builtin.Int.intBits top : Int) - (Builtin.Int.intBits under : Int) - w ≤ (m_p_placed top under w).2.2.2 := by
  have b := plc_bounds ht hu hw rfl
  unfold m_p_placed
  dsimp only
  generalize (Builtin.Int.intBits top : Int) - (Builtin.Int.intBits under : Int) - w = p at *
  rw [placed_i1]
  unfold m_p_placed_i2
  dsimp only
  have hp := @UU_pos under p hu
  have hpw : (2 : Int) ^ w.toNat = 2 * 2 ^ (w - 1).toNat := by
    have : w.toNat = (w - 1).toNat + 1 := by omega
    rw [this]; grind
  have cm : ∀ a b : Int, a * b = b * a := Int.mul_comm
  split
  · rename_i h
    dsimp only
    refine ⟨?_, by omega, by omega⟩
    have s := TU_step top under (p + 1)
    rw [show p + 1 - 1 = p by omega] at s
    have e1 : (2 : Int) ^ (1 : Int).toNat = 2 := rfl
    rw [e1]
    have r1 : 2 ^ (w - 1).toNat * (UU under p * 2) ≤ TT top p := by
      have : 2 ^ (w - 1).toNat * (UU under p * 2) = UU under p * 2 ^ w.toNat := by rw [hpw]; grind
      omega
    have r2 : TT top p < 2 ^ w.toNat * (UU under p * 2) := by
      have : 2 ^ w.toNat * (UU under p * 2) = 2 * (2 ^ w.toNat * UU under p) := by grind
      omega
    rcases s with s | s
    · exact plc_mk (c := 2) (.inr rfl) (by omega) (by omega) hu r1 r2
    · exact plc_mk (c := 1) (.inl rfl) (by omega) (by omega) hu r1 r2
  · rename_i h
    dsimp only
    refine ⟨?_, by omega, by omega⟩
    have := cm (UU under p) (2 ^ w.toNat)
    exact plc_mk (c := 1) (.inl rfl) (by omega) (by omega) hu b.1 (by omega)
theorem placed_sz {top under w : Int} (hu : 0 < under) (hw : 1 ≤ w) (hw2 : w ≤ 100) (zt : Sz 4000 top) (zu : Sz 4000 under) : Sz 8100 (m_p_placed top under w).2.1 ∧ Sz 8100 (m_p_placed top under w).2.2.1 := by
  have hb1 := ib_le zt
  have hb2 := ib_le zu
  unfold m_p_placed
  dsimp only
  generalize hp : (Builtin.Int.intBits top : Int) - (Builtin.Int.intBits under : Int) - w = p at *
  rw [placed_i1]
  have hU := @UU_pos under p hu
  have z1 : Sz 8000 (UU under p) := (zu.shl (k := 4000) (by omega)).mono (by decide)
  unfold m_p_placed_i2
  dsimp only
  split
  · dsimp only
    have z2 : Sz 8100 (UU under p * 2 ^ (1 : Int).toNat) := (z1.shl (k := 1) (by decide)).mono (by decide)
    exact ⟨Sz.mod z2 (Int.mul_pos hU pow_pos'), z2⟩
  · dsimp only
    exact ⟨Sz.mod (z1.mono (by decide)) hU, z1.mono (by decide)⟩
theorem placed_pow {top under w : Int} (ht : 0 < top) (hu : 0 < under) (hw : 1 ≤ w) (hw2 : w ≤ 100) (zt : Sz 4000 top) (zu : Sz 4000 under) : -4100 ≤ (m_p_placed top under w).2.2.2 ∧ (m_p_placed top under w).2.2.2 ≤ 4001 := by
  have := (placed_spec ht hu hw).2
  have hb1 := ib_le zt
  have hb2 := ib_le zu
  omega

abbrev R_p_placed : List Dt → Dt → Prop := fun ds d => ∃ (top : Int) (under : Int) (width : Int), ds = [.int top, .int under, .int width] ∧ ((0 < top ∧ Sz 4000 top) ∧ (0 < under ∧ Sz 4000 under) ∧ (1 ≤ width ∧ width ≤ 100)) ∧ d = .tup [.int ((m_p_placed top under width).1), .int ((m_p_placed top under width).2.1), .int ((m_p_placed top under width).2.2.1), .int ((m_p_placed top under width).2.2.2)]
theorem sc_p_placed : FnScope ["top", "under", "width", "power"] ["top", "under", "width"] (defScope s_p_placed) := ⟨rfl, rfl, rfl, by decide +kernel, rfl, by decide +kernel, by decide +kernel⟩
theorem ok_p_placed {P : Program} {w : World} {K : PySem.W.Frag} {mg : Str → Option Value} {base : Heap} {f : Addr} {fd : FuncData} (F : Fun K "placed" "placed" s_p_placed f fd)   : FnOk P w K mg base CX0 1 f fd ["top", "under", "width"] (spR K R_p_placed) := by
  refine fn_R (k := 0) F sc_p_placed (fun ds d h => by obtain ⟨_, _, _, rfl, _⟩ := h; rfl) (fun cdv A outer s H E hr ds d h => ?_)
  obtain ⟨top, under, width, rfl, ⟨⟨pt0, pt1⟩, ⟨pu0, pu1⟩, pw0, pw1⟩, rfl⟩ := h
  -- power = top.bit_length() - under.bit_length() - width
  refine ss_cons (s1_asgI (i := 3) (ee_bin (ee_bin (ee_bits (ee_name (i := 0) rfl (by first | exact .inl rfl | exact .inr (.inl rfl) | exact .inr (.inr rfl)) rfl)) (ee_bits (ee_name (i := 1) rfl (by first | exact .inl rfl | exact .inr (.inl rfl) | exact .inr (.inr rfl)) rfl)) od_sub) (ee_name (i := 2) rfl (by first | exact .inl rfl | exact .inr (.inl rfl) | exact .inr (.inr rfl)) rfl) od_sub) ?_ sc_p_placed.nd rfl (by first | exact .inl rfl | exact .inr rfl))
  intro power h_power
  walk_at "nx"
  have hb1 := ib_le pt1
  have hb2 := ib_le pu1
  have hq0 : -4100 ≤ power := by omega
  have hq1 : power ≤ 4000 := by omega
  -- if power > 0:
  refine ss_cons (s1_ifM (fun δ => ∃ (top_2 under_2 : Int), (top_2 = (m_p_placed_i1 top under power).1) ∧ (under_2 = (m_p_placed_i1 top under power).2) ∧ (0 < under_2 ∧ Sz 8200 top_2 ∧ Sz 8000 under_2) ∧ δ = [some (.val (.int top_2)), some (.val (.int under_2)), some (.val (.int width)), some (.val (.int power))]) (et_cmp (ee_name (i := 3) rfl (by first | exact .inl rfl | exact .inr (.inl rfl) | exact .inr (.inr rfl)) rfl) ee_int cd_gt) (fun hp1 => ?_) (fun hp1 => ?_) ?_)
  ·
    -- under = under << power
    refine ss_cons (s1_asgI (i := 1) (ee_bin (ee_name (i := 1) rfl (by first | exact .inl rfl | exact .inr (.inl rfl) | exact .inr (.inr rfl)) rfl) (ee_name (i := 3) rfl (by first | exact .inl rfl | exact .inr (.inl rfl) | exact .inr (.inr rfl)) rfl) (od_shl ?_)) ?_ sc_p_placed.nd rfl (by first | exact .inl rfl | exact .inr rfl))
    · walk_at "shl"
    intro under_3 h_under_3
    walk_at "nx"
    refine ss_nil ⟨top, under_3, ?_, ?_, ?_, rfl⟩
    · show _ = _
      subst h_under_3
      unfold m_p_placed_i1
      (try dsimp only)
      rw [if_pos hp1]
      all_goals (try rfl)
    · show _ = _
      subst h_under_3
      unfold m_p_placed_i1
      (try dsimp only)
      rw [if_pos hp1]
      all_goals (try rfl)
    · show 0 < under_3 ∧ Sz 8200 top ∧ Sz 8000 under_3
      exact ⟨by rw [h_under_3]; exact Int.mul_pos pu0 pow_pos', pt1.mono (by decide), by rw [h_under_3]; exact (pu1.shl (k := 4000) (by omega)).mono (by decide)⟩
  ·
    -- top = top << 0 - power
    refine ss_cons (s1_asgI (i := 0) (ee_bin (ee_name (i := 0) rfl (by first | exact .inl rfl | exact .inr (.inl rfl) | exact .inr (.inr rfl)) rfl) (ee_bin ee_int (ee_name (i := 3) rfl (by first | exact .inl rfl | exact .inr (.inl rfl) | exact .inr (.inr rfl)) rfl) od_sub) (od_shl ?_)) ?_ sc_p_placed.nd rfl (by first | exact .inl rfl | exact .inr rfl))
    · walk_at "shl"
    intro top_3 h_top_3
    walk_at "nx"
    refine ss_nil ⟨top_3, under, ?_, ?_, ?_, rfl⟩
    · show _ = _
      subst h_top_3
      unfold m_p_placed_i1
      (try dsimp only)
      rw [if_neg hp1]
      all_goals (try rfl)
    · show _ = _
      subst h_top_3
      unfold m_p_placed_i1
      (try dsimp only)
      rw [if_neg hp1]
      all_goals (try rfl)
    · show 0 < under ∧ Sz 8200 top_3 ∧ Sz 8000 under
      exact ⟨pu0, by rw [h_top_3]; exact (pt1.shl (k := 4100) (by omega)).mono (by decide), pu1.mono (by decide)⟩
  rintro δ0 ⟨top_2, under_2, h_top_2, h_under_2, ⟨hm1_1, hm1_2, hm1_3⟩, rfl⟩
  walk_at "nx"
  -- if top >= under << width:
  refine ss_cons (s1_ifM (fun δ => ∃ (under_4 power_2 : Int), (under_4 = (m_p_placed_i2 top_2 under_2 width power).1) ∧ (power_2 = (m_p_placed_i2 top_2 under_2 width power).2) ∧ (0 < under_4 ∧ Sz 8100 under_4) ∧ δ = [some (.val (.int top_2)), some (.val (.int under_4)), some (.val (.int width)), some (.val (.int power_2))]) (et_cmp (ee_name (i := 0) rfl (by first | exact .inl rfl | exact .inr (.inl rfl) | exact .inr (.inr rfl)) rfl) (ee_bin (ee_name (i := 1) rfl (by first | exact .inl rfl | exact .inr (.inl rfl) | exact .inr (.inr rfl)) rfl) (ee_name (i := 2) rfl (by first | exact .inl rfl | exact .inr (.inl rfl) | exact .inr (.inr rfl)) rfl) (od_shl ?_)) cd_ge) (fun hp2 => ?_) (fun hp2 => ?_) ?_)
  · walk_at "shl"
  ·
    -- under = under << 1
    refine ss_cons (s1_asgI (i := 1) (ee_bin (ee_name (i := 1) rfl (by first | exact .inl rfl | exact .inr (.inl rfl) | exact .inr (.inr rfl)) rfl) ee_int (od_shl ?_)) ?_ sc_p_placed.nd rfl (by first | exact .inl rfl | exact .inr rfl))
    · walk_at "shl"
    intro under_5 h_under_5
    walk_at "nx"
    -- power = power + 1
    refine ss_cons (s1_asgI (i := 3) (ee_bin (ee_name (i := 3) rfl (by first | exact .inl rfl | exact .inr (.inl rfl) | exact .inr (.inr rfl)) rfl) ee_int od_add) ?_ sc_p_placed.nd rfl (by first | exact .inl rfl | exact .inr rfl))
    intro power_3 h_power_3
    walk_at "nx"
    refine ss_nil ⟨under_5, power_3, ?_, ?_, ?_, rfl⟩
    · show _ = _
      subst h_power_3
      subst h_under_5
      unfold m_p_placed_i2
      (try dsimp only)
      rw [if_pos hp2]
      all_goals (try rfl)
    · show _ = _
      subst h_power_3
      subst h_under_5
      unfold m_p_placed_i2
      (try dsimp only)
      rw [if_pos hp2]
      all_goals (try rfl)
    · show 0 < under_5 ∧ Sz 8100 under_5
      exact ⟨by rw [h_under_5]; exact Int.mul_pos hm1_1 pow_pos', by rw [h_under_5]; exact (hm1_3.shl (k := 1) (by decide)).mono (by decide)⟩
  ·
    refine ss_nil ⟨under_2, power, ?_, ?_, ?_, rfl⟩
    · show _ = _
      unfold m_p_placed_i2
      (try dsimp only)
      rw [if_neg hp2]
      all_goals (try rfl)
    · show _ = _
      unfold m_p_placed_i2
      (try dsimp only)
      rw [if_neg hp2]
      all_goals (try rfl)
    · show 0 < under_2 ∧ Sz 8100 under_2
      exact ⟨hm1_1, hm1_3.mono (by decide)⟩
  rintro δ0 ⟨under_4, power_2, h_under_4, h_power_2, ⟨hm2_1, hm2_2⟩, rfl⟩
  walk_at "nx"
  -- return (top // under, top % under, under, power)
  refine ss_one (s1_ret (ee_tup (ea_cons (ee_bin (ee_name (i := 0) rfl (by first | exact .inl rfl | exact .inr (.inl rfl) | exact .inr (.inr rfl)) rfl) (ee_name (i := 1) rfl (by first | exact .inl rfl | exact .inr (.inl rfl) | exact .inr (.inr rfl)) rfl) (od_div ?_ ?_)) (ea_cons (ee_bin (ee_name (i := 0) rfl (by first | exact .inl rfl | exact .inr (.inl rfl) | exact .inr (.inr rfl)) rfl) (ee_name (i := 1) rfl (by first | exact .inl rfl | exact .inr (.inl rfl) | exact .inr (.inr rfl)) rfl) (od_mod ?_)) (ea_cons (ee_name (i := 1) rfl (by first | exact .inl rfl | exact .inr (.inl rfl) | exact .inr (.inr rfl)) rfl) (ea_cons (ee_name (i := 3) rfl (by first | exact .inl rfl | exact .inr (.inl rfl) | exact .inr (.inr rfl)) rfl) ea_nil))))) ?_)
  · walk_at "pos"
  · walk_at "nb"
  · walk_at "pos"
  show _ = _
  subst h_power_2
  subst h_under_4
  subst h_under_2
  subst h_top_2
  subst h_power
  unfold m_p_placed
  all_goals rfl
/-! opposite -/
def m_p_opposite (number : (Int × Int)) : (Int × Int) :=
  (((0 : Int) - number.1), number.2)
abbrev R_p_opposite : List Dt → Dt → Prop := fun ds d => ∃ (number0 number1 : Int), ds = [.tup [.int number0, .int number1]] ∧ (True) ∧ d = .tup [.int ((m_p_opposite (number0, number1)).1), .int ((m_p_opposite (number0, number1)).2)]
theorem sc_p_opposite : FnScope ["number"] ["number"] (defScope s_p_opposite) := ⟨rfl, rfl, rfl, by decide +kernel, rfl, by decide +kernel, by decide +kernel⟩
theorem ok_p_opposite {P : Program} {w : World} {K : PySem.W.Frag} {mg : Str → Option Value} {base : Heap} {f : Addr} {fd : FuncData} (F : Fun K "opposite" "opposite" s_p_opposite f fd)   : FnOk P w K mg base CX0 1 f fd ["number"] (spR K R_p_opposite) := by
  refine fn_R (k := 0) F sc_p_opposite (fun ds d h => by obtain ⟨_, _, rfl, _⟩ := h; rfl) (fun cdv A outer s H E hr ds d h => ?_)
  obtain ⟨number0, number1, rfl, pre, rfl⟩ := h
  -- return (0 - number[0], number[1])
  refine ss_one (s1_ret (ee_tup (ea_cons (ee_bin ee_int (ee_ix (ee_name (i := 0) rfl (by first | exact .inl rfl | exact .inr (.inl rfl) | exact .inr (.inr rfl)) rfl) ee_int (id_tup at0)) od_sub) (ea_cons (ee_ix (ee_name (i := 0) rfl (by first | exact .inl rfl | exact .inr (.inl rfl) | exact .inr (.inr rfl)) rfl) ee_int (id_tup at1)) ea_nil))) ?_)
  show _ = _
  unfold m_p_opposite
  all_goals rfl
/-! _law_cell -/
def m_l_cell (script : List Int) (k : Int) : Int :=
  if eqB (.scr script : Dt) (.lst [] : Dt) = true then
    (k * (7919 : Int))
  else
    ((script.getD ((k % (script.length : Int))).toNat 0) + ((k / (script.length : Int)) * (104729 : Int)))
theorem sz_l_cell {script : List Int} {k : Int} (h : ∀ n ∈ script, Sz 1048576 n) (hl : script.length ≤ 63) (h0 : 0 ≤ k) (h1 : k ≤ 1000000) : Sz 1048578 (m_l_cell script k) := by
  unfold m_l_cell
  split
  · exact Sz.mono (n := 63) (Sz.small (by omega) (by omega)) (by decide)
  · rename_i hne
    have hne : script ≠ [] := fun e => hne (by rw [e]; rfl)
    have hpos : (0 : Int) < script.length := by have := List.length_pos_iff.mpr hne; omega
    have hm0 := Int.emod_nonneg k (show (script.length : Int) ≠ 0 by omega)
    have hm1 := Int.emod_lt_of_pos k hpos
    have a : Sz 1048576 (script.getD (k % (script.length : Int)).toNat 0) := by
      have hj : (k % (script.length : Int)).toNat < script.length := by omega
      rw [List.getD_eq_getElem?_getD, List.getElem?_eq_getElem hj]
      exact h _ (List.getElem_mem hj)
    have b : Sz 63 (k / (script.length : Int) * 104729) := by
      have d0 := Int.ediv_nonneg h0 (Int.le_of_lt hpos)
      have d1 := Int.ediv_le_self (script.length : Int) h0
      exact Sz.small (by omega) (by omega)
    exact (a.add b).mono (by decide)
local macro_rules | `(tactic| walk_at "sz") => `(tactic| exact sz_l_cell (by assumption) (by assumption) (by omega) (by omega))
abbrev R_l_cell : List Dt → Dt → Prop := fun ds d => ∃ (script : List Int) (k : Int), ds = [.scr script, .int k] ∧ ((∀ n ∈ script, Sz 1048576 n) ∧ script.length ≤ 63 ∧ 0 ≤ k ∧ k ≤ 1000000) ∧ d = .int (m_l_cell script k)
theorem sc_l_cell : FnScope ["_law_script", "_law_k"] ["_law_script", "_law_k"] (defScope s_l_cell) := ⟨rfl, rfl, rfl, by decide +kernel, rfl, by decide +kernel, by decide +kernel⟩
theorem ok_l_cell {P : Program} {w : World} {K : PySem.W.Frag} {mg : Str → Option Value} {base : Heap} {f : Addr} {fd : FuncData} (F : Fun K "_law_cell" "_law_cell" s_l_cell f fd)  (m_len : mg "len" = none) : FnOk P w K mg base CX0 1 f fd ["_law_script", "_law_k"] (spR K R_l_cell) := by
  refine fn_R (k := 0) F sc_l_cell (fun ds d h => by obtain ⟨_, _, rfl, _⟩ := h; rfl) (fun cdv A outer s H E hr ds d h => ?_)
  obtain ⟨script, k, rfl, ⟨pn, pl, pk0, pk1⟩, rfl⟩ := h
  -- if _law_script == []:
  refine ss_cons (s1_if (et_cmp (ee_name (i := 0) rfl (by first | exact .inl rfl | exact .inr (.inl rfl) | exact .inr (.inr rfl)) rfl) (EO.ee (eo_lst ea_nil)) (cd_eq hr ?_ ?_)) (fun hp1 => ?_) (fun hp1 => ?_))
  · walk_at "ok"
  · walk_at "ok"
  ·
    -- return _law_k * 7919
    refine ss_one (s1_ret (ee_bin (ee_name (i := 1) rfl (by first | exact .inl rfl | exact .inr (.inl rfl) | exact .inr (.inr rfl)) rfl) ee_int (od_mul ?_)) ?_)
    · walk_at "mul"
    show _ = _
    unfold m_l_cell
    (try dsimp only)
    rw [if_pos hp1]
    all_goals rfl
  refine ss_nil ?_
  walk_at "nx"
  -- return _law_script[_law_k % len(_law_script)] + _law_k // len(_law_script) * 104729
  have hne : script ≠ [] := fun e => hp1 (by rw [e]; rfl)
  have hpos : (0 : Int) < script.length := by have := List.length_pos_iff.mpr hne; omega
  have hm0 := Int.emod_nonneg k (show (script.length : Int) ≠ 0 by omega)
  have hm1 := Int.emod_lt_of_pos k hpos
  have hzl : Sz 63 (script.length : Int) := Sz.small (by omega) (by omega)
  refine ss_one (s1_ret (ee_bin (ee_ix (ee_name (i := 0) rfl (by first | exact .inl rfl | exact .inr (.inl rfl) | exact .inr (.inr rfl)) rfl) (ee_bin (ee_name (i := 1) rfl (by first | exact .inl rfl | exact .inr (.inl rfl) | exact .inr (.inr rfl)) rfl) (ee_blt (ea_cons (ee_name (i := 0) rfl (by first | exact .inl rfl | exact .inr (.inl rfl) | exact .inr (.inr rfl)) rfl) ea_nil) rfl m_len bb_len bd_lenS) (od_mod ?_)) (id_scr (atS ?_ ?_))) (ee_bin (ee_bin (ee_name (i := 1) rfl (by first | exact .inl rfl | exact .inr (.inl rfl) | exact .inr (.inr rfl)) rfl) (ee_blt (ea_cons (ee_name (i := 0) rfl (by first | exact .inl rfl | exact .inr (.inl rfl) | exact .inr (.inr rfl)) rfl) ea_nil) rfl m_len bb_len bd_lenS) (od_div ?_ ?_)) ee_int (od_mul ?_)) od_add) ?_)
  · walk_at "pos"
  · walk_at "sd"
  · walk_at "sd"
  · walk_at "pos"
  · walk_at "nb"
  · walk_at "mul"
  show _ = _
  unfold m_l_cell
  (try dsimp only)
  rw [if_neg hp1]
  all_goals rfl
/-! _law_drawn -/
def m_l_drawn (cell_here : Int) (k : Int) : Int :=
  let more := (((cell_here * (6364136223846793005 : Int)) + ((k + (1 : Int)) * (1442695040888963407 : Int))) % (340282366920938463463374607431768211507 : Int))
  ((more * more) % (340282366920938463463374607431768211297 : Int))
theorem dr0 (c k : Int) : 0 ≤ m_l_drawn c k := Int.emod_nonneg _ (by decide)
theorem dr1 (c k : Int) : m_l_drawn c k < 340282366920938463463374607431768211297 := Int.emod_lt_of_pos _ (by decide)
theorem sz_l_drawn {c k : Int} : Sz 129 (m_l_drawn c k) := by
  have h0 := dr0 c k
  have h1 := dr1 c k
  unfold Sz
  have : (2 : Nat) ^ 129 = 680564733841876926926749214863536422912 := by decide
  rw [this]; omega
local macro_rules | `(tactic| walk_at "sz") => `(tactic| exact sz_l_drawn)
abbrev R_l_drawn : List Dt → Dt → Prop := fun ds d => ∃ (cell_here : Int) (k : Int), ds = [.int cell_here, .int k] ∧ (Sz 1100000 cell_here ∧ 0 ≤ k ∧ k ≤ 2000000) ∧ d = .int (m_l_drawn cell_here k)
theorem sc_l_drawn : FnScope ["_law_cell_here", "_law_k", "_law_more"] ["_law_cell_here", "_law_k"] (defScope s_l_drawn) := ⟨rfl, rfl, rfl, by decide +kernel, rfl, by decide +kernel, by decide +kernel⟩
theorem ok_l_drawn {P : Program} {w : World} {K : PySem.W.Frag} {mg : Str → Option Value} {base : Heap} {f : Addr} {fd : FuncData} (F : Fun K "_law_drawn" "_law_drawn" s_l_drawn f fd)   : FnOk P w K mg base CX0 1 f fd ["_law_cell_here", "_law_k"] (spR K R_l_drawn) := by
  refine fn_R (k := 0) F sc_l_drawn (fun ds d h => by obtain ⟨_, _, rfl, _⟩ := h; rfl) (fun cdv A outer s H E hr ds d h => ?_)
  obtain ⟨cell_here, k, rfl, ⟨pc, pk0, pk1⟩, rfl⟩ := h
  -- _law_more = (_law_cell_here * 6364136223846793005 + (_law_k + 1) * 1442695040888963407) % 340282366920938463463374607431768211507
  refine ss_cons (s1_asgI (i := 2) (ee_bin (ee_bin (ee_bin (ee_name (i := 0) rfl (by first | exact .inl rfl | exact .inr (.inl rfl) | exact .inr (.inr rfl)) rfl) ee_int (od_mul ?_)) (ee_bin (ee_bin (ee_name (i := 1) rfl (by first | exact .inl rfl | exact .inr (.inl rfl) | exact .inr (.inr rfl)) rfl) ee_int od_add) ee_int (od_mul ?_)) od_add) ee_int (od_mod (by decide))) ?_ sc_l_drawn.nd rfl (by first | exact .inl rfl | exact .inr rfl))
  · walk_at "mul"
  · walk_at "mul"
  intro more h_more
  walk_at "nx"
  -- return _law_more * _law_more % 340282366920938463463374607431768211297
  refine ss_one (s1_ret (ee_bin (ee_bin (ee_name (i := 2) rfl (by first | exact .inl rfl | exact .inr (.inl rfl) | exact .inr (.inr rfl)) rfl) (ee_name (i := 2) rfl (by first | exact .inl rfl | exact .inr (.inl rfl) | exact .inr (.inr rfl)) rfl) (od_mul ?_)) ee_int (od_mod (by decide))) ?_)
  · walk_at "mul"
  show _ = _
  subst h_more
  unfold m_l_drawn
  all_goals rfl
/-! _law_bare -/
def m_l_bare (whole : Int) (power : Int) : (Int × Int) :=
  if whole = (0 : Int) then
    ((0 : Int), (0 : Int))
  else
    let low := (Builtin.bitAnd whole ((0 : Int) - whole))
    ((whole / low), ((power + (Builtin.Int.intBits low : Int)) - (1 : Int)))
theorem bare_spec {w p : Int} (h : w ≠ 0) : ∃ (v : Nat) (m : Int), w = m * 2 ^ v ∧ m % 2 = 1 ∧ m_l_bare w p = (m, p + v) := by
  obtain ⟨v, m, e1, e2, e3⟩ := bit_split h
  refine ⟨v, m, e1, e2, ?_⟩
  unfold m_l_bare
  rw [if_neg h, e3]
  dsimp only
  rw [ib_pow]
  have hp : (2 : Int) ^ v ≠ 0 := by have := @pow_pos' v; omega
  have : w / 2 ^ v = m := by rw [e1, Int.mul_ediv_cancel _ hp]
  rw [this]
  congr 1
  omega
theorem bare_zero {p : Int} : m_l_bare 0 p = (0, 0) := rfl
/-- a number: 0 as (0, 0), else an odd whole -/
def IsNum (n : Int × Int) : Prop := (n.1 = 0 ∧ n.2 = 0) ∨ n.1 % 2 = 1

abbrev R_l_bare : List Dt → Dt → Prop := fun ds d => ∃ (whole : Int) (power : Int), ds = [.int whole, .int power] ∧ (Sz 9000 whole ∧ Sz 1000000 power) ∧ d = .tup [.int ((m_l_bare whole power).1), .int ((m_l_bare whole power).2)]
theorem sc_l_bare : FnScope ["_law_whole", "_law_power", "_law_low"] ["_law_whole", "_law_power"] (defScope s_l_bare) := ⟨rfl, rfl, rfl, by decide +kernel, rfl, by decide +kernel, by decide +kernel⟩
theorem ok_l_bare {P : Program} {w : World} {K : PySem.W.Frag} {mg : Str → Option Value} {base : Heap} {f : Addr} {fd : FuncData} (F : Fun K "_law_bare" "_law_bare" s_l_bare f fd)   : FnOk P w K mg base CX0 1 f fd ["_law_whole", "_law_power"] (spR K R_l_bare) := by
  refine fn_R (k := 0) F sc_l_bare (fun ds d h => by obtain ⟨_, _, rfl, _⟩ := h; rfl) (fun cdv A outer s H E hr ds d h => ?_)
  obtain ⟨whole, power, rfl, ⟨pw, pp⟩, rfl⟩ := h
  have pb : whole.natAbs < 2 ^ 9000 := pw.nb (by decide)
  -- if _law_whole == 0:
  refine ss_cons (s1_if (et_cmp (ee_name (i := 0) rfl (by first | exact .inl rfl | exact .inr (.inl rfl) | exact .inr (.inr rfl)) rfl) ee_int cd_eqI) (fun hp1 => ?_) (fun hp1 => ?_))
  ·
    -- return (0, 0)
    refine ss_one (s1_ret (ee_tup (ea_cons ee_int (ea_cons ee_int ea_nil))) ?_)
    show _ = _
    unfold m_l_bare
    (try dsimp only)
    rw [if_pos hp1]
    all_goals rfl
  refine ss_nil ?_
  walk_at "nx"
  -- _law_low = _law_whole & 0 - _law_whole
  refine ss_cons (s1_asgI (i := 2) (ee_bin (ee_name (i := 0) rfl (by first | exact .inl rfl | exact .inr (.inl rfl) | exact .inr (.inr rfl)) rfl) (ee_bin ee_int (ee_name (i := 0) rfl (by first | exact .inl rfl | exact .inr (.inl rfl) | exact .inr (.inr rfl)) rfl) od_sub) od_and) ?_ sc_l_bare.nd rfl (by first | exact .inl rfl | exact .inr rfl))
  intro low h_low
  walk_at "nx"
  have ⟨hlp, hlb⟩ : 0 < low ∧ low.natAbs < 2 ^ 9000 := by
    obtain ⟨v, m, e1, e2, e3⟩ := bit_split hp1
    have hlow : low = 2 ^ v := by rw [h_low, e3]
    have hlp : 0 < low := by rw [hlow]; exact pow_pos'
    have h1 : low.natAbs ≤ whole.natAbs := by
      rw [e1, hlow, Int.natAbs_mul]
      exact Nat.le_mul_of_pos_left _ (by omega)
    exact ⟨hlp, Nat.lt_of_le_of_lt h1 pb⟩
  -- return (_law_whole // _law_low, _law_power + _law_low.bit_length() - 1)
  refine ss_one (s1_ret (ee_tup (ea_cons (ee_bin (ee_name (i := 0) rfl (by first | exact .inl rfl | exact .inr (.inl rfl) | exact .inr (.inr rfl)) rfl) (ee_name (i := 2) rfl (by first | exact .inl rfl | exact .inr (.inl rfl) | exact .inr (.inr rfl)) rfl) (od_div ?_ ?_)) (ea_cons (ee_bin (ee_bin (ee_name (i := 1) rfl (by first | exact .inl rfl | exact .inr (.inl rfl) | exact .inr (.inr rfl)) rfl) (ee_bits (ee_name (i := 2) rfl (by first | exact .inl rfl | exact .inr (.inl rfl) | exact .inr (.inr rfl)) rfl)) od_add) ee_int od_sub) ea_nil))) ?_)
  · walk_at "pos"
  · exact hlb
  show _ = _
  subst h_low
  unfold m_l_bare
  (try dsimp only)
  rw [if_neg hp1]
  all_goals rfl
/-! _law_common -/
def m_l_common (one other : Int) : Int := (Int.gcd one other : Int)

abbrev R_l_common : List Dt → Dt → Prop := fun ds d => ∃ (one : Int) (other : Int), ds = [.int one, .int other] ∧ (Sz 1000000 one ∧ Sz 9000 other) ∧ d = .int (m_l_common one other)
theorem sc_l_common : FnScope ["_law_one", "_law_other", "_law_left"] ["_law_one", "_law_other"] (defScope s_l_common) := ⟨rfl, rfl, rfl, by decide +kernel, rfl, by decide +kernel, by decide +kernel⟩
theorem ok_l_common {P : Program} {w : World} {K : PySem.W.Frag} {mg : Str → Option Value} {base : Heap} {f : Addr} {fd : FuncData} (F : Fun K "_law_common" "_law_common" s_l_common f fd)  (m_abs : mg "abs" = none) : FnOk P w K mg base CX0 1 f fd ["_law_one", "_law_other"] (spR K R_l_common) := by
  refine fn_R (k := 0) F sc_l_common (fun ds d h => by obtain ⟨_, _, rfl, _⟩ := h; rfl) (fun cdv A outer s H E hr ds d h => ?_)
  obtain ⟨one, other, rfl, ⟨pa, pb⟩, rfl⟩ := h
  refine ss_cons (s1_asgI (i := 0) (ee_blt (ea_cons (ee_name (i := 0) rfl (by first | exact .inl rfl | exact .inr (.inl rfl) | exact .inr (.inr rfl)) rfl) ea_nil) rfl m_abs bb_abs bd_abs) ?_ sc_l_common.nd rfl (by first | exact .inl rfl | exact .inr rfl))
  intro a0 h_a0
  walk_at "nx"
  refine ss_cons (s1_asgI (i := 1) (ee_blt (ea_cons (ee_name (i := 1) rfl (by first | exact .inl rfl | exact .inr (.inl rfl) | exact .inr (.inr rfl)) rfl) ea_nil) rfl m_abs bb_abs bd_abs) ?_ sc_l_common.nd rfl (by first | exact .inl rfl | exact .inr rfl))
  intro b0 h_b0
  walk_at "nx"
  refine ss_cons (s1_while (fun m δ => ∃ (a b : Int) (c : Option Sl), δ = [some (.val (.int a)), some (.val (.int b)), c] ∧ 0 ≤ a ∧ 0 ≤ b ∧ b.natAbs = m ∧ Sz 1000000 a ∧ Sz 9000 b ∧ Int.gcd a b = Int.gcd one other) b0.natAbs ⟨a0, b0, _, rfl, by omega, by omega, rfl, by rw [h_a0]; exact pa.abs, by rw [h_b0]; exact pb.abs, by rw [h_a0, h_b0]; unfold Int.gcd; rw [Int.natAbs_natCast, Int.natAbs_natCast]⟩ (fun m δ1 hI => ?_))
  obtain ⟨a, b, c, rfl, ha, hb, hm, hza, hzb, hg⟩ := hI
  refine ⟨_, et_cmp (ee_name (i := 1) rfl (by first | exact .inl rfl | exact .inr (.inl rfl) | exact .inr (.inr rfl)) rfl) ee_int cd_neI, fun hp => ?_, fun hp => ?_⟩
  · have hbp : 0 < b := by omega
    refine ss_cons (s1_asgI (i := 2) (ee_bin (ee_name (i := 0) rfl (by first | exact .inl rfl | exact .inr (.inl rfl) | exact .inr (.inr rfl)) rfl) (ee_bin (ee_bin (ee_name (i := 0) rfl (by first | exact .inl rfl | exact .inr (.inl rfl) | exact .inr (.inr rfl)) rfl) (ee_name (i := 1) rfl (by first | exact .inl rfl | exact .inr (.inl rfl) | exact .inr (.inr rfl)) rfl) (od_div ?_ ?_)) (ee_name (i := 1) rfl (by first | exact .inl rfl | exact .inr (.inl rfl) | exact .inr (.inr rfl)) rfl) (od_mul ?_)) od_sub) ?_ sc_l_common.nd rfl (by first | exact .inl rfl | exact .inr rfl))
    · exact hbp
    · walk_at "nb"
    · walk_at "mul"
    intro left h_left
    walk_at "nx"
    refine ss_cons (s1_asg (i := 0) (ee_name (i := 1) rfl (by first | exact .inl rfl | exact .inr (.inl rfl) | exact .inr (.inr rfl)) rfl) ?_ sc_l_common.nd rfl (by first | exact .inl rfl | exact .inr rfl))
    walk_at "nx"
    refine ss_cons (s1_asg (i := 1) (ee_name (i := 2) rfl (by first | exact .inl rfl | exact .inr (.inl rfl) | exact .inr (.inr rfl)) rfl) ?_ sc_l_common.nd rfl (by first | exact .inl rfl | exact .inr rfl))
    walk_at "nx"
    obtain ⟨l0, l1⟩ := step_lt (a := a) hbp
    rw [← h_left] at l0 l1
    refine ss_nil ⟨left.natAbs, by omega, b, left, _, rfl, hb, l0, rfl, hzb.mono (by decide), ?_, by rw [h_left, gcd_step, hg]⟩
    have := hzb.un
    exact Sz.lit (by omega)
  · show SS _ _ _ _ _
    have hb0 : b = 0 := by omega
    refine ss_one (s1_ret (ee_name (i := 0) rfl (by first | exact .inl rfl | exact .inr (.inl rfl) | exact .inr (.inr rfl)) rfl) ?_)
    show _ = _
    unfold m_l_common
    rw [← hg, hb0, Int.gcd_zero_right]
    have : (a.natAbs : Int) = a := by omega
    rw [this]
/-! ratio -/
def m_p_ratio (top : Int) (under : Int) : (Int × Int) :=
  if under = (0 : Int) then
    default
  else
    let divisor := (m_p_common_divisor top under)
    let divisor := if under < (0 : Int) then ((0 : Int) - divisor) else divisor
    ((Int.fdiv top divisor), (Int.fdiv under divisor))
theorem ratio_canon {t u : Int} (hu : u ≠ 0) : m_p_ratio t u = canon ((t : Rat) / (u : Rat)) := by
  unfold m_p_ratio
  rw [if_neg hu]
  exact canon_div hu rfl
theorem Sz.fdivg {n : Nat} {t g : Int} (h : Sz n t) (d : g ∣ t) (hg : g ≠ 0) : Sz n (Int.fdiv t g) := by
  obtain ⟨q, rfl⟩ := d
  rw [Int.mul_fdiv_cancel_left _ hg]
  unfold Sz at *
  rw [Int.natAbs_mul] at h
  have : q.natAbs ≤ g.natAbs * q.natAbs := Nat.le_mul_of_pos_left _ (by omega)
  omega
theorem ratio_sz {n m : Nat} {t u : Int} (hu : u ≠ 0) (ht : Sz n t) (hz : Sz m u) : Sz n (m_p_ratio t u).1 ∧ Sz m (m_p_ratio t u).2 := by
  unfold m_p_ratio
  rw [if_neg hu]
  dsimp only
  have hp : 0 < m_p_common_divisor t u := gcd_pos' hu
  have d1 : m_p_common_divisor t u ∣ t := Int.gcd_dvd_left ..
  have d2 : m_p_common_divisor t u ∣ u := Int.gcd_dvd_right ..
  generalize m_p_common_divisor t u = g at *
  split
  · exact ⟨ht.fdivg (by rw [Int.zero_sub]; exact Int.neg_dvd.mpr d1) (by omega), hz.fdivg (by rw [Int.zero_sub]; exact Int.neg_dvd.mpr d2) (by omega)⟩
  · exact ⟨ht.fdivg d1 (by omega), hz.fdivg d2 (by omega)⟩
/-- a ratio of the desk, with at most n digits -/
structure Ok (n : Nat) (r : Int × Int) : Prop where
  s1 : Sz n r.1
  s2 : Sz n r.2
  pos : 0 < r.2
  rt : IsRt r
theorem Ok.ne {n : Nat} {r : Int × Int} (h : Ok n r) : r.2 ≠ 0 := by have := h.pos; omega
theorem ok_ratio {n m : Nat} {t u : Int} (hu : u ≠ 0) (ht : Sz n t) (hz : Sz m u) : Ok (max n m) (m_p_ratio t u) := by
  have z := ratio_sz hu ht hz
  refine ⟨z.1.mono (Nat.le_max_left _ _), z.2.mono (Nat.le_max_right _ _), ?_, ?_⟩ <;> rw [ratio_canon hu]
  · exact canon_pos _
  · exact isRt_canon _
theorem ok01 : Ok 1 ((0 : Int), (1 : Int)) := ⟨Sz.lit (by decide), Sz.lit (by decide), by decide, (canon_div (t := 0) (u := 1) (g := 1) (by decide) (by decide)).symm⟩

abbrev R_p_ratio : List Dt → Dt → Prop := fun ds d => ∃ (top : Int) (under : Int), ds = [.int top, .int under] ∧ (under ≠ 0 ∧ Sz 4000 top ∧ Sz 4000 under) ∧ d = .tup [.int ((m_p_ratio top under).1), .int ((m_p_ratio top under).2)]
theorem sc_p_ratio : FnScope ["top", "under", "divisor"] ["top", "under"] (defScope s_p_ratio) := ⟨rfl, rfl, rfl, by decide +kernel, rfl, by decide +kernel, by decide +kernel⟩
theorem ok_p_ratio {P : Program} {w : World} {K : PySem.W.Frag} {mg : Str → Option Value} {base : Heap} {f : Addr} {fd : FuncData} (F : Fun K "ratio" "ratio" s_p_ratio f fd) (C_p_common_divisor : Clb P w K mg base CX0 1 "common_divisor" (spR K R_p_common_divisor))  : FnOk P w K mg base CX0 2 f fd ["top", "under"] (spR K R_p_ratio) := by
  refine fn_R (k := 1) F sc_p_ratio (fun ds d h => by obtain ⟨_, _, rfl, _⟩ := h; rfl) (fun cdv A outer s H E hr ds d h => ?_)
  obtain ⟨top, under, rfl, ⟨pu, pz1, pz2⟩, rfl⟩ := h
  -- if under == 0:
  refine ss_cons (s1_if (et_cmp (ee_name (i := 1) rfl (by first | exact .inl rfl | exact .inr (.inl rfl) | exact .inr (.inr rfl)) rfl) ee_int cd_eqI) (fun hp1 => ?_) (fun hp1 => ?_))
  ·
    -- raise NoRatio('nothing is parted by nought')
    exfalso
    omega
  refine ss_nil ?_
  walk_at "nx"
  -- divisor = common_divisor(top, under)
  refine ss_cons (s1_asgI (i := 2) (ee_call C_p_common_divisor (ea_cons (ee_name (i := 0) rfl (by first | exact .inl rfl | exact .inr (.inl rfl) | exact .inr (.inr rfl)) rfl) (ea_cons (ee_name (i := 1) rfl (by first | exact .inl rfl | exact .inr (.inl rfl) | exact .inr (.inr rfl)) rfl) ea_nil)) ⟨_, _, rfl, ?_, rfl⟩ pass0 (hr.mono (by decide)) rfl) ?_ sc_p_ratio.nd rfl (by first | exact .inl rfl | exact .inr rfl))
  · walk_at "call"
  intro divisor h_divisor
  walk_at "nx"
  have hg0 : 0 < divisor := by rw [h_divisor]; exact gcd_pos' pu
  have hgz : Sz 4000 divisor := by rw [h_divisor]; exact sz_gcd pz2 pu
  -- if under < 0:
  refine ss_cons (s1_ifI (i := 2) (et_cmp (ee_name (i := 1) rfl (by first | exact .inl rfl | exact .inr (.inl rfl) | exact .inr (.inr rfl)) rfl) ee_int cd_lt) (fun hp => (ee_bin ee_int (ee_name (i := 2) rfl (by first | exact .inl rfl | exact .inr (.inl rfl) | exact .inr (.inr rfl)) rfl) od_sub)) rfl ?_ sc_p_ratio.nd rfl (by first | exact .inl rfl | exact .inr rfl))
  intro divisor_2 h1 h2; have h_divisor_2 := ite_of h1 h2; clear h1 h2
  walk_at "nx"
  have hg1 : divisor_2 ≠ 0 := by rw [h_divisor_2]; split <;> omega
  have hg2 : Sz 4002 divisor_2 := by rw [h_divisor_2]; exact ((((Sz.lit (n := 1) (by decide)).sub hgz).ite hgz).mono (by decide))
  -- return (top // divisor, under // divisor)
  refine ss_one (s1_ret (ee_tup (ea_cons (ee_bin (ee_name (i := 0) rfl (by first | exact .inl rfl | exact .inr (.inl rfl) | exact .inr (.inr rfl)) rfl) (ee_name (i := 2) rfl (by first | exact .inl rfl | exact .inr (.inl rfl) | exact .inr (.inr rfl)) rfl) (od_fdiv ?_ ?_)) (ea_cons (ee_bin (ee_name (i := 1) rfl (by first | exact .inl rfl | exact .inr (.inl rfl) | exact .inr (.inr rfl)) rfl) (ee_name (i := 2) rfl (by first | exact .inl rfl | exact .inr (.inl rfl) | exact .inr (.inr rfl)) rfl) (od_fdiv ?_ ?_)) ea_nil))) ?_)
  · walk_at "ne"
  · walk_at "nb"
  · walk_at "ne"
  · walk_at "nb"
  show _ = _
  subst h_divisor_2
  subst h_divisor
  unfold m_p_ratio
  (try dsimp only)
  rw [if_neg hp1]
  all_goals rfl
/-! near_parts -/
def m_p_near_parts (top : Int) (under : Int) (width : Int) : (Int × Int) :=
  if top = (0 : Int) then
    ((0 : Int), (0 : Int))
  else
    let tt := (m_p_placed ((top.natAbs : Int)) under width)
    let whole := tt.1
    let left := tt.2.1
    let parts := tt.2.2.1
    let power := tt.2.2.2
    let whole := if ((parts < ((2 : Int) * left)) ∨ (((((2 : Int) * left) = parts) ∧ ((whole % (2 : Int)) = (1 : Int))))) then (whole + (1 : Int)) else whole
    let whole := if top < (0 : Int) then ((0 : Int) - whole) else whole
    (m_p_bare_number whole power)
theorem near_cases {t u w : Int} (ht : t ≠ 0) (hu : 0 < u) (hw : 2 ≤ w) : ∃ x p, m_p_near_parts t u w = m_p_bare_number x p ∧ 2 ^ (w - 1).toNat ≤ x.natAbs ∧ x.natAbs ≤ 2 ^ w.toNat ∧ p = (m_p_placed (t.natAbs : Int) u w).2.2.2 ∧
    (0 < x ↔ 0 < t) ∧ (x < 0 ↔ t < 0) ∧
    2 * TT t.natAbs p ≤ (2 * (x.natAbs : Int) + 1) * UU u p ∧ (2 * (x.natAbs : Int) - 1) * UU u p ≤ 2 * TT t.natAbs p ∧
    (2 * TT t.natAbs p = (2 * (x.natAbs : Int) + 1) * UU u p → (x.natAbs : Int) % 2 = 0) ∧ ((2 * (x.natAbs : Int) - 1) * UU u p = 2 * TT t.natAbs p → (x.natAbs : Int) % 2 = 0) ∧
    ((x.natAbs : Int) = 2 ^ (w - 1).toNat → (x.natAbs : Int) * UU u p ≤ TT t.natAbs p) := by
  have ⟨P, _, _⟩ := placed_spec (top := (t.natAbs : Int)) (w := w) (by omega) hu (show 1 ≤ w by omega)
  unfold m_p_near_parts
  dsimp only
  rw [if_neg ht]
  generalize m_p_placed (t.natAbs : Int) u w = pl at *
  have c1 := PySem.W.kbt_cast (w - 1).toNat
  have c2 := PySem.W.kbt_cast w.toNat
  have l1 := P.lo
  have l2 := P.hi
  have l3 := P.le
  have l4 := P.lt
  have l5 := P.gt
  have l6 := P.eq
  have hp := @UU_pos u pl.2.2.2 hu
  have hpos := @pow_pos' (w - 1).toNat
  refine ⟨_, _, rfl, ?_⟩
  have key : ∀ y z : Int, (z = if t < 0 then 0 - y else y) → 2 ^ (w - 1).toNat ≤ y → y ≤ 2 ^ w.toNat →
      2 * TT t.natAbs pl.2.2.2 ≤ (2 * y + 1) * UU u pl.2.2.2 → (2 * y - 1) * UU u pl.2.2.2 ≤ 2 * TT t.natAbs pl.2.2.2 →
      (2 * TT t.natAbs pl.2.2.2 = (2 * y + 1) * UU u pl.2.2.2 → y % 2 = 0) → ((2 * y - 1) * UU u pl.2.2.2 = 2 * TT t.natAbs pl.2.2.2 → y % 2 = 0) →
      (y = 2 ^ (w - 1).toNat → y * UU u pl.2.2.2 ≤ TT t.natAbs pl.2.2.2) →
      2 ^ (w - 1).toNat ≤ z.natAbs ∧ z.natAbs ≤ 2 ^ w.toNat ∧ pl.2.2.2 = pl.2.2.2 ∧ (0 < z ↔ 0 < t) ∧ (z < 0 ↔ t < 0) ∧
      2 * TT t.natAbs pl.2.2.2 ≤ (2 * (z.natAbs : Int) + 1) * UU u pl.2.2.2 ∧ (2 * (z.natAbs : Int) - 1) * UU u pl.2.2.2 ≤ 2 * TT t.natAbs pl.2.2.2 ∧
      (2 * TT t.natAbs pl.2.2.2 = (2 * (z.natAbs : Int) + 1) * UU u pl.2.2.2 → (z.natAbs : Int) % 2 = 0) ∧ ((2 * (z.natAbs : Int) - 1) * UU u pl.2.2.2 = 2 * TT t.natAbs pl.2.2.2 → (z.natAbs : Int) % 2 = 0) ∧
      ((z.natAbs : Int) = 2 ^ (w - 1).toNat → (z.natAbs : Int) * UU u pl.2.2.2 ≤ TT t.natAbs pl.2.2.2) := by
    intro y z hz k1 k2 k3 k4 k5 k6 k7
    have e : (z.natAbs : Int) = y := by split at hz <;> omega
    rw [e]
    have s1 : 0 < z ↔ 0 < t := by split at hz <;> omega
    have s2 : z < 0 ↔ t < 0 := by split at hz <;> omega
    exact ⟨by omega, by omega, rfl, s1, s2, k3, k4, k5, k6, k7⟩
  have s1 : (pl.1 + 1) * UU u pl.2.2.2 = pl.1 * UU u pl.2.2.2 + UU u pl.2.2.2 := by grind
  have s2 : (2 * pl.1 + 1) * UU u pl.2.2.2 = 2 * (pl.1 * UU u pl.2.2.2) + UU u pl.2.2.2 := by grind
  have s3 : (2 * pl.1 - 1) * UU u pl.2.2.2 = 2 * (pl.1 * UU u pl.2.2.2) - UU u pl.2.2.2 := by grind
  have s4 : (2 * (pl.1 + 1) + 1) * UU u pl.2.2.2 = 2 * (pl.1 * UU u pl.2.2.2) + 3 * UU u pl.2.2.2 := by grind
  have s5 : (2 * (pl.1 + 1) - 1) * UU u pl.2.2.2 = 2 * (pl.1 * UU u pl.2.2.2) + UU u pl.2.2.2 := by grind
  refine key _ _ rfl ?_ ?_ ?_ ?_ ?_ ?_ ?_
  all_goals split
  all_goals (try (rw [s2])); all_goals (try (rw [s3])); all_goals (try (rw [s4])); all_goals (try (rw [s5])); all_goals (try (rw [s1]))
  all_goals omega
theorem near_num {t u w : Int} (hu : 0 < u) (hw : 2 ≤ w) : IsNum (m_p_near_parts t u w) ∧ (m_p_near_parts t u w).1.natAbs < 2 ^ w.toNat := by
  by_cases ht : t = 0
  · subst ht
    exact ⟨.inl ⟨rfl, rfl⟩, Nat.pow_pos (by decide)⟩
  · obtain ⟨x, p, e, h1, h2, _⟩ := near_cases ht hu hw
    obtain ⟨v, m, f1, f2, f3, f4, f5, f6⟩ := pbare_w (p := p) (show 1 ≤ w by omega) h1 h2
    rw [e, f3]
    exact ⟨.inr f2, f4⟩
theorem near_sz {t u w : Int} (hu : 0 < u) (hw : 2 ≤ w) (hw2 : w ≤ 64) (zt : Sz 3000 t) (zu : Sz 3000 u) : Sz 64 (m_p_near_parts t u w).1 ∧ -4200 ≤ (m_p_near_parts t u w).2 ∧ (m_p_near_parts t u w).2 ≤ 4200 := by
  refine ⟨Sz.mono (n := w.toNat) (near_num hu hw).2 (by omega), ?_⟩
  by_cases ht : t = 0
  · subst ht
    show -4200 ≤ (0 : Int) ∧ (0 : Int) ≤ 4200
    decide
  · obtain ⟨x, p, e, h1, h2, h3, _⟩ := near_cases ht hu hw
    obtain ⟨v, m, f1, f2, f3, f4, f5, f6⟩ := pbare_w (p := p) (show 1 ≤ w by omega) h1 h2
    have := placed_pow (top := (t.natAbs : Int)) (under := u) (w := w) (by omega) hu (by omega) (by omega) (zt.abs.mono (by decide)) (zu.mono (by decide))
    rw [e, f3]
    dsimp only
    omega
theorem near_q {t u w : Int} (ht : t ≠ 0) (hu : 0 < u) (hw : 2 ≤ w) : ∃ x p, m_p_near_parts t u w = m_p_bare_number x p ∧ (0 < x ↔ 0 < t) ∧ (x < 0 ↔ t < 0) ∧ NrQ w (rat ((t.natAbs : Int), u)) (x.natAbs : Int) p := by
  obtain ⟨x, p, e, h1, h2, h3, h4, h5, n1, n2, n3, n4, n5⟩ := near_cases ht hu hw
  have ⟨P, _, _⟩ := placed_spec (top := (t.natAbs : Int)) (w := w) (by omega) hu (show 1 ≤ w by omega)
  rw [← h3] at P
  obtain ⟨_, _, pl, _⟩ := P.rat hu (by omega)
  have c1 := PySem.W.kbt_cast (w - 1).toNat
  have c2 := PySem.W.kbt_cast w.toNat
  have m1 := (cmp_ge (a := 2 * (x.natAbs : Int) + 1) (b := 2) (t := (t.natAbs : Int)) (p := p) hu).mp n1
  have m2 := (cmp_le (a := 2 * (x.natAbs : Int) - 1) (b := 2) (t := (t.natAbs : Int)) (p := p) hu).mp n2
  have m3 := cmp_le (a := 2 * (x.natAbs : Int) + 1) (b := 2) (t := (t.natAbs : Int)) (p := p) hu
  have m4 := cmp_ge (a := 2 * (x.natAbs : Int) - 1) (b := 2) (t := (t.natAbs : Int)) (p := p) hu
  rw [two_cast] at m1 m2 m3 m4
  refine ⟨x, p, e, h4, h5, pl, by omega, by omega, m1, m2, fun h => n3 ?_, fun h => n4 ?_⟩
  · have := m3.mpr (by rw [h]; exact Rat.le_refl); omega
  · have := m4.mpr (by rw [h]; exact Rat.le_refl); omega
theorem abs_rat {t u t' u' : Int} (hu : 0 < u) (hu' : 0 < u') (h : rat (t, u) = rat (t', u')) : rat ((t.natAbs : Int), u) = rat ((t'.natAbs : Int), u') ∧ (0 < t ↔ 0 < t') ∧ (t < 0 ↔ t' < 0) := by
  have e := (rat_eq hu hu').mp h
  have s : (0 < t ↔ 0 < t') ∧ (t < 0 ↔ t' < 0) := by
    rcases Int.lt_trichotomy t 0 with c | c | c <;> rcases Int.lt_trichotomy t' 0 with c' | c' | c'
    · omega
    · subst c'; have := Int.mul_neg_of_neg_of_pos c hu'; omega
    · have := Int.mul_neg_of_neg_of_pos c hu'; have := Int.mul_pos c' hu; omega
    · subst c; have := Int.mul_neg_of_neg_of_pos c' hu; omega
    · omega
    · subst c; have := Int.mul_pos c' hu; omega
    · have := Int.mul_pos c hu'; have := Int.mul_neg_of_neg_of_pos c' hu; omega
    · subst c'; have := Int.mul_pos c hu'; omega
    · omega
  refine ⟨(rat_eq hu hu').mpr ?_, s⟩
  rcases Int.lt_or_le t 0 with c | c
  · have e1 : (t.natAbs : Int) = -t := by omega
    have e2 : (t'.natAbs : Int) = -t' := by omega
    rw [e1, e2, Int.neg_mul, Int.neg_mul, e]
  · have e1 : (t.natAbs : Int) = t := by omega
    have e2 : (t'.natAbs : Int) = t' := by omega
    rw [e1, e2, e]
theorem near_szn {n : Nat} {t u w : Int} (hu : 0 < u) (hw : 2 ≤ w) (hw2 : w ≤ 64) (zt : Sz n t) (zu : Sz n u) : Sz 64 (m_p_near_parts t u w).1 ∧ -(n : Int) - 65 ≤ (m_p_near_parts t u w).2 ∧ (m_p_near_parts t u w).2 ≤ (n : Int) + 65 := by
  refine ⟨Sz.mono (n := w.toNat) (near_num hu hw).2 (by omega), ?_⟩
  by_cases ht : t = 0
  · subst ht
    show -(n : Int) - 65 ≤ (0 : Int) ∧ (0 : Int) ≤ (n : Int) + 65
    omega
  · obtain ⟨x, p, e, h1, h2, h3, _⟩ := near_cases ht hu hw
    obtain ⟨v, m, f1, f2, f3, f4, f5, f6⟩ := pbare_w (p := p) (show 1 ≤ w by omega) h1 h2
    have := (placed_spec (top := (t.natAbs : Int)) (under := u) (w := w) (by omega) hu (by omega)).2
    have hb1 := ib_le zt.abs
    have hb2 := ib_le zu
    have hb3 := ib_pos (show u ≠ 0 by omega)
    have hb4 := ib_pos (show (t.natAbs : Int) ≠ 0 by omega)
    rw [e, f3]
    dsimp only
    omega
/-- near hangs on the rational alone -/
theorem near_congr {t u t' u' w : Int} (hu : 0 < u) (hu' : 0 < u') (hw : 2 ≤ w) (h : rat (t, u) = rat (t', u')) : m_p_near_parts t u w = m_p_near_parts t' u' w := by
  obtain ⟨h1, h2, h3⟩ := abs_rat hu hu' h
  by_cases ht : t = 0
  · have : t' = 0 := by omega
    subst ht this; rfl
  · have ht' : t' ≠ 0 := by omega
    obtain ⟨x, p, e, a1, a2, a3⟩ := near_q ht hu hw
    obtain ⟨x', p', e', b1, b2, b3⟩ := near_q ht' hu' hw
    rw [h1] at a3
    obtain ⟨u1, u2⟩ := a3.uniq (by omega) b3
    have : x = x' := by omega
    rw [e, e', this, u2]
theorem rat_zero {u : Int} : rat (0, u) = 0 := by
  unfold rat; dsimp only
  have : ((0 : Int) : Rat) = 0 := rfl
  rw [this, Rat.div_def, Rat.zero_mul]
theorem rat_pos {t u : Int} (hu : 0 < u) : 0 < rat (t, u) ↔ 0 < t := by
  have := @rat_lt 0 1 t u (by decide) hu
  rw [rat_zero] at this
  rw [this]; omega
theorem rat_neg {t u : Int} : rat (-t, u) = -rat (t, u) := by
  unfold rat; dsimp only
  rw [Rat.intCast_neg, Rat.div_def, Rat.div_def, Rat.neg_mul]
theorem near_neg {t u w : Int} (hu : 0 < u) (hw : 2 ≤ w) : m_p_near_parts (-t) u w = (-(m_p_near_parts t u w).1, (m_p_near_parts t u w).2) := by
  by_cases ht : t = 0
  · subst ht; rfl
  · obtain ⟨x, p, e, a1, a2, a3⟩ := near_q ht hu hw
    obtain ⟨x', p', e', b1, b2, b3⟩ := near_q (t := -t) (by omega) hu hw
    rw [Int.natAbs_neg] at b3
    obtain ⟨u1, u2⟩ := a3.uniq (by omega) b3
    have : x' = -x := by omega
    rw [e, e', this, ← u2, bare_neg]
/-- the value of near, for both signs -/
theorem near_mono {t u t' u' w : Int} (hu : 0 < u) (hu' : 0 < u') (hw : 2 ≤ w) (h : rat (t, u) ≤ rat (t', u')) : val (m_p_near_parts t u w) ≤ val (m_p_near_parts t' u' w) := by
  have ir : t * u' ≤ t' * u := by
    have := @rat_lt t' u' t u hu' hu
    rcases Int.lt_or_le (t' * u) (t * u') with k | k
    · exact absurd (q_lt_le (this.mpr k) h) Rat.lt_irrefl
    · exact k
  have vp : ∀ {t u : Int}, 0 < u → ∀ {x p : Int}, (x : Rat) * e2 p = ((x.natAbs : Int) : Rat) * e2 p ∨ x < 0 := fun {t u} hu {x p} => by
    rcases Int.lt_or_le x 0 with k | k
    · exact .inr k
    · left; rw [show (x.natAbs : Int) = x by omega]
  have sg : ∀ {x p : Int}, (0 ≤ x → 0 ≤ (x : Rat) * e2 p) ∧ (x ≤ 0 → (x : Rat) * e2 p ≤ 0) := fun {x p} => by
    have z : ((0 : Int) : Rat) * e2 p = 0 := Rat.zero_mul _
    constructor
    · intro h; rw [← z]; exact e2_le.mpr h
    · intro h; rw [← z]; exact e2_le.mpr h
  have v0 : val (0, 0) = 0 := by unfold val; dsimp only; exact Rat.zero_mul _
  have zz : ∀ u, m_p_near_parts 0 u w = (0, 0) := fun _ => rfl
  by_cases ht : t = 0
  · subst ht
    rw [zz, v0]
    have ht' : 0 ≤ t' := by
      rcases Int.lt_or_le t' 0 with k | k
      · have := Int.mul_neg_of_neg_of_pos k hu; omega
      · exact k
    by_cases k : t' = 0
    · subst k; rw [zz, v0]; exact Rat.le_refl
    · obtain ⟨x', p', e', b1, b2, b3⟩ := near_q k hu' hw
      rw [e', bare_val]; exact sg.1 (by omega)
  · obtain ⟨x, p, e, a1, a2, a3⟩ := near_q ht hu hw
    rw [e, bare_val]
    by_cases k : t' = 0
    · subst k
      rw [zz, v0]
      have : t < 0 := by
        rcases Int.lt_or_le t 0 with k | k
        · exact k
        · have := Int.mul_pos (show 0 < t by omega) hu'; omega
      exact sg.2 (by omega)
    · obtain ⟨x', p', e', b1, b2, b3⟩ := near_q k hu' hw
      rw [e', bare_val]
      rcases Int.lt_or_le t 0 with c | c <;> rcases Int.lt_or_le t' 0 with c' | c'
      · have hl : rat ((t'.natAbs : Int), u') ≤ rat ((t.natAbs : Int), u) := by
          rw [show (t'.natAbs : Int) = -t' by omega, show (t.natAbs : Int) = -t by omega, rat_neg, rat_neg]
          exact Rat.neg_le_neg h
        have m := b3.val_mono (by omega) a3 hl
        have e1 : x = -(x.natAbs : Int) := by omega
        have e2' : x' = -(x'.natAbs : Int) := by omega
        rw [e1, e2', Rat.intCast_neg, Rat.intCast_neg, Rat.neg_mul, Rat.neg_mul]
        exact Rat.neg_le_neg m
      · exact Rat.le_trans (sg.2 (by omega)) (sg.1 (by omega))
      · exfalso
        have := Int.mul_neg_of_neg_of_pos c' hu
        have := Int.mul_pos (show 0 < t by omega) hu'
        omega
      · have hl : rat ((t.natAbs : Int), u) ≤ rat ((t'.natAbs : Int), u') := by
          rw [show (t'.natAbs : Int) = t' by omega, show (t.natAbs : Int) = t by omega]; exact h
        have m := a3.val_mono (by omega) b3 hl
        rw [show (x.natAbs : Int) = x by omega, show (x'.natAbs : Int) = x' by omega] at m
        exact m
/-- a number of the width is its own nearest -/
theorem near_self {t u w a r : Int} (hu : 0 < u) (hw : 2 ≤ w) (hn : IsNum (a, r)) (hz : a.natAbs < 2 ^ w.toNat) (h : rat (t, u) = val (a, r)) : m_p_near_parts t u w = (a, r) := by
  by_cases ha : a = 0
  · have hr : r = 0 := by
      rcases hn with k | k
      · exact k.2
      · dsimp only at k; omega
    subst ha hr
    have v0 : val (0, 0) = 0 := by unfold val; dsimp only; exact Rat.zero_mul _
    rw [v0, ← @rat_zero u] at h
    have := (rat_eq hu hu).mp h
    rw [Int.zero_mul] at this
    have : t = 0 := by
      rcases Int.mul_eq_zero.mp this with k | k
      · exact k
      · omega
    subst this; rfl
  · have ho : a % 2 = 1 := by
      rcases hn with k | k
      · exact absurd k.1 ha
      · exact k
    have hb := ib_le hz
    obtain ⟨b, hbb⟩ := Nat.exists_eq_add_of_le (ib_pos ha)
    have l1 := ib_ge ha
    have l2 := ib_lt a
    obtain ⟨d, hd⟩ := Nat.exists_eq_add_of_le hb
    have g0 : ((a * 2 ^ d).natAbs : Int) = (a.natAbs : Int) * 2 ^ d := by
      rw [Int.natAbs_mul, Int.natAbs_pow, Int.natCast_mul, ← PySem.W.kbt_cast d]; rfl
    have gN : (a * 2 ^ d).natAbs = a.natAbs * 2 ^ d := by rw [Int.natAbs_mul, Int.natAbs_pow]; rfl
    have k1 : 2 ^ (w - 1).toNat ≤ (a * 2 ^ d).natAbs := by
      have e : (w - 1).toNat = (Builtin.Int.intBits a - 1) + d := by omega
      rw [gN, e, Nat.pow_add]; exact Nat.mul_le_mul_right _ l1
    have k2 : (a * 2 ^ d).natAbs < 2 ^ w.toNat := by
      rw [gN, hd, Nat.pow_add]; exact Nat.mul_lt_mul_of_pos_right l2 (Nat.pow_pos (by decide))
    have c1 := PySem.W.kbt_cast (w - 1).toNat
    have c2 := PySem.W.kbt_cast w.toNat
    have S := NrQ.self (w := w) (y := ((a * 2 ^ d).natAbs : Int)) (p := r - d) (by omega) (by omega) (by omega)
    have vv : ∀ b : Int, ((b * 2 ^ d : Int) : Rat) * e2 (r - d) = (b : Rat) * e2 r := fun b => by
      rw [Rat.intCast_mul, ← e2_nat, Rat.mul_assoc, ← e2_add, show (d : Int) + (r - d) = r by omega]
    rw [g0, vv] at S
    have sg : 0 < t ↔ 0 < a := by
      rw [← rat_pos hu, h]; unfold val; dsimp only
      have z : ((0 : Int) : Rat) * e2 r = 0 := Rat.zero_mul _
      rw [← z]; exact e2_lt
    have ht : t ≠ 0 := by
      intro z; subst z
      rw [rat_zero] at h
      unfold val at h; dsimp only at h
      rcases Rat.mul_eq_zero.mp h.symm with k | k
      · exact ha (Rat.intCast_eq_zero_iff.mp k)
      · exact e2_ne k
    obtain ⟨x, p, e, b1, b2, b3⟩ := near_q ht hu hw
    have hq : rat ((t.natAbs : Int), u) = ((a.natAbs : Int) : Rat) * e2 r := by
      rcases Int.lt_or_le t 0 with c | c
      · rw [show (t.natAbs : Int) = -t by omega, rat_neg, h, show (a.natAbs : Int) = -a by omega, Rat.intCast_neg, Rat.neg_mul]; rfl
      · rw [show (t.natAbs : Int) = t by omega, h, show (a.natAbs : Int) = a by omega]; rfl
    rw [hq] at b3
    obtain ⟨u1, u2⟩ := b3.uniq (by omega) S
    have hx : x = a * 2 ^ d := by
      have pd := @pow_pos' d
      rcases Int.lt_or_le a 0 with c | c
      · rw [show (a.natAbs : Int) = -a by omega, Int.neg_mul] at u1; omega
      · rw [show (a.natAbs : Int) = a by omega] at u1; omega
    rw [e, hx, u2, bare_back ho, show r - (d : Int) + d = r by omega]

abbrev R_p_near_parts : List Dt → Dt → Prop := fun ds d => ∃ (top : Int) (under : Int) (width : Int), ds = [.int top, .int under, .int width] ∧ ((Sz 3000 top ∧ 0 < under ∧ Sz 3000 under) ∧ (1 ≤ width ∧ width ≤ 100)) ∧ d = .tup [.int ((m_p_near_parts top under width).1), .int ((m_p_near_parts top under width).2)]
theorem sc_p_near_parts : FnScope ["top", "under", "width", "whole", "left", "parts", "power"] ["top", "under", "width"] (defScope s_p_near_parts) := ⟨rfl, rfl, rfl, by decide +kernel, rfl, by decide +kernel, by decide +kernel⟩
theorem ok_p_near_parts {P : Program} {w : World} {K : PySem.W.Frag} {mg : Str → Option Value} {base : Heap} {f : Addr} {fd : FuncData} (F : Fun K "near_parts" "near_parts" s_p_near_parts f fd) (C_p_bare_number : Clb P w K mg base CX0 1 "bare_number" (spR K R_p_bare_number)) (C_p_placed : Clb P w K mg base CX0 1 "placed" (spR K R_p_placed)) (m_abs : mg "abs" = none) : FnOk P w K mg base CX0 2 f fd ["top", "under", "width"] (spR K R_p_near_parts) := by
  refine fn_R (k := 1) F sc_p_near_parts (fun ds d h => by obtain ⟨_, _, _, rfl, _⟩ := h; rfl) (fun cdv A outer s H E hr ds d h => ?_)
  obtain ⟨top, under, width, rfl, ⟨⟨pg0, pg1, pg2⟩, pw0, pw1⟩, rfl⟩ := h
  -- if top == 0:
  refine ss_cons (s1_if (et_cmp (ee_name (i := 0) rfl (by first | exact .inl rfl | exact .inr (.inl rfl) | exact .inr (.inr rfl)) rfl) ee_int cd_eqI) (fun hp1 => ?_) (fun hp1 => ?_))
  ·
    -- return (0, 0)
    refine ss_one (s1_ret (ee_tup (ea_cons ee_int (ea_cons ee_int ea_nil))) ?_)
    show _ = _
    unfold m_p_near_parts
    (try dsimp only)
    rw [if_pos hp1]
    all_goals rfl
  refine ss_nil ?_
  walk_at "nx"
  -- whole, left, parts, power = placed(abs(top), under, width)
  refine ss_cons (s1_unp4 (i := 3) (j := 4) (l := 5) (m := 6) (ee_call C_p_placed (ea_cons (ee_blt (ea_cons (ee_name (i := 0) rfl (by first | exact .inl rfl | exact .inr (.inl rfl) | exact .inr (.inr rfl)) rfl) ea_nil) rfl m_abs bb_abs bd_abs) (ea_cons (ee_name (i := 1) rfl (by first | exact .inl rfl | exact .inr (.inl rfl) | exact .inr (.inr rfl)) rfl) (ea_cons (ee_name (i := 2) rfl (by first | exact .inl rfl | exact .inr (.inl rfl) | exact .inr (.inr rfl)) rfl) ea_nil))) ⟨_, _, _, rfl, ?_, rfl⟩ pass0 (hr.mono (by decide)) rfl) (fun _ _ _ _ => (gt_tup rfl (gts_cons (gt_name sc_p_near_parts.nd (i := 3) rfl (by first | exact .inl rfl | exact .inr rfl)) (gts_cons (gt_name sc_p_near_parts.nd (i := 4) rfl (by first | exact .inl rfl | exact .inr rfl)) (gts_cons (gt_name sc_p_near_parts.nd (i := 5) rfl (by first | exact .inl rfl | exact .inr rfl)) (gts_cons (gt_name sc_p_near_parts.nd (i := 6) rfl (by first | exact .inl rfl | exact .inr rfl)) gts_nil)))))) ?_)
  · walk_at "call"
  intro whole left parts power h_whole h_left h_parts h_power
  walk_at "nx"
  have ⟨z1, z2⟩ : Sz 8100 left ∧ Sz 8100 parts := by rw [h_left, h_parts]; exact placed_sz pg1 pw0 pw1 (pg0.abs.mono (by decide)) (pg2.mono (by decide))
  -- if 2 * left > parts or (2 * left == parts and whole % 2 == 1):
  refine ss_cons (s1_ifI (i := 3) (et_w (ew_or (et_cmp (ee_bin ee_int (ee_name (i := 4) rfl (by first | exact .inl rfl | exact .inr (.inl rfl) | exact .inr (.inr rfl)) rfl) (od_mul ?_)) (ee_name (i := 5) rfl (by first | exact .inl rfl | exact .inr (.inl rfl) | exact .inr (.inr rfl)) rfl) cd_gt) fun hs => (ew_or1 (et_w (ew_and (et_cmp (ee_bin ee_int (ee_name (i := 4) rfl (by first | exact .inl rfl | exact .inr (.inl rfl) | exact .inr (.inr rfl)) rfl) (od_mul ?_)) (ee_name (i := 5) rfl (by first | exact .inl rfl | exact .inr (.inl rfl) | exact .inr (.inr rfl)) rfl) cd_eqI) fun hs => (ew_and1 (et_cmp (ee_bin (ee_name (i := 3) rfl (by first | exact .inl rfl | exact .inr (.inl rfl) | exact .inr (.inr rfl)) rfl) ee_int (od_mod (by decide))) ee_int cd_eqI))))))) (fun hp => (ee_bin (ee_name (i := 3) rfl (by first | exact .inl rfl | exact .inr (.inl rfl) | exact .inr (.inr rfl)) rfl) ee_int od_add)) rfl ?_ sc_p_near_parts.nd rfl (by first | exact .inl rfl | exact .inr rfl))
  · walk_at "mul"
  · walk_at "mul"
  intro whole_2 h1 h2; have h_whole_2 := ite_of h1 h2; clear h1 h2
  walk_at "nx"
  -- if top < 0:
  refine ss_cons (s1_ifI (i := 3) (et_cmp (ee_name (i := 0) rfl (by first | exact .inl rfl | exact .inr (.inl rfl) | exact .inr (.inr rfl)) rfl) ee_int cd_lt) (fun hp => (ee_bin ee_int (ee_name (i := 3) rfl (by first | exact .inl rfl | exact .inr (.inl rfl) | exact .inr (.inr rfl)) rfl) od_sub)) rfl ?_ sc_p_near_parts.nd rfl (by first | exact .inl rfl | exact .inr rfl))
  intro whole_3 h1 h2; have h_whole_3 := ite_of h1 h2; clear h1 h2
  walk_at "nx"
  -- return bare_number(whole, power)
  refine ss_one (s1_ret (ee_call C_p_bare_number (ea_cons (ee_name (i := 3) rfl (by first | exact .inl rfl | exact .inr (.inl rfl) | exact .inr (.inr rfl)) rfl) (ea_cons (ee_name (i := 6) rfl (by first | exact .inl rfl | exact .inr (.inl rfl) | exact .inr (.inr rfl)) rfl) ea_nil)) ⟨_, _, rfl, ?_, rfl⟩ pass0 (hr.mono (by decide)) rfl) ?_)
  · walk_at "call"
  show _ = _
  subst h_whole_3
  subst h_whole_2
  subst h_power
  subst h_parts
  subst h_left
  subst h_whole
  unfold m_p_near_parts
  (try dsimp only)
  rw [if_neg hp1]
  all_goals rfl
/-! lower -/
def m_p_lower (given : (Int × Int)) (width : Int) : (Int × Int) :=
  let tt := given
  let top := tt.1
  let under := tt.2
  if top = (0 : Int) then
    ((0 : Int), (0 : Int))
  else
    let tt := (m_p_placed ((top.natAbs : Int)) under width)
    let whole := tt.1
    let left := tt.2.1
    let parts := tt.2.2.1
    let power := tt.2.2.2
    let whole := if top < (0 : Int) then (((0 : Int) - whole) - (b2i ((decide ((0 : Int) < left))))) else whole
    (m_p_bare_number whole power)
theorem lower_cases {t u w : Int} (ht : t ≠ 0) (hu : 0 < u) (hw : 1 ≤ w) : ∃ x p, m_p_lower (t, u) w = m_p_bare_number x p ∧ 2 ^ (w - 1).toNat ≤ x.natAbs ∧ x.natAbs ≤ 2 ^ w.toNat ∧ p = (m_p_placed (t.natAbs : Int) u w).2.2.2 ∧
    (0 < t → 0 < x ∧ x.natAbs < 2 ^ w.toNat ∧ x * UU u p ≤ TT t.natAbs p ∧ TT t.natAbs p < (x + 1) * UU u p) ∧
    (t < 0 → x < 0 ∧ ((x.natAbs : Int) - 1) * UU u p < TT t.natAbs p ∧ TT t.natAbs p ≤ (x.natAbs : Int) * UU u p ∧ ((x.natAbs : Int) = 2 ^ (w - 1).toNat → TT t.natAbs p = x.natAbs * UU u p)) := by
  have c := PySem.W.kbt_cast
  have ⟨P, _, _⟩ := placed_spec (top := (t.natAbs : Int)) (w := w) (by omega) hu hw
  unfold m_p_lower
  dsimp only
  rw [if_neg ht]
  generalize m_p_placed (t.natAbs : Int) u w = pl at *
  have c1 := c (w - 1).toNat
  have c2 := c w.toNat
  have l1 := P.lo
  have l2 := P.hi
  have hp := @UU_pos u pl.2.2.2 hu
  refine ⟨_, _, rfl, ?_⟩
  by_cases h0 : t < 0
  · rw [if_pos h0]
    have key : ∀ b : Int, (b = 0 ∨ b = 1) → (b = 1 ↔ 0 < pl.2.1) → 2 ^ (w - 1).toNat ≤ (0 - pl.1 - b).natAbs ∧ (0 - pl.1 - b).natAbs ≤ 2 ^ w.toNat ∧ pl.2.2.2 = pl.2.2.2 ∧
        (0 < t → 0 < (0 - pl.1 - b) ∧ (0 - pl.1 - b).natAbs < 2 ^ w.toNat ∧ (0 - pl.1 - b) * UU u pl.2.2.2 ≤ TT t.natAbs pl.2.2.2 ∧ TT t.natAbs pl.2.2.2 < ((0 - pl.1 - b) + 1) * UU u pl.2.2.2) ∧
        (t < 0 → (0 - pl.1 - b) < 0 ∧ (((0 - pl.1 - b).natAbs : Int) - 1) * UU u pl.2.2.2 < TT t.natAbs pl.2.2.2 ∧ TT t.natAbs pl.2.2.2 ≤ ((0 - pl.1 - b).natAbs : Int) * UU u pl.2.2.2 ∧ (((0 - pl.1 - b).natAbs : Int) = 2 ^ (w - 1).toNat → TT t.natAbs pl.2.2.2 = (0 - pl.1 - b).natAbs * UU u pl.2.2.2)) := by
      intro b hb hb2
      have e : ((0 - pl.1 - b).natAbs : Int) = pl.1 + b := by have := @pow_pos' (w - 1).toNat; omega
      have hpos := @pow_pos' (w - 1).toNat
      refine ⟨by omega, by omega, rfl, fun h => absurd h (by omega), fun _ => ⟨by omega, ?_⟩⟩
      rw [e]
      have P1 := P.le
      have P2 := P.lt
      have P3 := P.pos
      have s1 : (pl.1 + 1) * UU u pl.2.2.2 = pl.1 * UU u pl.2.2.2 + UU u pl.2.2.2 := by grind
      rcases hb with rfl | rfl
      · have s2 : (pl.1 + 0 - 1) * UU u pl.2.2.2 = pl.1 * UU u pl.2.2.2 - UU u pl.2.2.2 := by grind
        rw [s2, Int.add_zero]
        omega
      · have s2 : (pl.1 + 1 - 1) * UU u pl.2.2.2 = pl.1 * UU u pl.2.2.2 := by grind
        rw [s2]
        omega
    refine key (b2i (decide (0 < pl.2.1))) ?_ ?_
    · unfold b2i; split <;> omega
    · unfold b2i; by_cases q : 0 < pl.2.1
      · simp [q]
      · simp [q]
  · rw [if_neg h0]
    have hpos := @pow_pos' (w - 1).toNat
    exact ⟨by omega, by omega, rfl, fun _ => ⟨by omega, by omega, P.le, P.lt⟩, fun h => absurd h h0⟩
theorem lower_num {t u w : Int} (hu : 0 < u) (hw : 1 ≤ w) : IsNum (m_p_lower (t, u) w) ∧ (m_p_lower (t, u) w).1.natAbs < 2 ^ w.toNat := by
  by_cases ht : t = 0
  · subst ht
    exact ⟨.inl ⟨rfl, rfl⟩, Nat.pow_pos (by decide)⟩
  · obtain ⟨x, p, e, h1, h2, _⟩ := lower_cases ht hu hw
    obtain ⟨v, m, f1, f2, f3, f4, f5, f6⟩ := pbare_w (p := p) hw h1 h2
    rw [e, f3]
    exact ⟨.inr f2, f4⟩
theorem lower_sz {t u w : Int} (hu : 0 < u) (hw : 1 ≤ w) (hw2 : w ≤ 64) (zt : Sz 3000 t) (zu : Sz 3000 u) : Sz 64 (m_p_lower (t, u) w).1 ∧ -4200 ≤ (m_p_lower (t, u) w).2 ∧ (m_p_lower (t, u) w).2 ≤ 4200 := by
  refine ⟨Sz.mono (n := w.toNat) (lower_num hu hw).2 (by omega), ?_⟩
  by_cases ht : t = 0
  · subst ht
    show -4200 ≤ (0 : Int) ∧ (0 : Int) ≤ 4200
    decide
  · obtain ⟨x, p, e, h1, h2, h3, _⟩ := lower_cases ht hu hw
    obtain ⟨v, m, f1, f2, f3, f4, f5, f6⟩ := pbare_w (p := p) hw h1 h2
    have := placed_pow (top := (t.natAbs : Int)) (under := u) (w := w) (by omega) hu hw (by omega) (zt.abs.mono (by decide)) (zu.mono (by decide))
    rw [e, f3]
    dsimp only
    omega

abbrev R_p_lower : List Dt → Dt → Prop := fun ds d => ∃ (given0 given1 : Int) (width : Int), ds = [.tup [.int given0, .int given1], .int width] ∧ ((Sz 3000 given0 ∧ 0 < given1 ∧ Sz 3000 given1) ∧ (1 ≤ width ∧ width ≤ 100)) ∧ d = .tup [.int ((m_p_lower (given0, given1) width).1), .int ((m_p_lower (given0, given1) width).2)]
theorem sc_p_lower : FnScope ["given", "width", "top", "under", "whole", "left", "parts", "power"] ["given", "width"] (defScope s_p_lower) := ⟨rfl, rfl, rfl, by decide +kernel, rfl, by decide +kernel, by decide +kernel⟩
theorem ok_p_lower {P : Program} {w : World} {K : PySem.W.Frag} {mg : Str → Option Value} {base : Heap} {f : Addr} {fd : FuncData} (F : Fun K "lower" "lower" s_p_lower f fd) (C_p_bare_number : Clb P w K mg base CX0 1 "bare_number" (spR K R_p_bare_number)) (C_p_placed : Clb P w K mg base CX0 1 "placed" (spR K R_p_placed)) (m_abs : mg "abs" = none) (m_int : mg "int" = none) : FnOk P w K mg base CX0 2 f fd ["given", "width"] (spR K R_p_lower) := by
  refine fn_R (k := 1) F sc_p_lower (fun ds d h => by obtain ⟨_, _, _, rfl, _⟩ := h; rfl) (fun cdv A outer s H E hr ds d h => ?_)
  obtain ⟨given0, given1, width, rfl, ⟨⟨pg0, pg1, pg2⟩, pw0, pw1⟩, rfl⟩ := h
  -- top, under = given
  refine ss_cons (s1_unp2 (i := 2) (j := 3) (ee_name (i := 0) rfl (by first | exact .inl rfl | exact .inr (.inl rfl) | exact .inr (.inr rfl)) rfl) (fun _ _ => (gt_tup rfl (gts_cons (gt_name sc_p_lower.nd (i := 2) rfl (by first | exact .inl rfl | exact .inr rfl)) (gts_cons (gt_name sc_p_lower.nd (i := 3) rfl (by first | exact .inl rfl | exact .inr rfl)) gts_nil)))) ?_)
  intro top under h_top h_under
  walk_at "nx"
  -- if top == 0:
  refine ss_cons (s1_if (et_cmp (ee_name (i := 2) rfl (by first | exact .inl rfl | exact .inr (.inl rfl) | exact .inr (.inr rfl)) rfl) ee_int cd_eqI) (fun hp1 => ?_) (fun hp1 => ?_))
  ·
    -- return (0, 0)
    refine ss_one (s1_ret (ee_tup (ea_cons ee_int (ea_cons ee_int ea_nil))) ?_)
    show _ = _
    subst h_under
    subst h_top
    unfold m_p_lower
    (try dsimp only)
    rw [if_pos hp1]
    all_goals rfl
  refine ss_nil ?_
  walk_at "nx"
  -- whole, left, parts, power = placed(abs(top), under, width)
  refine ss_cons (s1_unp4 (i := 4) (j := 5) (l := 6) (m := 7) (ee_call C_p_placed (ea_cons (ee_blt (ea_cons (ee_name (i := 2) rfl (by first | exact .inl rfl | exact .inr (.inl rfl) | exact .inr (.inr rfl)) rfl) ea_nil) rfl m_abs bb_abs bd_abs) (ea_cons (ee_name (i := 3) rfl (by first | exact .inl rfl | exact .inr (.inl rfl) | exact .inr (.inr rfl)) rfl) (ea_cons (ee_name (i := 1) rfl (by first | exact .inl rfl | exact .inr (.inl rfl) | exact .inr (.inr rfl)) rfl) ea_nil))) ⟨_, _, _, rfl, ?_, rfl⟩ pass0 (hr.mono (by decide)) rfl) (fun _ _ _ _ => (gt_tup rfl (gts_cons (gt_name sc_p_lower.nd (i := 4) rfl (by first | exact .inl rfl | exact .inr rfl)) (gts_cons (gt_name sc_p_lower.nd (i := 5) rfl (by first | exact .inl rfl | exact .inr rfl)) (gts_cons (gt_name sc_p_lower.nd (i := 6) rfl (by first | exact .inl rfl | exact .inr rfl)) (gts_cons (gt_name sc_p_lower.nd (i := 7) rfl (by first | exact .inl rfl | exact .inr rfl)) gts_nil)))))) ?_)
  · walk_at "call"
  intro whole left parts power h_whole h_left h_parts h_power
  walk_at "nx"
  -- if top < 0:
  refine ss_cons (s1_ifI (i := 4) (et_cmp (ee_name (i := 2) rfl (by first | exact .inl rfl | exact .inr (.inl rfl) | exact .inr (.inr rfl)) rfl) ee_int cd_lt) (fun hp => (ee_bin (ee_bin ee_int (ee_name (i := 4) rfl (by first | exact .inl rfl | exact .inr (.inl rfl) | exact .inr (.inr rfl)) rfl) od_sub) (ee_bty (ea_cons (ee_cmp (ee_name (i := 5) rfl (by first | exact .inl rfl | exact .inr (.inl rfl) | exact .inr (.inr rfl)) rfl) ee_int cd_gt) ea_nil) rfl m_int bb_int bd_intB) od_sub)) rfl ?_ sc_p_lower.nd rfl (by first | exact .inl rfl | exact .inr rfl))
  intro whole_2 h1 h2; have h_whole_2 := ite_of h1 h2; clear h1 h2
  walk_at "nx"
  -- return bare_number(whole, power)
  refine ss_one (s1_ret (ee_call C_p_bare_number (ea_cons (ee_name (i := 4) rfl (by first | exact .inl rfl | exact .inr (.inl rfl) | exact .inr (.inr rfl)) rfl) (ea_cons (ee_name (i := 7) rfl (by first | exact .inl rfl | exact .inr (.inl rfl) | exact .inr (.inr rfl)) rfl) ea_nil)) ⟨_, _, rfl, ?_, rfl⟩ pass0 (hr.mono (by decide)) rfl) ?_)
  · walk_at "call"
  show _ = _
  subst h_whole_2
  subst h_power
  subst h_parts
  subst h_left
  subst h_whole
  subst h_under
  subst h_top
  unfold m_p_lower
  (try dsimp only)
  rw [if_neg hp1]
  all_goals rfl
/-! _law_number -/
def m_l_number (cell_here : Int) (k : Int) (width_here : Int) (far : Int) : (Int × Int) :=
  let more := (m_l_drawn cell_here k)
  let kind := (more % (8 : Int))
  let power := (((more / (8 : Int)) % (((2 : Int) * far) + (1 : Int))) - far)
  let whole := ((more / (((16 : Int) * far) + (8 : Int))) % ((1 : Int) * 2 ^ (width_here).toNat))
  let whole := if kind = (0 : Int) then (pk3 ((0 : Int)) ((1 : Int)) ((3 : Int)) ((more / (64 : Int)) % (3 : Int))) else whole
  let whole := if kind = (1 : Int) then (((1 : Int) * 2 ^ (width_here).toNat) - (1 : Int)) else whole
  let whole := if kind = (2 : Int) then (((1 : Int) * 2 ^ ((width_here - (1 : Int))).toNat) + (1 : Int)) else whole
  let whole := if kind = (3 : Int) then (cell_here % ((1 : Int) * 2 ^ (width_here).toNat)) else whole
  let whole := if kind = (4 : Int) then (whole % (32 : Int)) else whole
  let whole := if ((more / (16 : Int)) % (2 : Int)) = (1 : Int) then ((0 : Int) - whole) else whole
  (m_l_bare whole power)
theorem pow_w {w : Int} (h : 8 ≤ w) : (256 : Int) ≤ 2 ^ w.toNat ∧ (2 : Int) ^ w.toNat = 2 * 2 ^ (w - 1).toNat := by
  obtain ⟨n, hn⟩ := Int.eq_ofNat_of_zero_le (show 0 ≤ w - 8 by omega)
  have e1 : w.toNat = n + 8 := by omega
  have e2 : (w - 1).toNat = n + 7 := by omega
  rw [e1, e2]
  have := @pow_pos' n
  constructor <;> grind
theorem num_spec {c k w f : Int} (hw : 8 ≤ w) (hf : 1 ≤ f) : IsNum (m_l_number c k w f) ∧ (m_l_number c k w f).1.natAbs < 2 ^ w.toNat ∧ -f ≤ (m_l_number c k w f).2 ∧ (m_l_number c k w f).2 ≤ f + w := by
  obtain ⟨p1, p2⟩ := pow_w hw
  have core : ∀ x p : Int, x.natAbs < 2 ^ w.toNat → -f ≤ p → p ≤ f → IsNum (m_l_bare x p) ∧ (m_l_bare x p).1.natAbs < 2 ^ w.toNat ∧ -f ≤ (m_l_bare x p).2 ∧ (m_l_bare x p).2 ≤ f + w := fun x p hx h0 h1 => by
    by_cases hz : x = 0
    · subst hz
      rw [bare_zero]
      exact ⟨.inl ⟨rfl, rfl⟩, by show 0 < _; exact Nat.pow_pos (by decide), by show -f ≤ 0; omega, by show 0 ≤ f + w; omega⟩
    · obtain ⟨v, m, e1, e2, e3⟩ := bare_spec (p := p) hz
      rw [e3]
      have hm : 1 ≤ m.natAbs := by omega
      have h2 : x.natAbs = m.natAbs * 2 ^ v := by rw [e1, Int.natAbs_mul, Int.natAbs_pow]; rfl
      have h3 : 2 ^ v ≤ x.natAbs := by rw [h2]; exact Nat.le_mul_of_pos_left _ hm
      have h4 : m.natAbs ≤ x.natAbs := by rw [h2]; exact Nat.le_mul_of_pos_right _ (Nat.pow_pos (by decide))
      have h5 : v < w.toNat := by
        rcases Nat.lt_or_ge v w.toNat with h | h
        · exact h
        · have := Nat.pow_le_pow_right (show 0 < 2 by decide) h
          omega
      refine ⟨.inr e2, Nat.lt_of_le_of_lt h4 hx, ?_, ?_⟩
      · show -f ≤ p + v; omega
      · show p + v ≤ f + w; omega
  have key : ∀ x : Int, 0 ≤ x → x < 2 ^ w.toNat → x.natAbs < 2 ^ w.toNat := fun x h0 h1 => by
    have := PySem.W.kbt_cast w.toNat
    omega
  unfold m_l_number
  dsimp only
  have hm0 := dr0 c k
  generalize m_l_drawn c k = more at hm0 ⊢
  refine core _ _ ?_ ?_ ?_
  · have hW : (0 : Int) < 1 * 2 ^ w.toNat := by omega
    have a0 := Int.emod_nonneg (more / (16 * f + 8)) (show (1 * 2 ^ w.toNat : Int) ≠ 0 by omega)
    have a1 := Int.emod_lt_of_pos (more / (16 * f + 8)) hW
    have b0 := Int.emod_nonneg c (show (1 * 2 ^ w.toNat : Int) ≠ 0 by omega)
    have b1 := Int.emod_lt_of_pos c hW
    generalize more / (16 * f + 8) % (1 * 2 ^ w.toNat) = x0 at a0 a1 ⊢
    generalize c % (1 * 2 ^ w.toNat) = y0 at b0 b1 ⊢
    have q : ∀ i : Int, 0 ≤ pk3 (0 : Int) 1 3 i ∧ pk3 (0 : Int) 1 3 i ≤ 3 := fun i => by (unfold pk3; (repeat' split) <;> omega)
    have q1 := q (more / 64 % 3)
    generalize pk3 (0 : Int) 1 3 (more / 64 % 3) = z0 at q1 ⊢
    have c0 := PySem.W.kbt_cast w.toNat
    have st : ∀ x : Int, 0 ≤ x → x < 2 ^ w.toNat → (if more / 16 % 2 = 1 then 0 - x else x).natAbs < 2 ^ w.toNat := fun x h0 h1 => by split <;> omega
    refine st _ ?_ ?_ <;> (repeat' split) <;> omega
  · have := Int.emod_nonneg (more / 8) (show 2 * f + 1 ≠ 0 by omega); omega
  · have := Int.emod_lt_of_pos (more / 8) (show 0 < 2 * f + 1 by omega); omega
theorem num_sz {c k w f : Int} (hw : 8 ≤ w) (hw1 : w ≤ 64) (hf : 1 ≤ f) : Sz 64 (m_l_number c k w f).1 := by
  have h := (num_spec (c := c) (k := k) hw hf).2.1
  exact Sz.mono (n := w.toNat) h (by omega)

abbrev R_l_number : List Dt → Dt → Prop := fun ds d => ∃ (cell_here : Int) (k : Int) (width_here : Int) (far : Int), ds = [.int cell_here, .int k, .int width_here, .int far] ∧ (Sz 1048578 cell_here ∧ (0 ≤ k ∧ k ≤ 2000000) ∧ (8 ≤ width_here ∧ width_here ≤ 64) ∧ (1 ≤ far ∧ far ≤ 100000)) ∧ d = .tup [.int ((m_l_number cell_here k width_here far).1), .int ((m_l_number cell_here k width_here far).2)]
theorem sc_l_number : FnScope ["_law_cell_here", "_law_k", "_law_width_here", "_law_far", "_law_more", "_law_kind", "_law_power", "_law_whole"] ["_law_cell_here", "_law_k", "_law_width_here", "_law_far"] (defScope s_l_number) := ⟨rfl, rfl, rfl, by decide +kernel, rfl, by decide +kernel, by decide +kernel⟩
theorem ok_l_number {P : Program} {w : World} {K : PySem.W.Frag} {mg : Str → Option Value} {base : Heap} {f : Addr} {fd : FuncData} (F : Fun K "_law_number" "_law_number" s_l_number f fd) (C_l_bare : Clb P w K mg base CX0 1 "_law_bare" (spR K R_l_bare)) (C_l_drawn : Clb P w K mg base CX0 1 "_law_drawn" (spR K R_l_drawn))  : FnOk P w K mg base CX0 2 f fd ["_law_cell_here", "_law_k", "_law_width_here", "_law_far"] (spR K R_l_number) := by
  refine fn_R (k := 1) F sc_l_number (fun ds d h => by obtain ⟨_, _, _, _, rfl, _⟩ := h; rfl) (fun cdv A outer s H E hr ds d h => ?_)
  obtain ⟨cell_here, k, width_here, far, rfl, ⟨pc, ⟨pk0, pk1⟩, ⟨pw0, pw1⟩, pf0, pf1⟩, rfl⟩ := h
  -- _law_more = _law_drawn(_law_cell_here, _law_k)
  refine ss_cons (s1_asgI (i := 4) (ee_call C_l_drawn (ea_cons (ee_name (i := 0) rfl (by first | exact .inl rfl | exact .inr (.inl rfl) | exact .inr (.inr rfl)) rfl) (ea_cons (ee_name (i := 1) rfl (by first | exact .inl rfl | exact .inr (.inl rfl) | exact .inr (.inr rfl)) rfl) ea_nil)) ⟨_, _, rfl, ?_, rfl⟩ pass0 (hr.mono (by decide)) rfl) ?_ sc_l_number.nd rfl (by first | exact .inl rfl | exact .inr rfl))
  · walk_at "call"
  intro more h_more
  walk_at "nx"
  have mr0 : 0 ≤ more := by rw [h_more]; exact dr0 _ _
  have mr1 : more < 340282366920938463463374607431768211297 := by rw [h_more]; exact dr1 _ _
  have mrz : Sz 129 more := by rw [h_more]; exact sz_l_drawn
  -- _law_kind = _law_more % 8
  refine ss_cons (s1_asgI (i := 5) (ee_bin (ee_name (i := 4) rfl (by first | exact .inl rfl | exact .inr (.inl rfl) | exact .inr (.inr rfl)) rfl) ee_int (od_mod (by decide))) ?_ sc_l_number.nd rfl (by first | exact .inl rfl | exact .inr rfl))
  intro kind h_kind
  walk_at "nx"
  -- _law_power = _law_more // 8 % (2 * _law_far + 1) - _law_far
  refine ss_cons (s1_asgI (i := 6) (ee_bin (ee_bin (ee_bin (ee_name (i := 4) rfl (by first | exact .inl rfl | exact .inr (.inl rfl) | exact .inr (.inr rfl)) rfl) ee_int (od_div (by decide) (by decide))) (ee_bin (ee_bin ee_int (ee_name (i := 3) rfl (by first | exact .inl rfl | exact .inr (.inl rfl) | exact .inr (.inr rfl)) rfl) (od_mul ?_)) ee_int od_add) (od_mod ?_)) (ee_name (i := 3) rfl (by first | exact .inl rfl | exact .inr (.inl rfl) | exact .inr (.inr rfl)) rfl) od_sub) ?_ sc_l_number.nd rfl (by first | exact .inl rfl | exact .inr rfl))
  · walk_at "mul"
  · walk_at "pos"
  intro power h_power
  walk_at "nx"
  -- _law_whole = _law_more // (16 * _law_far + 8) % (1 << _law_width_here)
  refine ss_cons (s1_asgI (i := 7) (ee_bin (ee_bin (ee_name (i := 4) rfl (by first | exact .inl rfl | exact .inr (.inl rfl) | exact .inr (.inr rfl)) rfl) (ee_bin (ee_bin ee_int (ee_name (i := 3) rfl (by first | exact .inl rfl | exact .inr (.inl rfl) | exact .inr (.inr rfl)) rfl) (od_mul ?_)) ee_int od_add) (od_div ?_ ?_)) (ee_bin ee_int (ee_name (i := 2) rfl (by first | exact .inl rfl | exact .inr (.inl rfl) | exact .inr (.inr rfl)) rfl) (od_shl ?_)) (od_mod ?_)) ?_ sc_l_number.nd rfl (by first | exact .inl rfl | exact .inr rfl))
  · walk_at "mul"
  · walk_at "pos"
  · walk_at "nb"
  · walk_at "shl"
  · walk_at "pos"
  intro whole h_whole
  walk_at "nx"
  -- if _law_kind == 0:
  refine ss_cons (s1_ifI (i := 7) (et_cmp (ee_name (i := 5) rfl (by first | exact .inl rfl | exact .inr (.inl rfl) | exact .inr (.inr rfl)) rfl) ee_int cd_eqI) (fun hp => (ee_ix (EO.ee (eo_lst (ea_cons ee_int (ea_cons ee_int (ea_cons ee_int ea_nil))))) (ee_bin (ee_bin (ee_name (i := 4) rfl (by first | exact .inl rfl | exact .inr (.inl rfl) | exact .inr (.inr rfl)) rfl) ee_int (od_div (by decide) (by decide))) ee_int (od_mod (by decide))) (id_lst (pick3 ?_ ?_)))) rfl ?_ sc_l_number.nd rfl (by first | exact .inl rfl | exact .inr rfl))
  · walk_at "sd"
  · walk_at "sd"
  intro whole_2 h1 h2; have h_whole_2 := ite_of h1 h2; clear h1 h2
  walk_at "nx"
  -- if _law_kind == 1:
  refine ss_cons (s1_ifI (i := 7) (et_cmp (ee_name (i := 5) rfl (by first | exact .inl rfl | exact .inr (.inl rfl) | exact .inr (.inr rfl)) rfl) ee_int cd_eqI) (fun hp => (ee_bin (ee_bin ee_int (ee_name (i := 2) rfl (by first | exact .inl rfl | exact .inr (.inl rfl) | exact .inr (.inr rfl)) rfl) (od_shl ?_)) ee_int od_sub)) rfl ?_ sc_l_number.nd rfl (by first | exact .inl rfl | exact .inr rfl))
  · walk_at "shl"
  intro whole_3 h1 h2; have h_whole_3 := ite_of h1 h2; clear h1 h2
  walk_at "nx"
  -- if _law_kind == 2:
  refine ss_cons (s1_ifI (i := 7) (et_cmp (ee_name (i := 5) rfl (by first | exact .inl rfl | exact .inr (.inl rfl) | exact .inr (.inr rfl)) rfl) ee_int cd_eqI) (fun hp => (ee_bin (ee_bin ee_int (ee_bin (ee_name (i := 2) rfl (by first | exact .inl rfl | exact .inr (.inl rfl) | exact .inr (.inr rfl)) rfl) ee_int od_sub) (od_shl ?_)) ee_int od_add)) rfl ?_ sc_l_number.nd rfl (by first | exact .inl rfl | exact .inr rfl))
  · walk_at "shl"
  intro whole_4 h1 h2; have h_whole_4 := ite_of h1 h2; clear h1 h2
  walk_at "nx"
  -- if _law_kind == 3:
  refine ss_cons (s1_ifI (i := 7) (et_cmp (ee_name (i := 5) rfl (by first | exact .inl rfl | exact .inr (.inl rfl) | exact .inr (.inr rfl)) rfl) ee_int cd_eqI) (fun hp => (ee_bin (ee_name (i := 0) rfl (by first | exact .inl rfl | exact .inr (.inl rfl) | exact .inr (.inr rfl)) rfl) (ee_bin ee_int (ee_name (i := 2) rfl (by first | exact .inl rfl | exact .inr (.inl rfl) | exact .inr (.inr rfl)) rfl) (od_shl ?_)) (od_mod ?_))) rfl ?_ sc_l_number.nd rfl (by first | exact .inl rfl | exact .inr rfl))
  · walk_at "shl"
  · walk_at "pos"
  intro whole_5 h1 h2; have h_whole_5 := ite_of h1 h2; clear h1 h2
  walk_at "nx"
  -- if _law_kind == 4:
  refine ss_cons (s1_ifI (i := 7) (et_cmp (ee_name (i := 5) rfl (by first | exact .inl rfl | exact .inr (.inl rfl) | exact .inr (.inr rfl)) rfl) ee_int cd_eqI) (fun hp => (ee_bin (ee_name (i := 7) rfl (by first | exact .inl rfl | exact .inr (.inl rfl) | exact .inr (.inr rfl)) rfl) ee_int (od_mod (by decide)))) rfl ?_ sc_l_number.nd rfl (by first | exact .inl rfl | exact .inr rfl))
  intro whole_6 h1 h2; have h_whole_6 := ite_of h1 h2; clear h1 h2
  walk_at "nx"
  -- if _law_more // 16 % 2 == 1:
  refine ss_cons (s1_ifI (i := 7) (et_cmp (ee_bin (ee_bin (ee_name (i := 4) rfl (by first | exact .inl rfl | exact .inr (.inl rfl) | exact .inr (.inr rfl)) rfl) ee_int (od_div (by decide) (by decide))) ee_int (od_mod (by decide))) ee_int cd_eqI) (fun hp => (ee_bin ee_int (ee_name (i := 7) rfl (by first | exact .inl rfl | exact .inr (.inl rfl) | exact .inr (.inr rfl)) rfl) od_sub)) rfl ?_ sc_l_number.nd rfl (by first | exact .inl rfl | exact .inr rfl))
  intro whole_7 h1 h2; have h_whole_7 := ite_of h1 h2; clear h1 h2
  walk_at "nx"
  -- return _law_bare(_law_whole, _law_power)
  refine ss_one (s1_ret (ee_call C_l_bare (ea_cons (ee_name (i := 7) rfl (by first | exact .inl rfl | exact .inr (.inl rfl) | exact .inr (.inr rfl)) rfl) (ea_cons (ee_name (i := 6) rfl (by first | exact .inl rfl | exact .inr (.inl rfl) | exact .inr (.inr rfl)) rfl) ea_nil)) ⟨_, _, rfl, ?_, rfl⟩ pass0 (hr.mono (by decide)) rfl) ?_)
  · walk_at "call"
  show _ = _
  subst h_whole_7
  subst h_whole_6
  subst h_whole_5
  subst h_whole_4
  subst h_whole_3
  subst h_whole_2
  subst h_whole
  subst h_power
  subst h_kind
  subst h_more
  unfold m_l_number
  all_goals rfl
/-! _law_width -/
def m_l_width (script : List Int) (k : Int) : Int :=
  (pk4 (((8 : Int) + ((m_l_drawn ((m_l_cell script k)) k) % (57 : Int)))) ((8 : Int)) ((53 : Int)) ((64 : Int)) ((m_l_drawn ((m_l_cell script k)) ((k + (1 : Int)))) % (4 : Int)))
theorem wd0 (s : List Int) (k : Int) : 8 ≤ m_l_width s k ∧ m_l_width s k ≤ 64 := by
  unfold m_l_width pk4
  have h := Int.emod_nonneg (m_l_drawn (m_l_cell s k) k) (show (57 : Int) ≠ 0 by decide)
  have h1 := Int.emod_lt_of_pos (m_l_drawn (m_l_cell s k) k) (show (0 : Int) < 57 by decide)
  repeat' split
  all_goals omega

abbrev R_l_width : List Dt → Dt → Prop := fun ds d => ∃ (script : List Int) (k : Int), ds = [.scr script, .int k] ∧ ((∀ n ∈ script, Sz 1048576 n) ∧ script.length ≤ 63 ∧ 0 ≤ k ∧ k ≤ 1000000) ∧ d = .int (m_l_width script k)
theorem sc_l_width : FnScope ["_law_script", "_law_k"] ["_law_script", "_law_k"] (defScope s_l_width) := ⟨rfl, rfl, rfl, by decide +kernel, rfl, by decide +kernel, by decide +kernel⟩
theorem ok_l_width {P : Program} {w : World} {K : PySem.W.Frag} {mg : Str → Option Value} {base : Heap} {f : Addr} {fd : FuncData} (F : Fun K "_law_width" "_law_width" s_l_width f fd) (C_l_cell : Clb P w K mg base CX0 1 "_law_cell" (spR K R_l_cell)) (C_l_drawn : Clb P w K mg base CX0 1 "_law_drawn" (spR K R_l_drawn))  : FnOk P w K mg base CX0 2 f fd ["_law_script", "_law_k"] (spR K R_l_width) := by
  refine fn_R (k := 1) F sc_l_width (fun ds d h => by obtain ⟨_, _, rfl, _⟩ := h; rfl) (fun cdv A outer s H E hr ds d h => ?_)
  obtain ⟨script, k, rfl, ⟨pn, pl, pk0, pk1⟩, rfl⟩ := h
  -- return [8 + _law_drawn(_law_cell(_law_script, _law_k), _law_k) % 57, 8, 53, 64][_law_drawn(_law_cell(_law_script, _law_k), _law_k + 1) % 4]
  refine ss_one (s1_ret (ee_ix (EO.ee (eo_lst (ea_cons (ee_bin ee_int (ee_bin (ee_call C_l_drawn (ea_cons (ee_call C_l_cell (ea_cons (ee_name (i := 0) rfl (by first | exact .inl rfl | exact .inr (.inl rfl) | exact .inr (.inr rfl)) rfl) (ea_cons (ee_name (i := 1) rfl (by first | exact .inl rfl | exact .inr (.inl rfl) | exact .inr (.inr rfl)) rfl) ea_nil)) ⟨_, _, rfl, ?_, rfl⟩ pass0 (hr.mono (by decide)) rfl) (ea_cons (ee_name (i := 1) rfl (by first | exact .inl rfl | exact .inr (.inl rfl) | exact .inr (.inr rfl)) rfl) ea_nil)) ⟨_, _, rfl, ?_, rfl⟩ pass0 (hr.mono (by decide)) rfl) ee_int (od_mod (by decide))) od_add) (ea_cons ee_int (ea_cons ee_int (ea_cons ee_int ea_nil)))))) (ee_bin (ee_call C_l_drawn (ea_cons (ee_call C_l_cell (ea_cons (ee_name (i := 0) rfl (by first | exact .inl rfl | exact .inr (.inl rfl) | exact .inr (.inr rfl)) rfl) (ea_cons (ee_name (i := 1) rfl (by first | exact .inl rfl | exact .inr (.inl rfl) | exact .inr (.inr rfl)) rfl) ea_nil)) ⟨_, _, rfl, ?_, rfl⟩ pass0 (hr.mono (by decide)) rfl) (ea_cons (ee_bin (ee_name (i := 1) rfl (by first | exact .inl rfl | exact .inr (.inl rfl) | exact .inr (.inr rfl)) rfl) ee_int od_add) ea_nil)) ⟨_, _, rfl, ?_, rfl⟩ pass0 (hr.mono (by decide)) rfl) ee_int (od_mod (by decide))) (id_lst (pick4 ?_ ?_))) ?_)
  · walk_at "call"
  · walk_at "call"
  · walk_at "call"
  · walk_at "call"
  · walk_at "sd"
  · walk_at "sd"
  show _ = _
  unfold m_l_width
  all_goals rfl
/-! _law_ordered -/
def m_l_ordered (one : (Int × Int)) (other : (Int × Int)) : Bool :=
  (decide ((m_p_order_of ((m_p_value one)) ((m_p_value other))) ≤ (0 : Int)))
abbrev R_l_ordered : List Dt → Dt → Prop := fun ds d => ∃ (one0 one1 : Int) (other0 other1 : Int), ds = [.tup [.int one0, .int one1], .tup [.int other0, .int other1]] ∧ ((Sz 64 one0 ∧ -4500 ≤ one1 ∧ one1 ≤ 4500) ∧ (Sz 64 other0 ∧ -4500 ≤ other1 ∧ other1 ≤ 4500)) ∧ d = .bl (m_l_ordered (one0, one1) (other0, other1))
theorem sc_l_ordered : FnScope ["_law_one", "_law_other"] ["_law_one", "_law_other"] (defScope s_l_ordered) := ⟨rfl, rfl, rfl, by decide +kernel, rfl, by decide +kernel, by decide +kernel⟩
theorem ok_l_ordered {P : Program} {w : World} {K : PySem.W.Frag} {mg : Str → Option Value} {base : Heap} {f : Addr} {fd : FuncData} (F : Fun K "_law_ordered" "_law_ordered" s_l_ordered f fd) (C_p_order_of : Clb P w K mg base CX0 1 "order_of" (spR K R_p_order_of)) (C_p_value : Clb P w K mg base CX0 1 "value" (spR K R_p_value))  : FnOk P w K mg base CX0 2 f fd ["_law_one", "_law_other"] (spR K R_l_ordered) := by
  refine fn_R (k := 1) F sc_l_ordered (fun ds d h => by obtain ⟨_, _, _, _, rfl, _⟩ := h; rfl) (fun cdv A outer s H E hr ds d h => ?_)
  obtain ⟨one0, one1, other0, other1, rfl, ⟨⟨pa1, pa2, pa3⟩, pb1, pb2, pb3⟩, rfl⟩ := h
  have ⟨va1, va2⟩ := value_szv (p := one1) (pa1.mono (by decide)) (show -5000 ≤ one1 by omega) (show one1 ≤ 5000 by omega)
  have ⟨vb1, vb2⟩ := value_szv (p := other1) (pb1.mono (by decide)) (show -5000 ≤ other1 by omega) (show other1 ≤ 5000 by omega)
  -- return order_of(value(_law_one), value(_law_other)) <= 0
  refine ss_one (s1_ret (ee_cmp (ee_call C_p_order_of (ea_cons (ee_call C_p_value (ea_cons (ee_name (i := 0) rfl (by first | exact .inl rfl | exact .inr (.inl rfl) | exact .inr (.inr rfl)) rfl) ea_nil) ⟨_, _, rfl, ?_, rfl⟩ pass0 (hr.mono (by decide)) rfl) (ea_cons (ee_call C_p_value (ea_cons (ee_name (i := 1) rfl (by first | exact .inl rfl | exact .inr (.inl rfl) | exact .inr (.inr rfl)) rfl) ea_nil) ⟨_, _, rfl, ?_, rfl⟩ pass0 (hr.mono (by decide)) rfl) ea_nil)) ⟨_, _, _, _, rfl, ?_, rfl⟩ pass0 (hr.mono (by decide)) rfl) ee_int cd_le) ?_)
  · walk_at "call"
  · walk_at "call"
  · walk_at "call"
  show _ = _
  unfold m_l_ordered
  all_goals rfl
/-! near -/
def m_p_near (given : (Int × Int)) (width : Int) : (Int × Int) :=
  (m_p_near_parts given.1 given.2 width)
theorem nr_szn {n : Nat} {t u w : Int} (hu : 0 < u) (hw : 2 ≤ w) (hw2 : w ≤ 64) (zt : Sz n t) (zu : Sz n u) : Sz 64 (m_p_near (t, u) w).1 ∧ -(n : Int) - 65 ≤ (m_p_near (t, u) w).2 ∧ (m_p_near (t, u) w).2 ≤ (n : Int) + 65 := near_szn hu hw hw2 zt zu
theorem nr_sz {t u w : Int} (hu : 0 < u) (hw : 2 ≤ w) (hw2 : w ≤ 64) (zt : Sz 3000 t) (zu : Sz 3000 u) : Sz 64 (m_p_near (t, u) w).1 ∧ -4200 ≤ (m_p_near (t, u) w).2 ∧ (m_p_near (t, u) w).2 ≤ 4200 := near_sz hu hw hw2 zt zu

abbrev R_p_near : List Dt → Dt → Prop := fun ds d => ∃ (given0 given1 : Int) (width : Int), ds = [.tup [.int given0, .int given1], .int width] ∧ ((Sz 3000 given0 ∧ 0 < given1 ∧ Sz 3000 given1) ∧ (1 ≤ width ∧ width ≤ 100)) ∧ d = .tup [.int ((m_p_near (given0, given1) width).1), .int ((m_p_near (given0, given1) width).2)]
theorem sc_p_near : FnScope ["given", "width"] ["given", "width"] (defScope s_p_near) := ⟨rfl, rfl, rfl, by decide +kernel, rfl, by decide +kernel, by decide +kernel⟩
theorem ok_p_near {P : Program} {w : World} {K : PySem.W.Frag} {mg : Str → Option Value} {base : Heap} {f : Addr} {fd : FuncData} (F : Fun K "near" "near" s_p_near f fd) (C_p_near_parts : Clb P w K mg base CX0 2 "near_parts" (spR K R_p_near_parts))  : FnOk P w K mg base CX0 3 f fd ["given", "width"] (spR K R_p_near) := by
  refine fn_R (k := 2) F sc_p_near (fun ds d h => by obtain ⟨_, _, _, rfl, _⟩ := h; rfl) (fun cdv A outer s H E hr ds d h => ?_)
  obtain ⟨given0, given1, width, rfl, ⟨⟨pg0, pg1, pg2⟩, pw0, pw1⟩, rfl⟩ := h
  -- return near_parts(given[0], given[1], width)
  refine ss_one (s1_ret (ee_call C_p_near_parts (ea_cons (ee_ix (ee_name (i := 0) rfl (by first | exact .inl rfl | exact .inr (.inl rfl) | exact .inr (.inr rfl)) rfl) ee_int (id_tup at0)) (ea_cons (ee_ix (ee_name (i := 0) rfl (by first | exact .inl rfl | exact .inr (.inl rfl) | exact .inr (.inr rfl)) rfl) ee_int (id_tup at1)) (ea_cons (ee_name (i := 1) rfl (by first | exact .inl rfl | exact .inr (.inl rfl) | exact .inr (.inr rfl)) rfl) ea_nil))) ⟨_, _, _, rfl, ?_, rfl⟩ pass0 (hr.mono (by decide)) rfl) ?_)
  · walk_at "call"
  show _ = _
  unfold m_p_near
  all_goals rfl
/-! upper -/
def m_p_upper (given : (Int × Int)) (width : Int) : (Int × Int) :=
  (m_p_opposite ((m_p_lower ((((0 : Int) - given.1), given.2)) width)))
abbrev R_p_upper : List Dt → Dt → Prop := fun ds d => ∃ (given0 given1 : Int) (width : Int), ds = [.tup [.int given0, .int given1], .int width] ∧ ((Sz 2990 given0 ∧ 0 < given1 ∧ Sz 3000 given1) ∧ (1 ≤ width ∧ width ≤ 100)) ∧ d = .tup [.int ((m_p_upper (given0, given1) width).1), .int ((m_p_upper (given0, given1) width).2)]
theorem sc_p_upper : FnScope ["given", "width"] ["given", "width"] (defScope s_p_upper) := ⟨rfl, rfl, rfl, by decide +kernel, rfl, by decide +kernel, by decide +kernel⟩
theorem ok_p_upper {P : Program} {w : World} {K : PySem.W.Frag} {mg : Str → Option Value} {base : Heap} {f : Addr} {fd : FuncData} (F : Fun K "upper" "upper" s_p_upper f fd) (C_p_lower : Clb P w K mg base CX0 2 "lower" (spR K R_p_lower)) (C_p_opposite : Clb P w K mg base CX0 1 "opposite" (spR K R_p_opposite))  : FnOk P w K mg base CX0 3 f fd ["given", "width"] (spR K R_p_upper) := by
  refine fn_R (k := 2) F sc_p_upper (fun ds d h => by obtain ⟨_, _, _, rfl, _⟩ := h; rfl) (fun cdv A outer s H E hr ds d h => ?_)
  obtain ⟨given0, given1, width, rfl, ⟨⟨pg0, pg1, pg2⟩, pw0, pw1⟩, rfl⟩ := h
  -- return opposite(lower((0 - given[0], given[1]), width))
  refine ss_one (s1_ret (ee_call C_p_opposite (ea_cons (ee_call C_p_lower (ea_cons (ee_tup (ea_cons (ee_bin ee_int (ee_ix (ee_name (i := 0) rfl (by first | exact .inl rfl | exact .inr (.inl rfl) | exact .inr (.inr rfl)) rfl) ee_int (id_tup at0)) od_sub) (ea_cons (ee_ix (ee_name (i := 0) rfl (by first | exact .inl rfl | exact .inr (.inl rfl) | exact .inr (.inr rfl)) rfl) ee_int (id_tup at1)) ea_nil))) (ea_cons (ee_name (i := 1) rfl (by first | exact .inl rfl | exact .inr (.inl rfl) | exact .inr (.inr rfl)) rfl) ea_nil)) ⟨_, _, _, rfl, ?_, rfl⟩ pass0 (hr.mono (by decide)) rfl) ea_nil) ⟨_, _, rfl, ?_, rfl⟩ pass0 (hr.mono (by decide)) rfl) ?_)
  · walk_at "call"
  · walk_at "call"
  show _ = _
  unfold m_p_upper
  all_goals rfl
/-! _law_ratio -/
def m_l_ratio_i1 (k : Int) (cell_here : Int) (way : Int) (top : Int) (under : Int) : Int × Int :=
  if way = (0 : Int) then
    let top := ((cell_here % ((1 : Int) * 2 ^ ((300 : Int)).toNat)) - ((1 : Int) * 2 ^ ((299 : Int)).toNat))
    let under := ((1 : Int) + ((m_l_drawn cell_here ((k + (302 : Int)))) % (1000 : Int)))
    (top, under)
  else
    (top, under)
def m_l_ratio_i3 (top : Int) (under : Int) (power : Int) : Int × Int :=
  if (0 : Int) < power then
    let top := (top * 2 ^ (power).toNat)
    (top, under)
  else
    let under := ((1 : Int) * 2 ^ (((0 : Int) - power)).toNat)
    (top, under)
def m_l_ratio_i2 (k : Int) (width_here : Int) (cell_here : Int) (more : Int) (way : Int) (top : Int) (under : Int) : Int × Int :=
  if (2 : Int) < way then
    let tt := (m_l_number cell_here k width_here ((60 : Int)))
    let whole := tt.1
    let power := tt.2
    let top := (whole * 2 ^ (((width_here + (70 : Int)) - (Builtin.Int.intBits whole : Int))).toNat)
    let under := (1 : Int)
    let top := if (4 : Int) < way then (top + (((1 : Int) * 2 ^ ((69 : Int)).toNat) * ((1 : Int) - ((2 : Int) * ((more / (64 : Int)) % (2 : Int)))))) else top
    let top := if way = (7 : Int) then ((top + (1 : Int)) - ((2 : Int) * ((more / (128 : Int)) % (2 : Int)))) else top
    let tt := m_l_ratio_i3 top under power
    let top := tt.1
    let under := tt.2
    (top, under)
  else
    (top, under)
def m_l_ratio (script : List Int) (k : Int) (width_here : Int) : (Int × Int) :=
  let cell_here := (m_l_cell script k)
  let more := (m_l_drawn cell_here ((k + (300 : Int))))
  let way := (more % (8 : Int))
  let top := ((more / (8 : Int)) - ((1 : Int) * 2 ^ ((124 : Int)).toNat))
  let under := ((1 : Int) + ((m_l_drawn cell_here ((k + (301 : Int)))) / (pk3 ((1 : Int)) (((1 : Int) * 2 ^ ((100 : Int)).toNat)) (((1 : Int) * 2 ^ ((120 : Int)).toNat)) ((more / (8 : Int)) % (3 : Int)))))
  let tt := m_l_ratio_i1 k cell_here way top under
  let top := tt.1
  let under := tt.2
  let tt := m_l_ratio_i2 k width_here cell_here more way top under
  let top := tt.1
  let under := tt.2
  let divisor := (m_l_common top under)
  ((top / divisor), (under / divisor))
theorem ratio_pk {i : Int} : 0 < pk3 (1 : Int) (1 * 2 ^ (100 : Int).toNat) (1 * 2 ^ (120 : Int).toNat) i := by
  unfold pk3; split
  · decide
  · split
    · exact one_pow_pos
    · exact one_pow_pos
theorem ratio_start {c k more t u : Int} (ht : t = more / 8 - 1 * 2 ^ (124 : Int).toNat) (hu : u = 1 + m_l_drawn c k / pk3 (1 : Int) (1 * 2 ^ (100 : Int).toNat) (1 * 2 ^ (120 : Int).toNat) (more / 8 % 3)) (mz : Sz 129 more) : 0 < u ∧ Sz 400 u ∧ Sz 400 t := by
  have p := @ratio_pk (more / 8 % 3)
  refine ⟨?_, ?_, ?_⟩
  · rw [hu]
    have := Int.ediv_nonneg (dr0 c k) (Int.le_of_lt p)
    omega
  · rw [hu]
    exact ((Sz.lit (n := 1) (by decide)).add ((sz_l_drawn (c := c) (k := k)).div p)).mono (by decide)
  · rw [ht]
    exact ((mz.div (by decide)).sub ((Sz.lit (n := 1) (by decide)).shl (k := 124) (by decide))).mono (by decide)
theorem ratio_i1 {k c way t u : Int} (h1 : 0 < u) (h2 : Sz 400 u) (h3 : Sz 400 t) : 0 < (m_l_ratio_i1 k c way t u).2 ∧ Sz 400 (m_l_ratio_i1 k c way t u).2 ∧ Sz 400 (m_l_ratio_i1 k c way t u).1 := by
  unfold m_l_ratio_i1
  split
  · have := Int.emod_nonneg (m_l_drawn c (k + 302)) (show (1000 : Int) ≠ 0 by decide)
    have := Int.emod_lt_of_pos (m_l_drawn c (k + 302)) (show (0 : Int) < 1000 by decide)
    dsimp only
    refine ⟨by omega, Sz.mono (n := 63) (Sz.small (by omega) (by omega)) (by decide), ?_⟩
    have e : Sz 301 (1 * 2 ^ (300 : Int).toNat : Int) := (Sz.lit (n := 1) (by decide)).shl (k := 300) (by decide)
    exact ((Sz.mod e one_pow_pos).sub ((Sz.lit (n := 1) (by decide)).shl (k := 299) (by decide))).mono (by decide)
  · exact ⟨h1, h2, h3⟩
theorem ratio_i3 {t u p : Int} (h1 : 0 < u) (h2 : Sz 30 u) (h3 : Sz 250 t) (q0 : -60 ≤ p) (q1 : p ≤ 124) : 0 < (m_l_ratio_i3 t u p).2 ∧ Sz 400 (m_l_ratio_i3 t u p).2 ∧ Sz 400 (m_l_ratio_i3 t u p).1 := by
  unfold m_l_ratio_i3
  split
  · exact ⟨h1, h2.mono (by decide), (h3.shl (k := 124) (by omega)).mono (by decide)⟩
  · exact ⟨one_pow_pos, ((Sz.lit (n := 1) (by decide)).shl (k := 60) (by omega)).mono (by decide), h3.mono (by decide)⟩
theorem ratio_i2 {k w c more way t u : Int} (hw : 8 ≤ w) (hw1 : w ≤ 64) (h1 : 0 < u) (h2 : Sz 400 u) (h3 : Sz 400 t) : 0 < (m_l_ratio_i2 k w c more way t u).2 ∧ Sz 400 (m_l_ratio_i2 k w c more way t u).2 ∧ Sz 400 (m_l_ratio_i2 k w c more way t u).1 := by
  unfold m_l_ratio_i2
  split
  · have ns := num_spec (c := c) (k := k) (w := w) (f := 60) hw (by decide)
    have nz := num_sz (c := c) (k := k) (w := w) (f := 60) hw hw1 (by decide)
    dsimp only
    generalize m_l_number c k w 60 = n at *
    have z1 : Sz 64 (2 * (more / 64 % 2)) := Sz.mono (n := 63) (Sz.small (by omega) (by omega)) (by decide)
    have z2 : Sz 64 (2 * (more / 128 % 2)) := Sz.mono (n := 63) (Sz.small (by omega) (by omega)) (by decide)
    have z0 : Sz 200 (n.1 * 2 ^ (w + 70 - (Builtin.Int.intBits n.1 : Int)).toNat) := (nz.shl (k := 134) (by omega)).mono (by decide)
    have z3 : Sz 140 (1 * 2 ^ (69 : Int).toNat * (1 - 2 * (more / 64 % 2)) : Int) := (((Sz.lit (n := 1) (by decide)).shl (k := 69) (by decide)).mul ((Sz.lit (n := 1) (by decide)).sub z1)).mono (by decide)
    refine ratio_i3 (by decide) (Sz.lit (by decide)) ?_ (by omega) (by omega)
    have z4 : Sz 201 (if 4 < way then n.1 * 2 ^ (w + 70 - (Builtin.Int.intBits n.1 : Int)).toNat + 1 * 2 ^ (69 : Int).toNat * (1 - 2 * (more / 64 % 2)) else n.1 * 2 ^ (w + 70 - (Builtin.Int.intBits n.1 : Int)).toNat) := ((z0.add z3).ite z0).mono (by decide)
    exact ((((z4.add (Sz.lit (n := 1) (by decide))).sub z2).ite z4).mono (by decide))
  · exact ⟨h1, h2, h3⟩
theorem ratio_div {t u : Int} (h1 : 0 < u) (h2 : Sz 400 u) (h3 : Sz 400 t) : 0 < u / m_l_common t u ∧ Sz 400 (u / m_l_common t u) ∧ Sz 400 (t / m_l_common t u) := by
  have hg : 0 < m_l_common t u := gcd_pos' (by omega)
  refine ⟨?_, h2.div hg, h3.div hg⟩
  have hd : m_l_common t u ∣ u := Int.gcd_dvd_right ..
  exact Int.ediv_pos_of_pos_of_dvd h1 (Int.le_of_lt hg) hd
theorem ratio_low {u p : Int} (hu : u ≠ 0) (hp : 0 ≤ p) : 0 ≤ min ((Builtin.Int.intBits (Builtin.bitAnd u (0 - u)) : Int) - 1) p ∧ min ((Builtin.Int.intBits (Builtin.bitAnd u (0 - u)) : Int) - 1) p ≤ p := by
  obtain ⟨v, m, e1, e2, e3⟩ := bit_split hu
  rw [e3, ib_pow]; omega
theorem ratio_shr {u p : Int} (hu : 0 < u) (hz : Sz 400 u) (hp : 0 ≤ p) : 0 < u / 2 ^ (min ((Builtin.Int.intBits (Builtin.bitAnd u (0 - u)) : Int) - 1) p).toNat ∧ Sz 400 (u / 2 ^ (min ((Builtin.Int.intBits (Builtin.bitAnd u (0 - u)) : Int) - 1) p).toNat) := by
  refine ⟨?_, hz.div pow_pos'⟩
  obtain ⟨v, m, e1, e2, e3⟩ := bit_split (show u ≠ 0 by omega)
  rw [e3, ib_pow]
  obtain ⟨n, hn⟩ := Int.eq_ofNat_of_zero_le (show 0 ≤ min (((v + 1 : Nat) : Int) - 1) p by omega)
  rw [hn]
  have hv : n ≤ v := by omega
  obtain ⟨d, rfl⟩ := Nat.exists_eq_add_of_le hv
  refine Int.ediv_pos_of_pos_of_dvd hu (Int.le_of_lt pow_pos') ?_
  rw [e1, Int.toNat_natCast, Int.pow_add]
  exact ⟨m * 2 ^ d, by grind⟩
theorem ratio_spec {s : List Int} {k w : Int} (hw : 8 ≤ w) (hw1 : w ≤ 64) : 0 < (m_l_ratio s k w).2 ∧ Sz 1500 (m_l_ratio s k w).2 ∧ Sz 1500 (m_l_ratio s k w).1 := by
  unfold m_l_ratio
  dsimp only
  generalize hc : m_l_cell s k = c
  have m0 := dr0 c (k + 300)
  have mz := @sz_l_drawn c (k + 300)
  generalize m_l_drawn c (k + 300) = more at *
  have ⟨r1, r2, r3⟩ := ratio_start (c := c) (k := k + 301) rfl rfl mz
  generalize 1 + m_l_drawn c (k + 301) / pk3 (1 : Int) (1 * 2 ^ (100 : Int).toNat) (1 * 2 ^ (120 : Int).toNat) (more / 8 % 3) = u at *
  generalize more / 8 - 1 * 2 ^ (124 : Int).toNat = t at *
  have ⟨q1, q2, q3⟩ := ratio_i1 (k := k) (c := c) (way := more % 8) r1 r2 r3
  generalize m_l_ratio_i1 k c (more % 8) t u = n1 at *
  have ⟨q4, q5, q6⟩ := ratio_i2 (k := k) (c := c) (more := more) (way := more % 8) hw hw1 q1 q2 q3
  generalize m_l_ratio_i2 k w c more (more % 8) n1.1 n1.2 = n2 at *
  have ⟨q7, q8, q9⟩ := ratio_div q4 q5 q6
  generalize n2.2 / m_l_common n2.1 n2.2 = u' at *
  generalize n2.1 / m_l_common n2.1 n2.2 = t' at *
  exact ⟨q7, q8.mono (by decide), q9.mono (by decide)⟩

abbrev R_l_ratio : List Dt → Dt → Prop := fun ds d => ∃ (script : List Int) (k : Int) (width_here : Int), ds = [.scr script, .int k, .int width_here] ∧ ((∀ n ∈ script, Sz 1048576 n) ∧ script.length ≤ 63 ∧ (0 ≤ k ∧ k ≤ 1000000) ∧ (8 ≤ width_here ∧ width_here ≤ 64)) ∧ d = .tup [.int ((m_l_ratio script k width_here).1), .int ((m_l_ratio script k width_here).2)]
theorem sc_l_ratio : FnScope ["_law_script", "_law_k", "_law_width_here", "_law_cell_here", "_law_more", "_law_way", "_law_top", "_law_under", "_law_whole", "_law_power", "_law_divisor"] ["_law_script", "_law_k", "_law_width_here"] (defScope s_l_ratio) := ⟨rfl, rfl, rfl, by decide +kernel, rfl, by decide +kernel, by decide +kernel⟩
theorem ok_l_ratio {P : Program} {w : World} {K : PySem.W.Frag} {mg : Str → Option Value} {base : Heap} {f : Addr} {fd : FuncData} (F : Fun K "_law_ratio" "_law_ratio" s_l_ratio f fd) (C_l_cell : Clb P w K mg base CX0 1 "_law_cell" (spR K R_l_cell)) (C_l_common : Clb P w K mg base CX0 1 "_law_common" (spR K R_l_common)) (C_l_drawn : Clb P w K mg base CX0 1 "_law_drawn" (spR K R_l_drawn)) (C_l_number : Clb P w K mg base CX0 2 "_law_number" (spR K R_l_number))  : FnOk P w K mg base CX0 3 f fd ["_law_script", "_law_k", "_law_width_here"] (spR K R_l_ratio) := by
  refine fn_R (k := 2) F sc_l_ratio (fun ds d h => by obtain ⟨_, _, _, rfl, _⟩ := h; rfl) (fun cdv A outer s H E hr ds d h => ?_)
  obtain ⟨script, k, width_here, rfl, ⟨pn, pl, ⟨pk0, pk1⟩, pw0, pw1⟩, rfl⟩ := h
  have pS := And.intro pn pl
  -- _law_cell_here = _law_cell(_law_script, _law_k)
  refine ss_cons (s1_asgI (i := 3) (ee_call C_l_cell (ea_cons (ee_name (i := 0) rfl (by first | exact .inl rfl | exact .inr (.inl rfl) | exact .inr (.inr rfl)) rfl) (ea_cons (ee_name (i := 1) rfl (by first | exact .inl rfl | exact .inr (.inl rfl) | exact .inr (.inr rfl)) rfl) ea_nil)) ⟨_, _, rfl, ?_, rfl⟩ pass0 (hr.mono (by decide)) rfl) ?_ sc_l_ratio.nd rfl (by first | exact .inl rfl | exact .inr rfl))
  · walk_at "call"
  intro cell_here h_cell_here
  walk_at "nx"
  have cz : Sz 1048578 cell_here := by rw [h_cell_here]; exact sz_l_cell pn pl pk0 pk1
  -- _law_more = _law_drawn(_law_cell_here, _law_k + 300)
  refine ss_cons (s1_asgI (i := 4) (ee_call C_l_drawn (ea_cons (ee_name (i := 3) rfl (by first | exact .inl rfl | exact .inr (.inl rfl) | exact .inr (.inr rfl)) rfl) (ea_cons (ee_bin (ee_name (i := 1) rfl (by first | exact .inl rfl | exact .inr (.inl rfl) | exact .inr (.inr rfl)) rfl) ee_int od_add) ea_nil)) ⟨_, _, rfl, ?_, rfl⟩ pass0 (hr.mono (by decide)) rfl) ?_ sc_l_ratio.nd rfl (by first | exact .inl rfl | exact .inr rfl))
  · walk_at "call"
  intro more h_more
  walk_at "nx"
  have mr0 : 0 ≤ more := by rw [h_more]; exact dr0 _ _
  have mrz : Sz 129 more := by rw [h_more]; exact sz_l_drawn
  -- _law_way = _law_more % 8
  refine ss_cons (s1_asgI (i := 5) (ee_bin (ee_name (i := 4) rfl (by first | exact .inl rfl | exact .inr (.inl rfl) | exact .inr (.inr rfl)) rfl) ee_int (od_mod (by decide))) ?_ sc_l_ratio.nd rfl (by first | exact .inl rfl | exact .inr rfl))
  intro way h_way
  walk_at "nx"
  -- _law_top = _law_more // 8 - (1 << 124)
  refine ss_cons (s1_asgI (i := 6) (ee_bin (ee_bin (ee_name (i := 4) rfl (by first | exact .inl rfl | exact .inr (.inl rfl) | exact .inr (.inr rfl)) rfl) ee_int (od_div (by decide) (by decide))) (ee_bin ee_int ee_int (od_shl ?_)) od_sub) ?_ sc_l_ratio.nd rfl (by first | exact .inl rfl | exact .inr rfl))
  · walk_at "shl"
  intro top h_top
  walk_at "nx"
  -- _law_under = 1 + _law_drawn(_law_cell_here, _law_k + 301) // [1, 1 << 100, 1 << 120][_law_more // 8 % 3]
  refine ss_cons (s1_asgI (i := 7) (ee_bin ee_int (ee_bin (ee_call C_l_drawn (ea_cons (ee_name (i := 3) rfl (by first | exact .inl rfl | exact .inr (.inl rfl) | exact .inr (.inr rfl)) rfl) (ea_cons (ee_bin (ee_name (i := 1) rfl (by first | exact .inl rfl | exact .inr (.inl rfl) | exact .inr (.inr rfl)) rfl) ee_int od_add) ea_nil)) ⟨_, _, rfl, ?_, rfl⟩ pass0 (hr.mono (by decide)) rfl) (ee_ix (EO.ee (eo_lst (ea_cons ee_int (ea_cons (ee_bin ee_int ee_int (od_shl ?_)) (ea_cons (ee_bin ee_int ee_int (od_shl ?_)) ea_nil))))) (ee_bin (ee_bin (ee_name (i := 4) rfl (by first | exact .inl rfl | exact .inr (.inl rfl) | exact .inr (.inr rfl)) rfl) ee_int (od_div (by decide) (by decide))) ee_int (od_mod (by decide))) (id_lst (pick3 ?_ ?_))) (od_div ?_ ?_)) od_add) ?_ sc_l_ratio.nd rfl (by first | exact .inl rfl | exact .inr rfl))
  · walk_at "call"
  · walk_at "shl"
  · walk_at "shl"
  · walk_at "sd"
  · walk_at "sd"
  · exact ratio_pk
  · walk_at "nb"
  intro under h_under
  walk_at "nx"
  have ⟨r1, r2, r3⟩ := ratio_start h_top h_under mrz
  -- if _law_way == 0:
  refine ss_cons (s1_ifM (fun δ => ∃ (v1 v2 v3 : Option Sl) (top_2 under_2 : Int), (top_2 = (m_l_ratio_i1 k cell_here way top under).1) ∧ (under_2 = (m_l_ratio_i1 k cell_here way top under).2) ∧ δ = [some (.val (.scr script)), some (.val (.int k)), some (.val (.int width_here)), some (.val (.int cell_here)), some (.val (.int more)), some (.val (.int way)), some (.val (.int top_2)), some (.val (.int under_2)), v1, v2, v3]) (et_cmp (ee_name (i := 5) rfl (by first | exact .inl rfl | exact .inr (.inl rfl) | exact .inr (.inr rfl)) rfl) ee_int cd_eqI) (fun hp1 => ?_) (fun hp1 => ?_) ?_)
  ·
    -- _law_top = _law_cell_here % (1 << 300) - (1 << 299)
    refine ss_cons (s1_asgI (i := 6) (ee_bin (ee_bin (ee_name (i := 3) rfl (by first | exact .inl rfl | exact .inr (.inl rfl) | exact .inr (.inr rfl)) rfl) (ee_bin ee_int ee_int (od_shl ?_)) (od_mod ?_)) (ee_bin ee_int ee_int (od_shl ?_)) od_sub) ?_ sc_l_ratio.nd rfl (by first | exact .inl rfl | exact .inr rfl))
    · walk_at "shl"
    · walk_at "pos"
    · walk_at "shl"
    intro top_3 h_top_3
    walk_at "nx"
    -- _law_under = 1 + _law_drawn(_law_cell_here, _law_k + 302) % 1000
    refine ss_cons (s1_asgI (i := 7) (ee_bin ee_int (ee_bin (ee_call C_l_drawn (ea_cons (ee_name (i := 3) rfl (by first | exact .inl rfl | exact .inr (.inl rfl) | exact .inr (.inr rfl)) rfl) (ea_cons (ee_bin (ee_name (i := 1) rfl (by first | exact .inl rfl | exact .inr (.inl rfl) | exact .inr (.inr rfl)) rfl) ee_int od_add) ea_nil)) ⟨_, _, rfl, ?_, rfl⟩ pass0 (hr.mono (by decide)) rfl) ee_int (od_mod (by decide))) od_add) ?_ sc_l_ratio.nd rfl (by first | exact .inl rfl | exact .inr rfl))
    · walk_at "call"
    intro under_3 h_under_3
    walk_at "nx"
    refine ss_nil ⟨_, _, _, top_3, under_3, ?_, ?_, rfl⟩
    · show _ = _
      subst h_under_3
      subst h_top_3
      unfold m_l_ratio_i1
      (try dsimp only)
      rw [if_pos hp1]
      all_goals (try rfl)
    · show _ = _
      subst h_under_3
      subst h_top_3
      unfold m_l_ratio_i1
      (try dsimp only)
      rw [if_pos hp1]
      all_goals (try rfl)
  ·
    refine ss_nil ⟨_, _, _, top, under, ?_, ?_, rfl⟩
    · show _ = _
      unfold m_l_ratio_i1
      (try dsimp only)
      rw [if_neg hp1]
      all_goals (try rfl)
    · show _ = _
      unfold m_l_ratio_i1
      (try dsimp only)
      rw [if_neg hp1]
      all_goals (try rfl)
  rintro δ0 ⟨v1, v2, v3, top_2, under_2, h_top_2, h_under_2, rfl⟩
  walk_at "nx"
  have ⟨q1, q2, q3⟩ : 0 < under_2 ∧ Sz 400 under_2 ∧ Sz 400 top_2 := by rw [h_top_2, h_under_2]; exact ratio_i1 r1 r2 r3
  -- if _law_way > 2:
  refine ss_cons (s1_ifM (fun δ => ∃ (v1 v2 v3 : Option Sl) (top_4 under_4 : Int), (top_4 = (m_l_ratio_i2 k width_here cell_here more way top_2 under_2).1) ∧ (under_4 = (m_l_ratio_i2 k width_here cell_here more way top_2 under_2).2) ∧ δ = [some (.val (.scr script)), some (.val (.int k)), some (.val (.int width_here)), some (.val (.int cell_here)), some (.val (.int more)), some (.val (.int way)), some (.val (.int top_4)), some (.val (.int under_4)), v1, v2, v3]) (et_cmp (ee_name (i := 5) rfl (by first | exact .inl rfl | exact .inr (.inl rfl) | exact .inr (.inr rfl)) rfl) ee_int cd_gt) (fun hp2 => ?_) (fun hp2 => ?_) ?_)
  ·
    -- _law_whole, _law_power = _law_number(_law_cell_here, _law_k, _law_width_here, 60)
    refine ss_cons (s1_unp2 (i := 8) (j := 9) (ee_call C_l_number (ea_cons (ee_name (i := 3) rfl (by first | exact .inl rfl | exact .inr (.inl rfl) | exact .inr (.inr rfl)) rfl) (ea_cons (ee_name (i := 1) rfl (by first | exact .inl rfl | exact .inr (.inl rfl) | exact .inr (.inr rfl)) rfl) (ea_cons (ee_name (i := 2) rfl (by first | exact .inl rfl | exact .inr (.inl rfl) | exact .inr (.inr rfl)) rfl) (ea_cons ee_int ea_nil)))) ⟨_, _, _, _, rfl, ?_, rfl⟩ pass0 (hr.mono (by decide)) rfl) (fun _ _ => (gt_tup rfl (gts_cons (gt_name sc_l_ratio.nd (i := 8) rfl (by first | exact .inl rfl | exact .inr rfl)) (gts_cons (gt_name sc_l_ratio.nd (i := 9) rfl (by first | exact .inl rfl | exact .inr rfl)) gts_nil)))) ?_)
    · walk_at "call"
    intro whole power h_whole h_power
    walk_at "nx"
    have ns := num_spec (c := cell_here) (k := k) (w := width_here) (f := 60) pw0 (by decide)
    have nz := num_sz (c := cell_here) (k := k) (w := width_here) (f := 60) pw0 pw1 (by decide)
    rw [← h_whole] at nz
    have hbl : (Builtin.Int.intBits whole : Int) ≤ width_here := by rw [h_whole]; have := ib_le ns.2.1; omega
    have hpw : -60 ≤ power ∧ power ≤ 124 := by rw [h_power]; omega
    -- _law_top = _law_whole << _law_width_here + 70 - _law_whole.bit_length()
    refine ss_cons (s1_asgI (i := 6) (ee_bin (ee_name (i := 8) rfl (by first | exact .inl rfl | exact .inr (.inl rfl) | exact .inr (.inr rfl)) rfl) (ee_bin (ee_bin (ee_name (i := 2) rfl (by first | exact .inl rfl | exact .inr (.inl rfl) | exact .inr (.inr rfl)) rfl) ee_int od_add) (ee_bits (ee_name (i := 8) rfl (by first | exact .inl rfl | exact .inr (.inl rfl) | exact .inr (.inr rfl)) rfl)) od_sub) (od_shl ?_)) ?_ sc_l_ratio.nd rfl (by first | exact .inl rfl | exact .inr rfl))
    · walk_at "shl"
    intro top_5 h_top_5
    walk_at "nx"
    -- _law_under = 1
    refine ss_cons (s1_asgI (i := 7) ee_int ?_ sc_l_ratio.nd rfl (by first | exact .inl rfl | exact .inr rfl))
    intro under_5 h_under_5
    walk_at "nx"
    -- if _law_way > 4:
    refine ss_cons (s1_ifI (i := 6) (et_cmp (ee_name (i := 5) rfl (by first | exact .inl rfl | exact .inr (.inl rfl) | exact .inr (.inr rfl)) rfl) ee_int cd_gt) (fun hp => (ee_bin (ee_name (i := 6) rfl (by first | exact .inl rfl | exact .inr (.inl rfl) | exact .inr (.inr rfl)) rfl) (ee_bin (ee_bin ee_int ee_int (od_shl ?_)) (ee_bin ee_int (ee_bin ee_int (ee_bin (ee_bin (ee_name (i := 4) rfl (by first | exact .inl rfl | exact .inr (.inl rfl) | exact .inr (.inr rfl)) rfl) ee_int (od_div (by decide) (by decide))) ee_int (od_mod (by decide))) (od_mul ?_)) od_sub) (od_mul ?_)) od_add)) rfl ?_ sc_l_ratio.nd rfl (by first | exact .inl rfl | exact .inr rfl))
    · walk_at "shl"
    · walk_at "mul"
    · walk_at "mul"
    intro top_6 h1 h2; have h_top_6 := ite_of h1 h2; clear h1 h2
    walk_at "nx"
    -- if _law_way == 7:
    refine ss_cons (s1_ifI (i := 6) (et_cmp (ee_name (i := 5) rfl (by first | exact .inl rfl | exact .inr (.inl rfl) | exact .inr (.inr rfl)) rfl) ee_int cd_eqI) (fun hp => (ee_bin (ee_bin (ee_name (i := 6) rfl (by first | exact .inl rfl | exact .inr (.inl rfl) | exact .inr (.inr rfl)) rfl) ee_int od_add) (ee_bin ee_int (ee_bin (ee_bin (ee_name (i := 4) rfl (by first | exact .inl rfl | exact .inr (.inl rfl) | exact .inr (.inr rfl)) rfl) ee_int (od_div (by decide) (by decide))) ee_int (od_mod (by decide))) (od_mul ?_)) od_sub)) rfl ?_ sc_l_ratio.nd rfl (by first | exact .inl rfl | exact .inr rfl))
    · walk_at "mul"
    intro top_7 h1 h2; have h_top_7 := ite_of h1 h2; clear h1 h2
    walk_at "nx"
    -- if _law_power > 0:
    refine ss_cons (s1_ifM (fun δ => ∃ (v1 : Option Sl) (top_8 under_6 : Int), (top_8 = (m_l_ratio_i3 top_7 under_5 power).1) ∧ (under_6 = (m_l_ratio_i3 top_7 under_5 power).2) ∧ δ = [some (.val (.scr script)), some (.val (.int k)), some (.val (.int width_here)), some (.val (.int cell_here)), some (.val (.int more)), some (.val (.int way)), some (.val (.int top_8)), some (.val (.int under_6)), some (.val (.int whole)), some (.val (.int power)), v1]) (et_cmp (ee_name (i := 9) rfl (by first | exact .inl rfl | exact .inr (.inl rfl) | exact .inr (.inr rfl)) rfl) ee_int cd_gt) (fun hp3 => ?_) (fun hp3 => ?_) ?_)
    ·
      -- _law_top = _law_top << _law_power
      refine ss_cons (s1_asgI (i := 6) (ee_bin (ee_name (i := 6) rfl (by first | exact .inl rfl | exact .inr (.inl rfl) | exact .inr (.inr rfl)) rfl) (ee_name (i := 9) rfl (by first | exact .inl rfl | exact .inr (.inl rfl) | exact .inr (.inr rfl)) rfl) (od_shl ?_)) ?_ sc_l_ratio.nd rfl (by first | exact .inl rfl | exact .inr rfl))
      · walk_at "shl"
      intro top_9 h_top_9
      walk_at "nx"
      refine ss_nil ⟨_, top_9, under_5, ?_, ?_, rfl⟩
      · show _ = _
        subst h_top_9
        unfold m_l_ratio_i3
        (try dsimp only)
        rw [if_pos hp3]
        all_goals (try rfl)
      · show _ = _
        subst h_top_9
        unfold m_l_ratio_i3
        (try dsimp only)
        rw [if_pos hp3]
        all_goals (try rfl)
    ·
      -- _law_under = 1 << 0 - _law_power
      refine ss_cons (s1_asgI (i := 7) (ee_bin ee_int (ee_bin ee_int (ee_name (i := 9) rfl (by first | exact .inl rfl | exact .inr (.inl rfl) | exact .inr (.inr rfl)) rfl) od_sub) (od_shl ?_)) ?_ sc_l_ratio.nd rfl (by first | exact .inl rfl | exact .inr rfl))
      · walk_at "shl"
      intro under_7 h_under_7
      walk_at "nx"
      refine ss_nil ⟨_, top_7, under_7, ?_, ?_, rfl⟩
      · show _ = _
        subst h_under_7
        unfold m_l_ratio_i3
        (try dsimp only)
        rw [if_neg hp3]
        all_goals (try rfl)
      · show _ = _
        subst h_under_7
        unfold m_l_ratio_i3
        (try dsimp only)
        rw [if_neg hp3]
        all_goals (try rfl)
    rintro δ0 ⟨v1, top_8, under_6, h_top_8, h_under_6, rfl⟩
    walk_at "nx"
    refine ss_nil ⟨_, _, _, top_8, under_6, ?_, ?_, rfl⟩
    · show _ = _
      subst h_under_6
      subst h_top_8
      subst h_top_7
      subst h_top_6
      subst h_under_5
      subst h_top_5
      subst h_power
      subst h_whole
      unfold m_l_ratio_i2
      (try dsimp only)
      rw [if_pos hp2]
      all_goals (try rfl)
    · show _ = _
      subst h_under_6
      subst h_top_8
      subst h_top_7
      subst h_top_6
      subst h_under_5
      subst h_top_5
      subst h_power
      subst h_whole
      unfold m_l_ratio_i2
      (try dsimp only)
      rw [if_pos hp2]
      all_goals (try rfl)
  ·
    refine ss_nil ⟨_, _, _, top_2, under_2, ?_, ?_, rfl⟩
    · show _ = _
      unfold m_l_ratio_i2
      (try dsimp only)
      rw [if_neg hp2]
      all_goals (try rfl)
    · show _ = _
      unfold m_l_ratio_i2
      (try dsimp only)
      rw [if_neg hp2]
      all_goals (try rfl)
  rintro δ0 ⟨v1, v2, v3, top_4, under_4, h_top_4, h_under_4, rfl⟩
  walk_at "nx"
  have ⟨q4, q5, q6⟩ : 0 < under_4 ∧ Sz 400 under_4 ∧ Sz 400 top_4 := by rw [h_top_4, h_under_4]; exact ratio_i2 pw0 pw1 q1 q2 q3
  -- _law_divisor = _law_common(_law_top, _law_under)
  refine ss_cons (s1_asgI (i := 10) (ee_call C_l_common (ea_cons (ee_name (i := 6) rfl (by first | exact .inl rfl | exact .inr (.inl rfl) | exact .inr (.inr rfl)) rfl) (ea_cons (ee_name (i := 7) rfl (by first | exact .inl rfl | exact .inr (.inl rfl) | exact .inr (.inr rfl)) rfl) ea_nil)) ⟨_, _, rfl, ?_, rfl⟩ pass0 (hr.mono (by decide)) rfl) ?_ sc_l_ratio.nd rfl (by first | exact .inl rfl | exact .inr rfl))
  · walk_at "call"
  intro divisor h_divisor
  walk_at "nx"
  have hg0 : 0 < divisor := by rw [h_divisor]; exact gcd_pos' (by omega)
  have hgz : Sz 400 divisor := by rw [h_divisor]; exact sz_gcd q5 (by omega)
  -- return (_law_top // _law_divisor, _law_under // _law_divisor)
  refine ss_one (s1_ret (ee_tup (ea_cons (ee_bin (ee_name (i := 6) rfl (by first | exact .inl rfl | exact .inr (.inl rfl) | exact .inr (.inr rfl)) rfl) (ee_name (i := 10) rfl (by first | exact .inl rfl | exact .inr (.inl rfl) | exact .inr (.inr rfl)) rfl) (od_div ?_ ?_)) (ea_cons (ee_bin (ee_name (i := 7) rfl (by first | exact .inl rfl | exact .inr (.inl rfl) | exact .inr (.inr rfl)) rfl) (ee_name (i := 10) rfl (by first | exact .inl rfl | exact .inr (.inl rfl) | exact .inr (.inr rfl)) rfl) (od_div ?_ ?_)) ea_nil))) ?_)
  · walk_at "pos"
  · walk_at "nb"
  · walk_at "pos"
  · walk_at "nb"
  show _ = _
  subst h_divisor
  subst h_under_4
  subst h_top_4
  subst h_under_2
  subst h_top_2
  subst h_under
  subst h_top
  subst h_way
  subst h_more
  subst h_cell_here
  unfold m_l_ratio
  all_goals rfl
/-! _law_single -/
def m_l_single (given : (Int × Int)) (width_here : Int) : Bool :=
  let told := (m_p_near given width_here)
  if ((¬ ((m_l_ordered ((m_p_lower given width_here)) told) = true)) ∨ (¬ ((m_l_ordered told ((m_p_upper given width_here))) = true))) then
    false
  else
    if ((((eqB (.tup [.int told.1, .int told.2] : Dt) (.tup [.int (((m_p_lower given width_here)).1), .int (((m_p_lower given width_here)).2)] : Dt) = false) ∧ (eqB (.tup [.int told.1, .int told.2] : Dt) (.tup [.int (((m_p_upper given width_here)).1), .int (((m_p_upper given width_here)).2)] : Dt) = false))) ∨ (eqB (.tup [.int (((m_p_near ((m_p_value told)) width_here)).1), .int (((m_p_near ((m_p_value told)) width_here)).2)] : Dt) (.tup [.int told.1, .int told.2] : Dt) = false)) then
      false
    else
      if eqB (.tup [.int (((m_p_near ((((0 : Int) - given.1), given.2)) width_here)).1), .int (((m_p_near ((((0 : Int) - given.1), given.2)) width_here)).2)] : Dt) (.tup [.int (((m_p_opposite told)).1), .int (((m_p_opposite told)).2)] : Dt) = false then
        false
      else
        let twice := (m_p_near ((m_p_ratio (((2 : Int) * given.1)) given.2)) width_here)
        (((decide (eqB (.tup [.int twice.1, .int twice.2] : Dt) (.tup [.int ((((0 : Int), (0 : Int))).1), .int ((((0 : Int), (0 : Int))).2)] : Dt) = true)) && (decide (eqB (.tup [.int told.1, .int told.2] : Dt) (.tup [.int ((((0 : Int), (0 : Int))).1), .int ((((0 : Int), (0 : Int))).2)] : Dt) = true))) || (decide (eqB (.tup [.int twice.1, .int twice.2] : Dt) (.tup [.int (((told.1, (told.2 + (1 : Int)))).1), .int (((told.1, (told.2 + (1 : Int)))).2)] : Dt) = true)))
theorem upper_sz {t u w : Int} (hu : 0 < u) (hw : 1 ≤ w) (hw2 : w ≤ 64) (zt : Sz 2900 t) (zu : Sz 3000 u) : Sz 64 (m_p_upper (t, u) w).1 ∧ -4200 ≤ (m_p_upper (t, u) w).2 ∧ (m_p_upper (t, u) w).2 ≤ 4200 := by
  have := lower_sz (t := 0 - t) hu hw hw2 (((Sz.lit (n := 1) (by decide)).sub zt).mono (by decide)) zu
  refine ⟨?_, this.2⟩
  show Sz 64 (0 - (m_p_lower (0 - t, u) w).1)
  have h := this.1
  unfold Sz at *; omega
theorem value_s18 {a p : Int} (h : Sz 64 a) (h0 : -1700 ≤ p) (h1 : p ≤ 1700) : Sz 1800 (m_p_value (a, p)).1 ∧ Sz 1800 (m_p_value (a, p)).2 := by
  unfold m_p_value
  dsimp only
  split
  · exact ⟨(h.shl (k := 1700) (by omega)).mono (by decide), Sz.mono (n := 1) (show Sz 1 1 from Sz.lit (by decide)) (by decide)⟩
  · exact ⟨h.mono (by decide), ((Sz.lit (n := 1) (by decide)).shl (k := 1700) (by omega)).mono (by decide)⟩
theorem low_near {t u w : Int} (hu : 0 < u) (hw : 2 ≤ w) : val (m_p_lower (t, u) w) ≤ val (m_p_near (t, u) w) ∧ val (m_p_near (t, u) w) ≤ val (m_p_upper (t, u) w) ∧ (m_p_near (t, u) w = m_p_lower (t, u) w ∨ m_p_near (t, u) w = m_p_upper (t, u) w) := by
  by_cases ht : t = 0
  · subst ht
    exact ⟨Rat.le_refl, Rat.le_refl, .inl rfl⟩
  · have ⟨P, _, _⟩ := placed_spec (top := (t.natAbs : Int)) (w := w) (by omega) hu (show 1 ≤ w by omega)
    unfold m_p_near m_p_near_parts m_p_upper m_p_opposite m_p_lower
    dsimp only
    rw [if_neg ht, if_neg ht, if_neg (show ¬ 0 - t = 0 by omega), show (0 - t).natAbs = t.natAbs by omega]
    generalize m_p_placed (t.natAbs : Int) u w = pl at *
    obtain ⟨wh, lf, pt, p⟩ := pl
    dsimp only at *
    have hU := @UU_pos u p hu
    have l3 := P.le
    have l5 := P.gt
    have l6 := P.eq
    have l7 := P.pos
    have s2 : (2 * wh + 1) * UU u p = 2 * (wh * UU u p) + UU u p := by grind
    rw [s2] at l5 l6
    have ng : ∀ x : Int, (0 - (m_p_bare_number x p).1, (m_p_bare_number x p).2) = m_p_bare_number (-x) p := fun x => by rw [bare_neg, Int.zero_sub]
    have key : ∀ d z : Int, (d = if 0 < lf then 1 else 0) → (z = if pt < 2 * lf ∨ (2 * lf = pt ∧ wh % 2 = 1) then wh + 1 else wh) → wh ≤ z ∧ z ≤ wh + d ∧ (z = wh ∨ z = wh + d) := by
      intro d z h1 h2
      split at h2
      · rename_i h
        have : 0 < lf := by
          rcases h with k | k
          · omega
          · omega
        rw [if_pos this] at h1
        omega
      · split at h1 <;> omega
    have kk := key (b2i (decide (0 < lf))) _ (by unfold b2i; by_cases q : 0 < lf <;> simp [q]) rfl
    generalize b2i (decide (0 < lf)) = d at *
    generalize (if pt < 2 * lf ∨ (2 * lf = pt ∧ wh % 2 = 1) then wh + 1 else wh) = z at *
    obtain ⟨k1, k2, k3⟩ := kk
    by_cases h0 : t < 0
    · rw [if_pos h0, if_neg (show ¬ 0 - t < 0 by omega), ng, if_pos h0, bare_val, bare_val, bare_val]
      refine ⟨e2_le.mpr (by omega), e2_le.mpr (by omega), ?_⟩
      rcases k3 with k | k
      · right; rw [k, Int.zero_sub]
      · left; rw [k, show 0 - (wh + d) = 0 - wh - d by omega]
    · rw [if_neg h0, if_pos (show 0 - t < 0 by omega), ng, if_neg h0, bare_val, bare_val, bare_val]
      refine ⟨e2_le.mpr (by omega), e2_le.mpr (by omega), ?_⟩
      rcases k3 with k | k
      · left; rw [k]
      · right; rw [k, show -(0 - wh - d) = wh + d by omega]
theorem NrQ.dbl {w y p : Int} {q : Rat} (h : NrQ w q y p) : NrQ w (2 * q) y (p + 1) := by
  have e : ∀ a : Rat, a * e2 (p + 1) = 2 * (a * e2 p) := fun a => by rw [e2_succ]; grind
  obtain ⟨⟨h1, h2⟩, h3, h4, h5, h6, h7, h8⟩ := h
  refine ⟨⟨?_, ?_⟩, h3, h4, ?_, ?_, ?_, ?_⟩
  all_goals rw [e]
  · grind
  · grind
  · grind
  · grind
  · intro z; exact h7 (by grind)
  · intro z; exact h8 (by grind)
theorem near_dbl {t u w : Int} (ht : t ≠ 0) (hu : 0 < u) (hw : 2 ≤ w) : m_p_near_parts (2 * t) u w = ((m_p_near_parts t u w).1, (m_p_near_parts t u w).2 + 1) := by
  obtain ⟨x, p, e, a1, a2, a3⟩ := near_q ht hu hw
  obtain ⟨x', p', e', b1, b2, b3⟩ := near_q (t := 2 * t) (by omega) hu hw
  have hq : rat (((2 * t).natAbs : Int), u) = 2 * rat ((t.natAbs : Int), u) := by
    rw [show ((2 * t).natAbs : Int) = 2 * (t.natAbs : Int) by omega]
    unfold rat; dsimp only
    rw [Rat.intCast_mul, Rat.div_def, Rat.div_def, Rat.mul_assoc]; rfl
  rw [hq] at b3
  obtain ⟨u1, u2⟩ := b3.uniq (by omega) a3.dbl
  have : x' = x := by omega
  rw [e, e', this, u2, bare_up (by omega)]
theorem ordered_of {a b : Int × Int} (h : val a ≤ val b) : m_l_ordered a b = true := by
  unfold m_l_ordered
  rw [decide_eq_true_iff, order_rat (value_rat a).2 (value_rat b).2, (value_rat a).1, (value_rat b).1]
  rw [if_neg (fun z => Rat.lt_irrefl (q_lt_le z h))]
  split <;> decide
theorem eqB_pair {x y : Int × Int} : eqB (.tup [.int x.1, .int x.2]) (.tup [.int y.1, .int y.2]) = decide (x = y) := by
  rw [eqB_tup2]
  exact decide_eq_decide.mpr Prod.ext_iff.symm
theorem ne1 {x y : Int × Int} (h : x = y) : ¬ (eqB (.tup [.int x.1, .int x.2]) (.tup [.int y.1, .int y.2]) = false) := by
  rw [eqB_pair, h, decide_eq_true rfl]; exact fun z => Bool.noConfusion z
theorem eqT {x y : Int × Int} (h : x = y) : eqB (.tup [.int x.1, .int x.2]) (.tup [.int y.1, .int y.2]) = true := by
  rw [eqB_pair, h, decide_eq_true rfl]
theorem ifn {c : Prop} [Decidable c] {x : Bool} (h : ¬ c) (k : x = true) : (if c then false else x) = true := by rw [if_neg h]; exact k
theorem single_ok {t u w : Int} (hu : 0 < u) (hw : 8 ≤ w) : m_l_single (t, u) w = true := by
  have L := low_near (t := t) hu (show 2 ≤ w by omega)
  obtain ⟨n1, n2⟩ := near_num (t := t) hu (show 2 ≤ w by omega)
  have hs : m_p_near (m_p_value (m_p_near (t, u) w)) w = m_p_near (t, u) w := by
    have v := value_rat (m_p_near (t, u) w)
    exact near_self v.2 (by omega) n1 n2 v.1
  unfold m_l_single
  dsimp only
  refine ifn (fun h => h.elim (fun z => z (ordered_of L.1)) (fun z => z (ordered_of L.2.1))) ?_
  refine ifn (fun h => h.elim (fun z => L.2.2.elim (fun q => ne1 q z.1) (fun q => ne1 q z.2)) (ne1 hs)) ?_
  refine ifn (ne1 ?_) ?_
  · show m_p_near_parts (0 - t) u w = (0 - (m_p_near_parts t u w).1, (m_p_near_parts t u w).2)
    rw [Int.zero_sub, near_neg hu (by omega), Int.zero_sub]
  · have e : m_p_near (m_p_ratio (2 * t) u) w = m_p_near_parts (2 * t) u w := by
      have c := ratio_canon (t := 2 * t) (u := u) (by omega)
      rw [c]
      exact near_congr (canon_pos _) hu (by omega) (rat_canon _)
    rw [Bool.or_eq_true]
    by_cases ht : t = 0
    · left
      rw [Bool.and_eq_true, decide_eq_true_iff, decide_eq_true_iff]
      subst ht
      exact ⟨eqT (y := (0, 0)) (by rw [e]; rfl), eqT (y := (0, 0)) rfl⟩
    · right
      rw [decide_eq_true_iff]
      exact eqT (y := ((m_p_near (t, u) w).1, (m_p_near (t, u) w).2 + 1)) (by rw [e]; exact near_dbl ht hu (by omega))

abbrev R_l_single : List Dt → Dt → Prop := fun ds d => ∃ (given0 given1 : Int) (width_here : Int), ds = [.tup [.int given0, .int given1], .int width_here] ∧ ((Sz 1600 given0 ∧ 0 < given1 ∧ Sz 1600 given1) ∧ (8 ≤ width_here ∧ width_here ≤ 64)) ∧ d = .bl (m_l_single (given0, given1) width_here)
theorem sc_l_single : FnScope ["_law_given", "_law_width_here", "_law_told", "_law_twice"] ["_law_given", "_law_width_here"] (defScope s_l_single) := ⟨rfl, rfl, rfl, by decide +kernel, rfl, by decide +kernel, by decide +kernel⟩
theorem ok_l_single {P : Program} {w : World} {K : PySem.W.Frag} {mg : Str → Option Value} {base : Heap} {f : Addr} {fd : FuncData} (F : Fun K "_law_single" "_law_single" s_l_single f fd) (C_l_ordered : Clb P w K mg base CX0 2 "_law_ordered" (spR K R_l_ordered)) (C_p_lower : Clb P w K mg base CX0 2 "lower" (spR K R_p_lower)) (C_p_near : Clb P w K mg base CX0 3 "near" (spR K R_p_near)) (C_p_opposite : Clb P w K mg base CX0 1 "opposite" (spR K R_p_opposite)) (C_p_ratio : Clb P w K mg base CX0 2 "ratio" (spR K R_p_ratio)) (C_p_upper : Clb P w K mg base CX0 3 "upper" (spR K R_p_upper)) (C_p_value : Clb P w K mg base CX0 1 "value" (spR K R_p_value))  : FnOk P w K mg base CX0 4 f fd ["_law_given", "_law_width_here"] (spR K R_l_single) := by
  refine fn_R (k := 3) F sc_l_single (fun ds d h => by obtain ⟨_, _, _, rfl, _⟩ := h; rfl) (fun cdv A outer s H E hr ds d h => ?_)
  obtain ⟨given0, given1, width_here, rfl, ⟨⟨pg0, pg1, pg2⟩, pw0, pw1⟩, rfl⟩ := h
  have g3 : Sz 1602 (0 - given0) := ((Sz.lit (n := 1) (by decide)).sub pg0).mono (by decide)
  have ⟨n1, n2, n3⟩ := nr_szn (t := given0) pg1 (show 2 ≤ width_here by omega) pw1 pg0 pg2
  have ⟨l1, l2, l3⟩ := lower_sz (t := given0) pg1 (show 1 ≤ width_here by omega) pw1 (pg0.mono (by decide)) (pg2.mono (by decide))
  have ⟨u1, u2, u3⟩ := upper_sz (t := given0) pg1 (show 1 ≤ width_here by omega) pw1 (pg0.mono (by decide)) (pg2.mono (by decide))
  have rz := ratio_sz (t := 2 * given0) (u := given1) (by omega) ((Sz.lit (n := 2) (i := 2) (by decide)).mul pg0) pg2
  obtain ⟨rz1, rz2⟩ := rz
  have rz3 : 0 < (m_p_ratio (2 * given0) given1).2 := by rw [ratio_canon (show given1 ≠ 0 by omega)]; exact canon_pos _
  have g4 : given1 ≠ 0 := by omega
  -- _law_told = near(_law_given, _law_width_here)
  refine ss_cons (s1_asgP (i := 2) (ee_call C_p_near (ea_cons (ee_name (i := 0) rfl (by first | exact .inl rfl | exact .inr (.inl rfl) | exact .inr (.inr rfl)) rfl) (ea_cons (ee_name (i := 1) rfl (by first | exact .inl rfl | exact .inr (.inl rfl) | exact .inr (.inr rfl)) rfl) ea_nil)) ⟨_, _, _, rfl, ?_, rfl⟩ pass0 (hr.mono (by decide)) rfl) ?_ sc_l_single.nd rfl (by first | exact .inl rfl | exact .inr rfl))
  · walk_at "call"
  intro told0 told1 h_told0 h_told1
  walk_at "nx"
  rw [← h_told0] at n1
  rw [← h_told1] at n2 n3
  have ⟨v1, v2⟩ : Sz 1800 (m_p_value (told0, told1)).1 ∧ Sz 1800 (m_p_value (told0, told1)).2 := value_s18 n1 (by omega) (by omega)
  have v3 := (value_rat (told0, told1)).2
  -- if not _law_ordered(lower(_law_given, _law_width_here), _law_told) or not _law_ordered(_law_told, upper(_law_given, _law_width_here)):
  refine ss_cons (s1_if (et_w (ew_or (et_not (et_val (ee_call C_l_ordered (ea_cons (ee_call C_p_lower (ea_cons (ee_name (i := 0) rfl (by first | exact .inl rfl | exact .inr (.inl rfl) | exact .inr (.inr rfl)) rfl) (ea_cons (ee_name (i := 1) rfl (by first | exact .inl rfl | exact .inr (.inl rfl) | exact .inr (.inr rfl)) rfl) ea_nil)) ⟨_, _, _, rfl, ?_, rfl⟩ pass0 (hr.mono (by decide)) rfl) (ea_cons (ee_name (i := 2) rfl (by first | exact .inl rfl | exact .inr (.inl rfl) | exact .inr (.inr rfl)) rfl) ea_nil)) ⟨_, _, _, _, rfl, ?_, rfl⟩ pass0 (hr.mono (by decide)) rfl))) fun hs => (ew_or1 (et_not (et_val (ee_call C_l_ordered (ea_cons (ee_name (i := 2) rfl (by first | exact .inl rfl | exact .inr (.inl rfl) | exact .inr (.inr rfl)) rfl) (ea_cons (ee_call C_p_upper (ea_cons (ee_name (i := 0) rfl (by first | exact .inl rfl | exact .inr (.inl rfl) | exact .inr (.inr rfl)) rfl) (ea_cons (ee_name (i := 1) rfl (by first | exact .inl rfl | exact .inr (.inl rfl) | exact .inr (.inr rfl)) rfl) ea_nil)) ⟨_, _, _, rfl, ?_, rfl⟩ pass0 (hr.mono (by decide)) rfl) ea_nil)) ⟨_, _, _, _, rfl, ?_, rfl⟩ pass0 (hr.mono (by decide)) rfl)))))) (fun hp1 => ?_) (fun hp1 => ?_))
  · walk_at "call"
  · walk_at "call"
  · walk_at "call"
  · walk_at "call"
  ·
    -- return False
    refine ss_one (s1_ret ee_bl ?_)
    show _ = _
    subst h_told1
    subst h_told0
    unfold m_l_single
    (try dsimp only)
    rw [if_pos hp1]
    all_goals rfl
  refine ss_nil ?_
  walk_at "nx"
  -- if _law_told != lower(_law_given, _law_width_here) and _law_told != upper(_law_given, _law_width_here) or near(value(_law_told), _law_width_here) != _law_told:
  refine ss_cons (s1_if (et_w (ew_or (et_w (ew_and (et_cmp (ee_name (i := 2) rfl (by first | exact .inl rfl | exact .inr (.inl rfl) | exact .inr (.inr rfl)) rfl) (ee_call C_p_lower (ea_cons (ee_name (i := 0) rfl (by first | exact .inl rfl | exact .inr (.inl rfl) | exact .inr (.inr rfl)) rfl) (ea_cons (ee_name (i := 1) rfl (by first | exact .inl rfl | exact .inr (.inl rfl) | exact .inr (.inr rfl)) rfl) ea_nil)) ⟨_, _, _, rfl, ?_, rfl⟩ pass0 (hr.mono (by decide)) rfl) (cd_ne hr ?_ ?_)) fun hs => (ew_and1 (et_cmp (ee_name (i := 2) rfl (by first | exact .inl rfl | exact .inr (.inl rfl) | exact .inr (.inr rfl)) rfl) (ee_call C_p_upper (ea_cons (ee_name (i := 0) rfl (by first | exact .inl rfl | exact .inr (.inl rfl) | exact .inr (.inr rfl)) rfl) (ea_cons (ee_name (i := 1) rfl (by first | exact .inl rfl | exact .inr (.inl rfl) | exact .inr (.inr rfl)) rfl) ea_nil)) ⟨_, _, _, rfl, ?_, rfl⟩ pass0 (hr.mono (by decide)) rfl) (cd_ne hr ?_ ?_))))) fun hs => (ew_or1 (et_cmp (ee_call C_p_near (ea_cons (ee_call C_p_value (ea_cons (ee_name (i := 2) rfl (by first | exact .inl rfl | exact .inr (.inl rfl) | exact .inr (.inr rfl)) rfl) ea_nil) ⟨_, _, rfl, ?_, rfl⟩ pass0 (hr.mono (by decide)) rfl) (ea_cons (ee_name (i := 1) rfl (by first | exact .inl rfl | exact .inr (.inl rfl) | exact .inr (.inr rfl)) rfl) ea_nil)) ⟨_, _, _, rfl, ?_, rfl⟩ pass0 (hr.mono (by decide)) rfl) (ee_name (i := 2) rfl (by first | exact .inl rfl | exact .inr (.inl rfl) | exact .inr (.inr rfl)) rfl) (cd_ne hr ?_ ?_))))) (fun hp2 => ?_) (fun hp2 => ?_))
  · walk_at "call"
  · walk_at "ok"
  · walk_at "ok"
  · walk_at "call"
  · walk_at "ok"
  · walk_at "ok"
  · walk_at "call"
  · walk_at "call"
  · walk_at "ok"
  · walk_at "ok"
  ·
    -- return False
    refine ss_one (s1_ret ee_bl ?_)
    show _ = _
    subst h_told1
    subst h_told0
    unfold m_l_single
    (try dsimp only)
    rw [if_neg hp1]
    rw [if_pos hp2]
    all_goals rfl
  refine ss_nil ?_
  walk_at "nx"
  -- if near((0 - _law_given[0], _law_given[1]), _law_width_here) != opposite(_law_told):
  refine ss_cons (s1_if (et_cmp (ee_call C_p_near (ea_cons (ee_tup (ea_cons (ee_bin ee_int (ee_ix (ee_name (i := 0) rfl (by first | exact .inl rfl | exact .inr (.inl rfl) | exact .inr (.inr rfl)) rfl) ee_int (id_tup at0)) od_sub) (ea_cons (ee_ix (ee_name (i := 0) rfl (by first | exact .inl rfl | exact .inr (.inl rfl) | exact .inr (.inr rfl)) rfl) ee_int (id_tup at1)) ea_nil))) (ea_cons (ee_name (i := 1) rfl (by first | exact .inl rfl | exact .inr (.inl rfl) | exact .inr (.inr rfl)) rfl) ea_nil)) ⟨_, _, _, rfl, ?_, rfl⟩ pass0 (hr.mono (by decide)) rfl) (ee_call C_p_opposite (ea_cons (ee_name (i := 2) rfl (by first | exact .inl rfl | exact .inr (.inl rfl) | exact .inr (.inr rfl)) rfl) ea_nil) ⟨_, _, rfl, ?_, rfl⟩ pass0 (hr.mono (by decide)) rfl) (cd_ne hr ?_ ?_)) (fun hp3 => ?_) (fun hp3 => ?_))
  · walk_at "call"
  · walk_at "call"
  · walk_at "ok"
  · walk_at "ok"
  ·
    -- return False
    refine ss_one (s1_ret ee_bl ?_)
    show _ = _
    subst h_told1
    subst h_told0
    unfold m_l_single
    (try dsimp only)
    rw [if_neg hp1]
    rw [if_neg hp2]
    rw [if_pos hp3]
    all_goals rfl
  refine ss_nil ?_
  walk_at "nx"
  -- _law_twice = near(ratio(2 * _law_given[0], _law_given[1]), _law_width_here)
  refine ss_cons (s1_asgP (i := 3) (ee_call C_p_near (ea_cons (ee_call C_p_ratio (ea_cons (ee_bin ee_int (ee_ix (ee_name (i := 0) rfl (by first | exact .inl rfl | exact .inr (.inl rfl) | exact .inr (.inr rfl)) rfl) ee_int (id_tup at0)) (od_mul ?_)) (ea_cons (ee_ix (ee_name (i := 0) rfl (by first | exact .inl rfl | exact .inr (.inl rfl) | exact .inr (.inr rfl)) rfl) ee_int (id_tup at1)) ea_nil)) ⟨_, _, rfl, ?_, rfl⟩ pass0 (hr.mono (by decide)) rfl) (ea_cons (ee_name (i := 1) rfl (by first | exact .inl rfl | exact .inr (.inl rfl) | exact .inr (.inr rfl)) rfl) ea_nil)) ⟨_, _, _, rfl, ?_, rfl⟩ pass0 (hr.mono (by decide)) rfl) ?_ sc_l_single.nd rfl (by first | exact .inl rfl | exact .inr rfl))
  · walk_at "mul"
  · walk_at "call"
  · walk_at "call"
  intro twice0 twice1 h_twice0 h_twice1
  walk_at "nx"
  -- return _law_twice == (0, 0) and _law_told == (0, 0) or _law_twice == (_law_told[0], _law_told[1] + 1)
  refine ss_one (s1_ret (ee_or (ee_and (ee_cmp (ee_name (i := 3) rfl (by first | exact .inl rfl | exact .inr (.inl rfl) | exact .inr (.inr rfl)) rfl) (ee_tup (ea_cons ee_int (ea_cons ee_int ea_nil))) (cd_eq hr ?_ ?_)) fun hs => (ee_and1 (ee_cmp (ee_name (i := 2) rfl (by first | exact .inl rfl | exact .inr (.inl rfl) | exact .inr (.inr rfl)) rfl) (ee_tup (ea_cons ee_int (ea_cons ee_int ea_nil))) (cd_eq hr ?_ ?_)))) fun hs => (ee_and1 (ee_cmp (ee_name (i := 3) rfl (by first | exact .inl rfl | exact .inr (.inl rfl) | exact .inr (.inr rfl)) rfl) (ee_tup (ea_cons (ee_ix (ee_name (i := 2) rfl (by first | exact .inl rfl | exact .inr (.inl rfl) | exact .inr (.inr rfl)) rfl) ee_int (id_tup at0)) (ea_cons (ee_bin (ee_ix (ee_name (i := 2) rfl (by first | exact .inl rfl | exact .inr (.inl rfl) | exact .inr (.inr rfl)) rfl) ee_int (id_tup at1)) ee_int od_add) ea_nil))) (cd_eq hr ?_ ?_)))) ?_)
  · walk_at "ok"
  · walk_at "ok"
  · walk_at "ok"
  · walk_at "ok"
  · walk_at "ok"
  · walk_at "ok"
  show _ = _
  subst h_twice1
  subst h_twice0
  subst h_told1
  subst h_told0
  unfold m_l_single
  (try dsimp only)
  rw [if_neg hp1]
  rw [if_neg hp2]
  rw [if_neg hp3]
  all_goals rfl
/-! law -/
def m_p_law_i1 (one : (Int × Int)) (other : (Int × Int)) : (Int × Int) × (Int × Int) :=
  if (0 : Int) < (m_p_order_of one other) then
    let tt := (other, one)
    let one := tt.1
    let other := tt.2
    (one, other)
  else
    (one, other)

theorem k19_other {a b c d m : Int} {q : Prop} [Decidable q] (h0 : 0 < b) (h1 : Sz 1500 b) (h2 : Sz 1500 a) (k0 : 0 < d) (k1 : Sz 1500 d) (k2 : Sz 1500 c) :
    0 < (if q then (m_p_ratio (a * (1 * 2 ^ (80 : Int).toNat) + m / 2 % 3 - 1) (b * 2 ^ (80 : Int).toNat)).2 else d) ∧ Sz 1600 (if q then (m_p_ratio (a * (1 * 2 ^ (80 : Int).toNat) + m / 2 % 3 - 1) (b * 2 ^ (80 : Int).toNat)).2 else d) ∧ Sz 1600 (if q then (m_p_ratio (a * (1 * 2 ^ (80 : Int).toNat) + m / 2 % 3 - 1) (b * 2 ^ (80 : Int).toNat)).1 else c) := by
  have hb : b * 2 ^ (80 : Int).toNat ≠ 0 := by have := Int.mul_pos h0 (@pow_pos' (80 : Int).toNat); omega
  have t1 := Sz.lit (n := 1) (i := 1) (by decide)
  have z1 : Sz 1590 (a * (1 * 2 ^ (80 : Int).toNat) + m / 2 % 3 - 1) := ((((h2.mul (t1.shl (k := 80) (by decide))).add (Sz.small (i := m / 2 % 3) (by omega) (by omega))).sub t1)).mono (by decide)
  have z2 : Sz 1590 (b * 2 ^ (80 : Int).toNat) := (h1.shl (k := 80) (by decide)).mono (by decide)
  have z := ratio_sz hb z1 z2
  by_cases h : q
  · rw [if_pos h, if_pos h]
    exact ⟨by rw [ratio_canon hb]; exact canon_pos _, z.2.mono (by decide), z.1.mono (by decide)⟩
  · rw [if_neg h, if_neg h]; exact ⟨k0, k1.mono (by decide), k2.mono (by decide)⟩
theorem k19_swap {a b : Int × Int} (ha : 0 < a.2) (hb : 0 < b.2) : (m_p_law_i1 a b = (a, b) ∨ m_p_law_i1 a b = (b, a)) ∧ rat (m_p_law_i1 a b).1 ≤ rat (m_p_law_i1 a b).2 := by
  unfold m_p_law_i1
  rw [order_rat ha hb]
  by_cases h : rat b < rat a
  · rw [if_pos h, if_pos (by decide)]
    exact ⟨.inr rfl, Rat.le_of_lt h⟩
  · rw [if_neg h, if_neg (by split <;> decide)]
    exact ⟨.inl rfl, Rat.not_lt.mp h⟩

abbrev R_p_law : List Dt → Dt → Prop := fun ds d => ∃ (script : List Int), ds = [.scr script] ∧ ((∀ n ∈ script, Sz 1048576 n) ∧ script.length ≤ 63) ∧ d = .bl true
theorem sc_p_law : FnScope ["_law_script", "_law_k", "_law_width_here", "_law_one", "_law_other", "_law_more", "_law_wide", "_law_fine"] ["_law_script"] (defScope s_p_law) := ⟨rfl, rfl, rfl, by decide +kernel, rfl, by decide +kernel, by decide +kernel⟩
theorem ok_p_law {P : Program} {w : World} {K : PySem.W.Frag} {mg : Str → Option Value} {base : Heap} {f : Addr} {fd : FuncData} (F : Fun K "law" "law" s_p_law f fd) (C_l_cell : Clb P w K mg base CX0 1 "_law_cell" (spR K R_l_cell)) (C_l_drawn : Clb P w K mg base CX0 1 "_law_drawn" (spR K R_l_drawn)) (C_l_ordered : Clb P w K mg base CX0 2 "_law_ordered" (spR K R_l_ordered)) (C_l_ratio : Clb P w K mg base CX0 3 "_law_ratio" (spR K R_l_ratio)) (C_l_single : Clb P w K mg base CX0 4 "_law_single" (spR K R_l_single)) (C_l_width : Clb P w K mg base CX0 2 "_law_width" (spR K R_l_width)) (C_p_near : Clb P w K mg base CX0 3 "near" (spR K R_p_near)) (C_p_order_of : Clb P w K mg base CX0 1 "order_of" (spR K R_p_order_of)) (C_p_ratio : Clb P w K mg base CX0 2 "ratio" (spR K R_p_ratio)) (C_p_value : Clb P w K mg base CX0 1 "value" (spR K R_p_value)) (m_len : mg "len" = none) (m_max : mg "max" = none) (m_min : mg "min" = none) (m_range : mg "range" = none) : FnOk P w K mg base CX0 5 f fd ["_law_script"] (spR K R_p_law) := by
  refine fn_R (k := 4) F sc_p_law (fun ds d h => by obtain ⟨_, rfl, _⟩ := h; rfl) (fun cdv A outer s H E hr ds d h => ?_)
  obtain ⟨script, rfl, ⟨pn, pl⟩, rfl⟩ := h
  have pS := And.intro pn pl
  -- for _law_k in range(0, max(2, min(30, len(_law_script))), 2):
  refine ss_cons (s1_forR3 ee_int (ee_blt (ea_cons ee_int (ea_cons (ee_blt (ea_cons ee_int (ea_cons (ee_blt (ea_cons (ee_name (i := 0) rfl (by first | exact .inl rfl | exact .inr (.inl rfl) | exact .inr (.inr rfl)) rfl) ea_nil) rfl m_len bb_len bd_lenS) ea_nil)) rfl m_min bb_min (bd_min rfl)) ea_nil)) rfl m_max bb_max (bd_max rfl)) ee_int (RgC.up ?_ ?_ (by decide) (by decide)) (fun i δ => ∃ (v1 v2 v3 v4 v5 v6 v7 : Option Sl), δ = [some (.val (.scr script)), v1, v2, v3, v4, v5, v6, v7]) ⟨_, _, _, _, _, _, _, rfl⟩ (fun i1 δ1 hii1 hI => ?_) (fun δ1 hI => ?_) rfl rfl m_range)
  · walk_at "sd"
  · walk_at "sd"
  ·
    obtain ⟨v1, v2, v3, v4, v5, v6, v7, rfl⟩ := hI
    refine ⟨_, _, (gt_name sc_p_law.nd (i := 1) rfl (by first | exact .inl rfl | exact .inr rfl)), ?_⟩
    try dsimp only [List.set]
    -- _law_width_here = _law_width(_law_script, _law_k)
    refine ss_cons (s1_asgI (i := 2) (ee_call C_l_width (ea_cons (ee_name (i := 0) rfl (by first | exact .inl rfl | exact .inr (.inl rfl) | exact .inr (.inr rfl)) rfl) (ea_cons (ee_name (i := 1) rfl (by first | exact .inl rfl | exact .inr (.inl rfl) | exact .inr (.inr rfl)) rfl) ea_nil)) ⟨_, _, rfl, ?_, rfl⟩ pass0 (hr.mono (by decide)) rfl) ?_ sc_p_law.nd rfl (by first | exact .inl rfl | exact .inr rfl))
    · walk_at "call"
    intro width_here h_width_here
    walk_at "nx"
    have wd : 8 ≤ width_here ∧ width_here ≤ 64 := by rw [h_width_here]; exact wd0 script _
    obtain ⟨wd1, wd2⟩ := wd
    -- _law_one = _law_ratio(_law_script, _law_k, _law_width_here)
    refine ss_cons (s1_asgP (i := 3) (ee_call C_l_ratio (ea_cons (ee_name (i := 0) rfl (by first | exact .inl rfl | exact .inr (.inl rfl) | exact .inr (.inr rfl)) rfl) (ea_cons (ee_name (i := 1) rfl (by first | exact .inl rfl | exact .inr (.inl rfl) | exact .inr (.inr rfl)) rfl) (ea_cons (ee_name (i := 2) rfl (by first | exact .inl rfl | exact .inr (.inl rfl) | exact .inr (.inr rfl)) rfl) ea_nil))) ⟨_, _, _, rfl, ?_, rfl⟩ pass0 (hr.mono (by decide)) rfl) ?_ sc_p_law.nd rfl (by first | exact .inl rfl | exact .inr rfl))
    · walk_at "call"
    intro one0 one1 h_one0 h_one1
    walk_at "nx"
    have ⟨q0, q1, q2⟩ : 0 < one1 ∧ Sz 1500 one1 ∧ Sz 1500 one0 := by rw [h_one0, h_one1]; exact ratio_spec wd1 wd2
    -- _law_other = _law_ratio(_law_script, _law_k + 1, _law_width_here)
    refine ss_cons (s1_asgP (i := 4) (ee_call C_l_ratio (ea_cons (ee_name (i := 0) rfl (by first | exact .inl rfl | exact .inr (.inl rfl) | exact .inr (.inr rfl)) rfl) (ea_cons (ee_bin (ee_name (i := 1) rfl (by first | exact .inl rfl | exact .inr (.inl rfl) | exact .inr (.inr rfl)) rfl) ee_int od_add) (ea_cons (ee_name (i := 2) rfl (by first | exact .inl rfl | exact .inr (.inl rfl) | exact .inr (.inr rfl)) rfl) ea_nil))) ⟨_, _, _, rfl, ?_, rfl⟩ pass0 (hr.mono (by decide)) rfl) ?_ sc_p_law.nd rfl (by first | exact .inl rfl | exact .inr rfl))
    · walk_at "call"
    intro other0 other1 h_other0 h_other1
    walk_at "nx"
    have ⟨r0, r1, r2⟩ : 0 < other1 ∧ Sz 1500 other1 ∧ Sz 1500 other0 := by rw [h_other0, h_other1]; exact ratio_spec wd1 wd2
    have ro : one1 * 2 ^ (80 : Int).toNat ≠ 0 := by have := Int.mul_pos q0 (@pow_pos' (80 : Int).toNat); omega
    -- _law_more = _law_drawn(_law_cell(_law_script, _law_k + 1), _law_k + 8)
    refine ss_cons (s1_asgI (i := 5) (ee_call C_l_drawn (ea_cons (ee_call C_l_cell (ea_cons (ee_name (i := 0) rfl (by first | exact .inl rfl | exact .inr (.inl rfl) | exact .inr (.inr rfl)) rfl) (ea_cons (ee_bin (ee_name (i := 1) rfl (by first | exact .inl rfl | exact .inr (.inl rfl) | exact .inr (.inr rfl)) rfl) ee_int od_add) ea_nil)) ⟨_, _, rfl, ?_, rfl⟩ pass0 (hr.mono (by decide)) rfl) (ea_cons (ee_bin (ee_name (i := 1) rfl (by first | exact .inl rfl | exact .inr (.inl rfl) | exact .inr (.inr rfl)) rfl) ee_int od_add) ea_nil)) ⟨_, _, rfl, ?_, rfl⟩ pass0 (hr.mono (by decide)) rfl) ?_ sc_p_law.nd rfl (by first | exact .inl rfl | exact .inr rfl))
    · walk_at "call"
    · walk_at "call"
    intro more h_more
    walk_at "nx"
    -- if _law_more % 2 == 0:
    refine ss_cons (s1_ifP (i := 4) (et_cmp (ee_bin (ee_name (i := 5) rfl (by first | exact .inl rfl | exact .inr (.inl rfl) | exact .inr (.inr rfl)) rfl) ee_int (od_mod (by decide))) ee_int cd_eqI) (fun hp => (ee_call C_p_ratio (ea_cons (ee_bin (ee_bin (ee_bin (ee_ix (ee_name (i := 3) rfl (by first | exact .inl rfl | exact .inr (.inl rfl) | exact .inr (.inr rfl)) rfl) ee_int (id_tup at0)) (ee_bin ee_int ee_int (od_shl ?_)) (od_mul ?_)) (ee_bin (ee_bin (ee_name (i := 5) rfl (by first | exact .inl rfl | exact .inr (.inl rfl) | exact .inr (.inr rfl)) rfl) ee_int (od_div (by decide) (by decide))) ee_int (od_mod (by decide))) od_add) ee_int od_sub) (ea_cons (ee_bin (ee_ix (ee_name (i := 3) rfl (by first | exact .inl rfl | exact .inr (.inl rfl) | exact .inr (.inr rfl)) rfl) ee_int (id_tup at1)) ee_int (od_shl ?_)) ea_nil)) ⟨_, _, rfl, ?_, rfl⟩ pass0 (hr.mono (by decide)) rfl)) rfl ?_ sc_p_law.nd rfl (by first | exact .inl rfl | exact .inr rfl))
    · walk_at "shl"
    · walk_at "mul"
    · walk_at "shl"
    · walk_at "call"
    intro other0_2 other1_2 h1 h2 h3 h4; have h_other0_2 := ite_of h1 h2; have h_other1_2 := ite_of h3 h4; clear h1 h2 h3 h4
    walk_at "nx"
    have ⟨s0, s1, s2⟩ : 0 < other1_2 ∧ Sz 1600 other1_2 ∧ Sz 1600 other0_2 := by
      rw [h_other0_2, h_other1_2]
      exact k19_other q0 q1 q2 r0 r1 r2
    -- if not _law_single(_law_one, _law_width_here) or not _law_single(_law_other, _law_width_here):
    refine ss_cons (s1_if (et_w (ew_or (et_not (et_val (ee_call C_l_single (ea_cons (ee_name (i := 3) rfl (by first | exact .inl rfl | exact .inr (.inl rfl) | exact .inr (.inr rfl)) rfl) (ea_cons (ee_name (i := 2) rfl (by first | exact .inl rfl | exact .inr (.inl rfl) | exact .inr (.inr rfl)) rfl) ea_nil)) ⟨_, _, _, rfl, ?_, rfl⟩ pass0 (hr.mono (by decide)) rfl))) fun hs => (ew_or1 (et_not (et_val (ee_call C_l_single (ea_cons (ee_name (i := 4) rfl (by first | exact .inl rfl | exact .inr (.inl rfl) | exact .inr (.inr rfl)) rfl) (ea_cons (ee_name (i := 2) rfl (by first | exact .inl rfl | exact .inr (.inl rfl) | exact .inr (.inr rfl)) rfl) ea_nil)) ⟨_, _, _, rfl, ?_, rfl⟩ pass0 (hr.mono (by decide)) rfl)))))) (fun hp1 => ?_) (fun hp1 => ?_))
    · walk_at "call"
    · walk_at "call"
    · exfalso
      exact hp1.elim (fun z => z (single_ok q0 wd1)) (fun z => z (single_ok s0 wd1))
    refine ss_nil ?_
    walk_at "nx"
    -- if order_of(_law_one, _law_other) > 0:
    refine ss_cons (s1_ifM (fun δ => ∃ (v1 v2 : Option Sl) (one0_2 one1_2 other0_3 other1_3 : Int), (one0_2 = ((m_p_law_i1 (one0, one1) (other0_2, other1_2)).1).1) ∧ (one1_2 = ((m_p_law_i1 (one0, one1) (other0_2, other1_2)).1).2) ∧ (other0_3 = ((m_p_law_i1 (one0, one1) (other0_2, other1_2)).2).1) ∧ (other1_3 = ((m_p_law_i1 (one0, one1) (other0_2, other1_2)).2).2) ∧ δ = [some (.val (.scr script)), some (.val (.int (((0 : Int) + (i1 : Int) * (2 : Int))))), some (.val (.int width_here)), some (.val (.tup [.int one0_2, .int one1_2])), some (.val (.tup [.int other0_3, .int other1_3])), some (.val (.int more)), v1, v2]) (et_cmp (ee_call C_p_order_of (ea_cons (ee_name (i := 3) rfl (by first | exact .inl rfl | exact .inr (.inl rfl) | exact .inr (.inr rfl)) rfl) (ea_cons (ee_name (i := 4) rfl (by first | exact .inl rfl | exact .inr (.inl rfl) | exact .inr (.inr rfl)) rfl) ea_nil)) ⟨_, _, _, _, rfl, ?_, rfl⟩ pass0 (hr.mono (by decide)) rfl) ee_int cd_gt) (fun hp2 => ?_) (fun hp2 => ?_) ?_)
    · walk_at "call"
    ·
      -- _law_one, _law_other = (_law_other, _law_one)
      refine ss_cons (s1_par (i := 3) (j := 4) (ea_cons (ee_name (i := 4) rfl (by first | exact .inl rfl | exact .inr (.inl rfl) | exact .inr (.inr rfl)) rfl) (ea_cons (ee_name (i := 3) rfl (by first | exact .inl rfl | exact .inr (.inl rfl) | exact .inr (.inr rfl)) rfl) ea_nil)) ?_ rfl sc_p_law.nd rfl rfl (by decide) rfl rfl)
      walk_at "nx"
      refine ss_nil ⟨_, _, other0_2, other1_2, one0, one1, ?_, ?_, ?_, ?_, rfl⟩
      · show _ = _
        unfold m_p_law_i1
        (try dsimp only)
        rw [if_pos hp2]
        all_goals (try rfl)
      · show _ = _
        unfold m_p_law_i1
        (try dsimp only)
        rw [if_pos hp2]
        all_goals (try rfl)
      · show _ = _
        unfold m_p_law_i1
        (try dsimp only)
        rw [if_pos hp2]
        all_goals (try rfl)
      · show _ = _
        unfold m_p_law_i1
        (try dsimp only)
        rw [if_pos hp2]
        all_goals (try rfl)
    ·
      refine ss_nil ⟨_, _, one0, one1, other0_2, other1_2, ?_, ?_, ?_, ?_, rfl⟩
      · show _ = _
        unfold m_p_law_i1
        (try dsimp only)
        rw [if_neg hp2]
        all_goals (try rfl)
      · show _ = _
        unfold m_p_law_i1
        (try dsimp only)
        rw [if_neg hp2]
        all_goals (try rfl)
      · show _ = _
        unfold m_p_law_i1
        (try dsimp only)
        rw [if_neg hp2]
        all_goals (try rfl)
      · show _ = _
        unfold m_p_law_i1
        (try dsimp only)
        rw [if_neg hp2]
        all_goals (try rfl)
    rintro δ0 ⟨v1, v2, one0_2, one1_2, other0_3, other1_3, h_one0_2, h_one1_2, h_other0_3, h_other1_3, rfl⟩
    walk_at "nx"
    have ⟨sw1, sw2⟩ := k19_swap (a := (one0, one1)) (b := (other0_2, other1_2)) q0 s0
    have ⟨⟨t0, t1, t2⟩, y0, y1, y2⟩ : (0 < one1_2 ∧ Sz 1600 one1_2 ∧ Sz 1600 one0_2) ∧ 0 < other1_3 ∧ Sz 1600 other1_3 ∧ Sz 1600 other0_3 := by
      rw [h_one0_2, h_one1_2, h_other0_3, h_other1_3]
      rcases sw1 with e | e <;> rw [e]
      · exact ⟨⟨q0, q1.mono (by decide), q2.mono (by decide)⟩, s0, s1, s2⟩
      · exact ⟨⟨s0, s1, s2⟩, q0, q1.mono (by decide), q2.mono (by decide)⟩
    have hle : rat (one0_2, one1_2) ≤ rat (other0_3, other1_3) := by rw [h_one0_2, h_one1_2, h_other0_3, h_other1_3]; exact sw2
    clear sw1 sw2
    have ⟨a1, a2, a3⟩ := nr_szn (t := one0_2) t0 (show 2 ≤ width_here by omega) wd2 t2 t1
    have ⟨b1, b2, b3⟩ := nr_szn (t := other0_3) y0 (show 2 ≤ width_here by omega) wd2 y2 y1
    -- if not _law_ordered(near(_law_one, _law_width_here), near(_law_other, _law_width_here)):
    refine ss_cons (s1_if (et_not (et_val (ee_call C_l_ordered (ea_cons (ee_call C_p_near (ea_cons (ee_name (i := 3) rfl (by first | exact .inl rfl | exact .inr (.inl rfl) | exact .inr (.inr rfl)) rfl) (ea_cons (ee_name (i := 2) rfl (by first | exact .inl rfl | exact .inr (.inl rfl) | exact .inr (.inr rfl)) rfl) ea_nil)) ⟨_, _, _, rfl, ?_, rfl⟩ pass0 (hr.mono (by decide)) rfl) (ea_cons (ee_call C_p_near (ea_cons (ee_name (i := 4) rfl (by first | exact .inl rfl | exact .inr (.inl rfl) | exact .inr (.inr rfl)) rfl) (ea_cons (ee_name (i := 2) rfl (by first | exact .inl rfl | exact .inr (.inl rfl) | exact .inr (.inr rfl)) rfl) ea_nil)) ⟨_, _, _, rfl, ?_, rfl⟩ pass0 (hr.mono (by decide)) rfl) ea_nil)) ⟨_, _, _, _, rfl, ?_, rfl⟩ pass0 (hr.mono (by decide)) rfl))) (fun hp3 => ?_) (fun hp3 => ?_))
    · walk_at "call"
    · walk_at "call"
    · walk_at "call"
    · exfalso
      exact hp3 (ordered_of (near_mono t0 y0 (by omega) hle))
    refine ss_nil ?_
    walk_at "nx"
    -- _law_wide = min(64, _law_width_here + 1 + _law_more // 8 % 9)
    refine ss_cons (s1_asgI (i := 6) (ee_blt (ea_cons ee_int (ea_cons (ee_bin (ee_bin (ee_name (i := 2) rfl (by first | exact .inl rfl | exact .inr (.inl rfl) | exact .inr (.inr rfl)) rfl) ee_int od_add) (ee_bin (ee_bin (ee_name (i := 5) rfl (by first | exact .inl rfl | exact .inr (.inl rfl) | exact .inr (.inr rfl)) rfl) ee_int (od_div (by decide) (by decide))) ee_int (od_mod (by decide))) od_add) ea_nil)) rfl m_min bb_min (bd_min rfl)) ?_ sc_p_law.nd rfl (by first | exact .inl rfl | exact .inr rfl))
    intro wide h_wide
    walk_at "nx"
    have wz : 8 ≤ wide ∧ wide ≤ 64 := by omega
    -- _law_fine = near(_law_one, _law_wide)
    refine ss_cons (s1_asgP (i := 7) (ee_call C_p_near (ea_cons (ee_name (i := 3) rfl (by first | exact .inl rfl | exact .inr (.inl rfl) | exact .inr (.inr rfl)) rfl) (ea_cons (ee_name (i := 6) rfl (by first | exact .inl rfl | exact .inr (.inl rfl) | exact .inr (.inr rfl)) rfl) ea_nil)) ⟨_, _, _, rfl, ?_, rfl⟩ pass0 (hr.mono (by decide)) rfl) ?_ sc_p_law.nd rfl (by first | exact .inl rfl | exact .inr rfl))
    · walk_at "call"
    intro fine0 fine1 h_fine0 h_fine1
    walk_at "nx"
    have ⟨f1, f2, f3⟩ := nr_szn (t := one0_2) t0 (show 2 ≤ wide by omega) wz.2 t2 t1
    rw [← h_fine0] at f1
    rw [← h_fine1] at f2 f3
    have ⟨v1, v2⟩ : Sz 1800 (m_p_value (fine0, fine1)).1 ∧ Sz 1800 (m_p_value (fine0, fine1)).2 := value_s18 f1 (by omega) (by omega)
    have v3 := value_rat (fine0, fine1)
    have v4 := v3.2
    -- if order_of(value(_law_fine), _law_one) == 0 and near(value(_law_fine), _law_width_here) != near(_law_one, _law_width_here):
    refine ss_cons (s1_if (et_w (ew_and (et_cmp (ee_call C_p_order_of (ea_cons (ee_call C_p_value (ea_cons (ee_name (i := 7) rfl (by first | exact .inl rfl | exact .inr (.inl rfl) | exact .inr (.inr rfl)) rfl) ea_nil) ⟨_, _, rfl, ?_, rfl⟩ pass0 (hr.mono (by decide)) rfl) (ea_cons (ee_name (i := 3) rfl (by first | exact .inl rfl | exact .inr (.inl rfl) | exact .inr (.inr rfl)) rfl) ea_nil)) ⟨_, _, _, _, rfl, ?_, rfl⟩ pass0 (hr.mono (by decide)) rfl) ee_int cd_eqI) fun hs => (ew_and1 (et_cmp (ee_call C_p_near (ea_cons (ee_call C_p_value (ea_cons (ee_name (i := 7) rfl (by first | exact .inl rfl | exact .inr (.inl rfl) | exact .inr (.inr rfl)) rfl) ea_nil) ⟨_, _, rfl, ?_, rfl⟩ pass0 (hr.mono (by decide)) rfl) (ea_cons (ee_name (i := 2) rfl (by first | exact .inl rfl | exact .inr (.inl rfl) | exact .inr (.inr rfl)) rfl) ea_nil)) ⟨_, _, _, rfl, ?_, rfl⟩ pass0 (hr.mono (by decide)) rfl) (ee_call C_p_near (ea_cons (ee_name (i := 3) rfl (by first | exact .inl rfl | exact .inr (.inl rfl) | exact .inr (.inr rfl)) rfl) (ea_cons (ee_name (i := 2) rfl (by first | exact .inl rfl | exact .inr (.inl rfl) | exact .inr (.inr rfl)) rfl) ea_nil)) ⟨_, _, _, rfl, ?_, rfl⟩ pass0 (hr.mono (by decide)) rfl) (cd_ne hr ?_ ?_))))) (fun hp4 => ?_) (fun hp4 => ?_))
    · walk_at "call"
    · walk_at "call"
    · walk_at "call"
    · walk_at "call"
    · walk_at "call"
    · walk_at "ok"
    · walk_at "ok"
    · exfalso
      obtain ⟨z1, z2⟩ := hp4
      rw [order_rat v4 t0] at z1
      refine ne1 ?_ z2
      refine near_congr v4 t0 (by omega) ?_
      split at z1
      · exact absurd z1 (by decide)
      · split at z1
        · exact absurd z1 (by decide)
        · exact q_eq_of _ _ (by assumption) (by assumption) |>.symm
    refine ss_nil ?_
    walk_at "nx"
    refine ss_nil ⟨_, _, _, _, _, _, _, rfl⟩
  obtain ⟨v1, v2, v3, v4, v5, v6, v7, rfl⟩ := hI
  walk_at "nx"
  -- return True
  refine ss_one (s1_ret ee_bl ?_)
  exact rfl
structure Txt (K : PySem.W.Frag) (mg : Str → Option Value) : Prop where
  f_p_common_divisor : ∃ f fd, mg "common_divisor" = some (.ref f) ∧ Fun K "common_divisor" "common_divisor" s_p_common_divisor f fd
  f_p_order_of : ∃ f fd, mg "order_of" = some (.ref f) ∧ Fun K "order_of" "order_of" s_p_order_of f fd
  f_p_bare_number : ∃ f fd, mg "bare_number" = some (.ref f) ∧ Fun K "bare_number" "bare_number" s_p_bare_number f fd
  f_p_value : ∃ f fd, mg "value" = some (.ref f) ∧ Fun K "value" "value" s_p_value f fd
  f_p_placed : ∃ f fd, mg "placed" = some (.ref f) ∧ Fun K "placed" "placed" s_p_placed f fd
  f_p_opposite : ∃ f fd, mg "opposite" = some (.ref f) ∧ Fun K "opposite" "opposite" s_p_opposite f fd
  f_l_cell : ∃ f fd, mg "_law_cell" = some (.ref f) ∧ Fun K "_law_cell" "_law_cell" s_l_cell f fd
  f_l_drawn : ∃ f fd, mg "_law_drawn" = some (.ref f) ∧ Fun K "_law_drawn" "_law_drawn" s_l_drawn f fd
  f_l_bare : ∃ f fd, mg "_law_bare" = some (.ref f) ∧ Fun K "_law_bare" "_law_bare" s_l_bare f fd
  f_l_common : ∃ f fd, mg "_law_common" = some (.ref f) ∧ Fun K "_law_common" "_law_common" s_l_common f fd
  f_p_ratio : ∃ f fd, mg "ratio" = some (.ref f) ∧ Fun K "ratio" "ratio" s_p_ratio f fd
  f_p_near_parts : ∃ f fd, mg "near_parts" = some (.ref f) ∧ Fun K "near_parts" "near_parts" s_p_near_parts f fd
  f_p_lower : ∃ f fd, mg "lower" = some (.ref f) ∧ Fun K "lower" "lower" s_p_lower f fd
  f_l_number : ∃ f fd, mg "_law_number" = some (.ref f) ∧ Fun K "_law_number" "_law_number" s_l_number f fd
  f_l_width : ∃ f fd, mg "_law_width" = some (.ref f) ∧ Fun K "_law_width" "_law_width" s_l_width f fd
  f_l_ordered : ∃ f fd, mg "_law_ordered" = some (.ref f) ∧ Fun K "_law_ordered" "_law_ordered" s_l_ordered f fd
  f_p_near : ∃ f fd, mg "near" = some (.ref f) ∧ Fun K "near" "near" s_p_near f fd
  f_p_upper : ∃ f fd, mg "upper" = some (.ref f) ∧ Fun K "upper" "upper" s_p_upper f fd
  f_l_ratio : ∃ f fd, mg "_law_ratio" = some (.ref f) ∧ Fun K "_law_ratio" "_law_ratio" s_l_ratio f fd
  f_l_single : ∃ f fd, mg "_law_single" = some (.ref f) ∧ Fun K "_law_single" "_law_single" s_l_single f fd
  f_p_law : ∃ f fd, mg "law" = some (.ref f) ∧ Fun K "law" "law" s_p_law f fd
  m_abs : mg "abs" = none
  m_int : mg "int" = none
  m_len : mg "len" = none
  m_max : mg "max" = none
  m_min : mg "min" = none
  m_range : mg "range" = none
section
variable {P : Program} {w : World} {K : PySem.W.Frag} {mg : Str → Option Value} {base : Heap}
theorem cl_p_common_divisor (T : Txt K mg) : Clb P w K mg base CX0 1 "common_divisor" (spR K R_p_common_divisor) := by
  obtain ⟨f, fd, h1, F⟩ := T.f_p_common_divisor
  exact clb_of h1 F (F.binds fun _ _ _ _ _ _ us hl => match us, hl with | [_, _], _ => rfl) (ok_p_common_divisor F T.m_abs)
theorem cl_p_order_of (T : Txt K mg) : Clb P w K mg base CX0 1 "order_of" (spR K R_p_order_of) := by
  obtain ⟨f, fd, h1, F⟩ := T.f_p_order_of
  exact clb_of h1 F (F.binds fun _ _ _ _ _ _ us hl => match us, hl with | [_, _], _ => rfl) (ok_p_order_of F T.m_int)
theorem cl_p_bare_number (T : Txt K mg) : Clb P w K mg base CX0 1 "bare_number" (spR K R_p_bare_number) := by
  obtain ⟨f, fd, h1, F⟩ := T.f_p_bare_number
  exact clb_of h1 F (F.binds fun _ _ _ _ _ _ us hl => match us, hl with | [_, _], _ => rfl) (ok_p_bare_number F )
theorem cl_p_value (T : Txt K mg) : Clb P w K mg base CX0 1 "value" (spR K R_p_value) := by
  obtain ⟨f, fd, h1, F⟩ := T.f_p_value
  exact clb_of h1 F (F.binds fun _ _ _ _ _ _ us hl => match us, hl with | [_], _ => rfl) (ok_p_value F )
theorem cl_p_placed (T : Txt K mg) : Clb P w K mg base CX0 1 "placed" (spR K R_p_placed) := by
  obtain ⟨f, fd, h1, F⟩ := T.f_p_placed
  exact clb_of h1 F (F.binds fun _ _ _ _ _ _ us hl => match us, hl with | [_, _, _], _ => rfl) (ok_p_placed F )
theorem cl_p_opposite (T : Txt K mg) : Clb P w K mg base CX0 1 "opposite" (spR K R_p_opposite) := by
  obtain ⟨f, fd, h1, F⟩ := T.f_p_opposite
  exact clb_of h1 F (F.binds fun _ _ _ _ _ _ us hl => match us, hl with | [_], _ => rfl) (ok_p_opposite F )
theorem cl_l_cell (T : Txt K mg) : Clb P w K mg base CX0 1 "_law_cell" (spR K R_l_cell) := by
  obtain ⟨f, fd, h1, F⟩ := T.f_l_cell
  exact clb_of h1 F (F.binds fun _ _ _ _ _ _ us hl => match us, hl with | [_, _], _ => rfl) (ok_l_cell F T.m_len)
theorem cl_l_drawn (T : Txt K mg) : Clb P w K mg base CX0 1 "_law_drawn" (spR K R_l_drawn) := by
  obtain ⟨f, fd, h1, F⟩ := T.f_l_drawn
  exact clb_of h1 F (F.binds fun _ _ _ _ _ _ us hl => match us, hl with | [_, _], _ => rfl) (ok_l_drawn F )
theorem cl_l_bare (T : Txt K mg) : Clb P w K mg base CX0 1 "_law_bare" (spR K R_l_bare) := by
  obtain ⟨f, fd, h1, F⟩ := T.f_l_bare
  exact clb_of h1 F (F.binds fun _ _ _ _ _ _ us hl => match us, hl with | [_, _], _ => rfl) (ok_l_bare F )
theorem cl_l_common (T : Txt K mg) : Clb P w K mg base CX0 1 "_law_common" (spR K R_l_common) := by
  obtain ⟨f, fd, h1, F⟩ := T.f_l_common
  exact clb_of h1 F (F.binds fun _ _ _ _ _ _ us hl => match us, hl with | [_, _], _ => rfl) (ok_l_common F T.m_abs)
theorem cl_p_ratio (T : Txt K mg) : Clb P w K mg base CX0 2 "ratio" (spR K R_p_ratio) := by
  obtain ⟨f, fd, h1, F⟩ := T.f_p_ratio
  exact clb_of h1 F (F.binds fun _ _ _ _ _ _ us hl => match us, hl with | [_, _], _ => rfl) (ok_p_ratio F (cl_p_common_divisor T))
theorem cl_p_near_parts (T : Txt K mg) : Clb P w K mg base CX0 2 "near_parts" (spR K R_p_near_parts) := by
  obtain ⟨f, fd, h1, F⟩ := T.f_p_near_parts
  exact clb_of h1 F (F.binds fun _ _ _ _ _ _ us hl => match us, hl with | [_, _, _], _ => rfl) (ok_p_near_parts F (cl_p_bare_number T) (cl_p_placed T) T.m_abs)
theorem cl_p_lower (T : Txt K mg) : Clb P w K mg base CX0 2 "lower" (spR K R_p_lower) := by
  obtain ⟨f, fd, h1, F⟩ := T.f_p_lower
  exact clb_of h1 F (F.binds fun _ _ _ _ _ _ us hl => match us, hl with | [_, _], _ => rfl) (ok_p_lower F (cl_p_bare_number T) (cl_p_placed T) T.m_abs T.m_int)
theorem cl_l_number (T : Txt K mg) : Clb P w K mg base CX0 2 "_law_number" (spR K R_l_number) := by
  obtain ⟨f, fd, h1, F⟩ := T.f_l_number
  exact clb_of h1 F (F.binds fun _ _ _ _ _ _ us hl => match us, hl with | [_, _, _, _], _ => rfl) (ok_l_number F (cl_l_bare T) (cl_l_drawn T))
theorem cl_l_width (T : Txt K mg) : Clb P w K mg base CX0 2 "_law_width" (spR K R_l_width) := by
  obtain ⟨f, fd, h1, F⟩ := T.f_l_width
  exact clb_of h1 F (F.binds fun _ _ _ _ _ _ us hl => match us, hl with | [_, _], _ => rfl) (ok_l_width F (cl_l_cell T) (cl_l_drawn T))
theorem cl_l_ordered (T : Txt K mg) : Clb P w K mg base CX0 2 "_law_ordered" (spR K R_l_ordered) := by
  obtain ⟨f, fd, h1, F⟩ := T.f_l_ordered
  exact clb_of h1 F (F.binds fun _ _ _ _ _ _ us hl => match us, hl with | [_, _], _ => rfl) (ok_l_ordered F (cl_p_order_of T) (cl_p_value T))
theorem cl_p_near (T : Txt K mg) : Clb P w K mg base CX0 3 "near" (spR K R_p_near) := by
  obtain ⟨f, fd, h1, F⟩ := T.f_p_near
  exact clb_of h1 F (F.binds fun _ _ _ _ _ _ us hl => match us, hl with | [_, _], _ => rfl) (ok_p_near F (cl_p_near_parts T))
theorem cl_p_upper (T : Txt K mg) : Clb P w K mg base CX0 3 "upper" (spR K R_p_upper) := by
  obtain ⟨f, fd, h1, F⟩ := T.f_p_upper
  exact clb_of h1 F (F.binds fun _ _ _ _ _ _ us hl => match us, hl with | [_, _], _ => rfl) (ok_p_upper F (cl_p_lower T) (cl_p_opposite T))
theorem cl_l_ratio (T : Txt K mg) : Clb P w K mg base CX0 3 "_law_ratio" (spR K R_l_ratio) := by
  obtain ⟨f, fd, h1, F⟩ := T.f_l_ratio
  exact clb_of h1 F (F.binds fun _ _ _ _ _ _ us hl => match us, hl with | [_, _, _], _ => rfl) (ok_l_ratio F (cl_l_cell T) (cl_l_common T) (cl_l_drawn T) (cl_l_number T))
theorem cl_l_single (T : Txt K mg) : Clb P w K mg base CX0 4 "_law_single" (spR K R_l_single) := by
  obtain ⟨f, fd, h1, F⟩ := T.f_l_single
  exact clb_of h1 F (F.binds fun _ _ _ _ _ _ us hl => match us, hl with | [_, _], _ => rfl) (ok_l_single F (cl_l_ordered T) (cl_p_lower T) (cl_p_near T) (cl_p_opposite T) (cl_p_ratio T) (cl_p_upper T) (cl_p_value T))
theorem ok_all (T : Txt K mg) {f : Addr} {fd : FuncData} (F : Fun K "law" "law" s_p_law f fd) : FnOk P w K mg base CX0 5 f fd ["_law_script"] (spR K R_p_law) := ok_p_law F (cl_l_cell T) (cl_l_drawn T) (cl_l_ordered T) (cl_l_ratio T) (cl_l_single T) (cl_l_width T) (cl_p_near T) (cl_p_order_of T) (cl_p_ratio T) (cl_p_value T) T.m_len T.m_max T.m_min T.m_range
end
theorem all_mk {l : PySem.W.OpenLaw} {w : World} {K : PySem.W.Frag} {h : Heap} {mg : Str → Option Value} {fa f0 f1 f2 f3 f4 f5 f6 f7 f8 f9 f10 f11 f12 f13 f14 f15 f16 f17 f18 f19 f20 : Addr} (X : K.In h) (G : h.Ns mainGlobals mg) (hfa : mg "law" = some (.ref fa))
    {od0 an0 od1 an1 od2 an2 od3 an3 od4 an4 od5 an5 od6 an6 od7 an7 od8 an8 od9 an9 od10 an10 od11 an11 od12 an12 od13 an13 od14 an14 od15 an15 od16 an16 od17 an17 od18 an18 od19 an19 od20 an20 : Option Addr} {sl0 sl1 sl2 sl3 sl4 sl5 sl6 sl7 sl8 sl9 sl10 sl11 sl12 sl13 sl14 sl15 sl16 sl17 sl18 sl19 sl20 : Array (Option Value)} {oc0 kV0 dc0 pm0 cd0 ct0 oc1 kV1 dc1 pm1 cd1 ct1 oc2 kV2 dc2 pm2 cd2 ct2 oc3 kV3 dc3 pm3 cd3 ct3 oc4 kV4 dc4 pm4 cd4 ct4 oc5 kV5 dc5 pm5 cd5 ct5 oc6 kV6 dc6 pm6 cd6 ct6 oc7 kV7 dc7 pm7 cd7 ct7 oc8 kV8 dc8 pm8 cd8 ct8 oc9 kV9 dc9 pm9 cd9 ct9 oc10 kV10 dc10 pm10 cd10 ct10 oc11 kV11 dc11 pm11 cd11 ct11 oc12 kV12 dc12 pm12 cd12 ct12 oc13 kV13 dc13 pm13 cd13 ct13 oc14 kV14 dc14 pm14 cd14 ct14 oc15 kV15 dc15 pm15 cd15 ct15 oc16 kV16 dc16 pm16 cd16 ct16 oc17 kV17 dc17 pm17 cd17 ct17 oc18 kV18 dc18 pm18 cd18 ct18 oc19 kV19 dc19 pm19 cd19 ct19 oc20 kV20 dc20 pm20 cd20 ct20 : Value} 
    (a0 : PySem.W.nsIn K mainGlobals "common_divisor" = some (some (.ref f0))) (l0 : K.lookup f0 = some ⟨oc0, od0, .func (PySem.W.fnOf "common_divisor" "common_divisor" (defArgs s_p_common_divisor) (defBody s_p_common_divisor) (defScope s_p_common_divisor) .none kV0 dc0 pm0 an0 cd0 ct0), sl0⟩) (c0 : PySem.W.codeIn K cd0 "common_divisor" = true) (k0 : PySem.W.keepIn K (.ref f0) = true)
    (a1 : PySem.W.nsIn K mainGlobals "order_of" = some (some (.ref f1))) (l1 : K.lookup f1 = some ⟨oc1, od1, .func (PySem.W.fnOf "order_of" "order_of" (defArgs s_p_order_of) (defBody s_p_order_of) (defScope s_p_order_of) .none kV1 dc1 pm1 an1 cd1 ct1), sl1⟩) (c1 : PySem.W.codeIn K cd1 "order_of" = true) (k1 : PySem.W.keepIn K (.ref f1) = true)
    (a2 : PySem.W.nsIn K mainGlobals "bare_number" = some (some (.ref f2))) (l2 : K.lookup f2 = some ⟨oc2, od2, .func (PySem.W.fnOf "bare_number" "bare_number" (defArgs s_p_bare_number) (defBody s_p_bare_number) (defScope s_p_bare_number) .none kV2 dc2 pm2 an2 cd2 ct2), sl2⟩) (c2 : PySem.W.codeIn K cd2 "bare_number" = true) (k2 : PySem.W.keepIn K (.ref f2) = true)
    (a3 : PySem.W.nsIn K mainGlobals "value" = some (some (.ref f3))) (l3 : K.lookup f3 = some ⟨oc3, od3, .func (PySem.W.fnOf "value" "value" (defArgs s_p_value) (defBody s_p_value) (defScope s_p_value) .none kV3 dc3 pm3 an3 cd3 ct3), sl3⟩) (c3 : PySem.W.codeIn K cd3 "value" = true) (k3 : PySem.W.keepIn K (.ref f3) = true)
    (a4 : PySem.W.nsIn K mainGlobals "placed" = some (some (.ref f4))) (l4 : K.lookup f4 = some ⟨oc4, od4, .func (PySem.W.fnOf "placed" "placed" (defArgs s_p_placed) (defBody s_p_placed) (defScope s_p_placed) .none kV4 dc4 pm4 an4 cd4 ct4), sl4⟩) (c4 : PySem.W.codeIn K cd4 "placed" = true) (k4 : PySem.W.keepIn K (.ref f4) = true)
    (a5 : PySem.W.nsIn K mainGlobals "opposite" = some (some (.ref f5))) (l5 : K.lookup f5 = some ⟨oc5, od5, .func (PySem.W.fnOf "opposite" "opposite" (defArgs s_p_opposite) (defBody s_p_opposite) (defScope s_p_opposite) .none kV5 dc5 pm5 an5 cd5 ct5), sl5⟩) (c5 : PySem.W.codeIn K cd5 "opposite" = true) (k5 : PySem.W.keepIn K (.ref f5) = true)
    (a6 : PySem.W.nsIn K mainGlobals "_law_cell" = some (some (.ref f6))) (l6 : K.lookup f6 = some ⟨oc6, od6, .func (PySem.W.fnOf "_law_cell" "_law_cell" (defArgs s_l_cell) (defBody s_l_cell) (defScope s_l_cell) .none kV6 dc6 pm6 an6 cd6 ct6), sl6⟩) (c6 : PySem.W.codeIn K cd6 "_law_cell" = true) (k6 : PySem.W.keepIn K (.ref f6) = true)
    (a7 : PySem.W.nsIn K mainGlobals "_law_drawn" = some (some (.ref f7))) (l7 : K.lookup f7 = some ⟨oc7, od7, .func (PySem.W.fnOf "_law_drawn" "_law_drawn" (defArgs s_l_drawn) (defBody s_l_drawn) (defScope s_l_drawn) .none kV7 dc7 pm7 an7 cd7 ct7), sl7⟩) (c7 : PySem.W.codeIn K cd7 "_law_drawn" = true) (k7 : PySem.W.keepIn K (.ref f7) = true)
    (a8 : PySem.W.nsIn K mainGlobals "_law_bare" = some (some (.ref f8))) (l8 : K.lookup f8 = some ⟨oc8, od8, .func (PySem.W.fnOf "_law_bare" "_law_bare" (defArgs s_l_bare) (defBody s_l_bare) (defScope s_l_bare) .none kV8 dc8 pm8 an8 cd8 ct8), sl8⟩) (c8 : PySem.W.codeIn K cd8 "_law_bare" = true) (k8 : PySem.W.keepIn K (.ref f8) = true)
    (a9 : PySem.W.nsIn K mainGlobals "_law_common" = some (some (.ref f9))) (l9 : K.lookup f9 = some ⟨oc9, od9, .func (PySem.W.fnOf "_law_common" "_law_common" (defArgs s_l_common) (defBody s_l_common) (defScope s_l_common) .none kV9 dc9 pm9 an9 cd9 ct9), sl9⟩) (c9 : PySem.W.codeIn K cd9 "_law_common" = true) (k9 : PySem.W.keepIn K (.ref f9) = true)
    (a10 : PySem.W.nsIn K mainGlobals "ratio" = some (some (.ref f10))) (l10 : K.lookup f10 = some ⟨oc10, od10, .func (PySem.W.fnOf "ratio" "ratio" (defArgs s_p_ratio) (defBody s_p_ratio) (defScope s_p_ratio) .none kV10 dc10 pm10 an10 cd10 ct10), sl10⟩) (c10 : PySem.W.codeIn K cd10 "ratio" = true) (k10 : PySem.W.keepIn K (.ref f10) = true)
    (a11 : PySem.W.nsIn K mainGlobals "near_parts" = some (some (.ref f11))) (l11 : K.lookup f11 = some ⟨oc11, od11, .func (PySem.W.fnOf "near_parts" "near_parts" (defArgs s_p_near_parts) (defBody s_p_near_parts) (defScope s_p_near_parts) .none kV11 dc11 pm11 an11 cd11 ct11), sl11⟩) (c11 : PySem.W.codeIn K cd11 "near_parts" = true) (k11 : PySem.W.keepIn K (.ref f11) = true)
    (a12 : PySem.W.nsIn K mainGlobals "lower" = some (some (.ref f12))) (l12 : K.lookup f12 = some ⟨oc12, od12, .func (PySem.W.fnOf "lower" "lower" (defArgs s_p_lower) (defBody s_p_lower) (defScope s_p_lower) .none kV12 dc12 pm12 an12 cd12 ct12), sl12⟩) (c12 : PySem.W.codeIn K cd12 "lower" = true) (k12 : PySem.W.keepIn K (.ref f12) = true)
    (a13 : PySem.W.nsIn K mainGlobals "_law_number" = some (some (.ref f13))) (l13 : K.lookup f13 = some ⟨oc13, od13, .func (PySem.W.fnOf "_law_number" "_law_number" (defArgs s_l_number) (defBody s_l_number) (defScope s_l_number) .none kV13 dc13 pm13 an13 cd13 ct13), sl13⟩) (c13 : PySem.W.codeIn K cd13 "_law_number" = true) (k13 : PySem.W.keepIn K (.ref f13) = true)
    (a14 : PySem.W.nsIn K mainGlobals "_law_width" = some (some (.ref f14))) (l14 : K.lookup f14 = some ⟨oc14, od14, .func (PySem.W.fnOf "_law_width" "_law_width" (defArgs s_l_width) (defBody s_l_width) (defScope s_l_width) .none kV14 dc14 pm14 an14 cd14 ct14), sl14⟩) (c14 : PySem.W.codeIn K cd14 "_law_width" = true) (k14 : PySem.W.keepIn K (.ref f14) = true)
    (a15 : PySem.W.nsIn K mainGlobals "_law_ordered" = some (some (.ref f15))) (l15 : K.lookup f15 = some ⟨oc15, od15, .func (PySem.W.fnOf "_law_ordered" "_law_ordered" (defArgs s_l_ordered) (defBody s_l_ordered) (defScope s_l_ordered) .none kV15 dc15 pm15 an15 cd15 ct15), sl15⟩) (c15 : PySem.W.codeIn K cd15 "_law_ordered" = true) (k15 : PySem.W.keepIn K (.ref f15) = true)
    (a16 : PySem.W.nsIn K mainGlobals "near" = some (some (.ref f16))) (l16 : K.lookup f16 = some ⟨oc16, od16, .func (PySem.W.fnOf "near" "near" (defArgs s_p_near) (defBody s_p_near) (defScope s_p_near) .none kV16 dc16 pm16 an16 cd16 ct16), sl16⟩) (c16 : PySem.W.codeIn K cd16 "near" = true) (k16 : PySem.W.keepIn K (.ref f16) = true)
    (a17 : PySem.W.nsIn K mainGlobals "upper" = some (some (.ref f17))) (l17 : K.lookup f17 = some ⟨oc17, od17, .func (PySem.W.fnOf "upper" "upper" (defArgs s_p_upper) (defBody s_p_upper) (defScope s_p_upper) .none kV17 dc17 pm17 an17 cd17 ct17), sl17⟩) (c17 : PySem.W.codeIn K cd17 "upper" = true) (k17 : PySem.W.keepIn K (.ref f17) = true)
    (a18 : PySem.W.nsIn K mainGlobals "_law_ratio" = some (some (.ref f18))) (l18 : K.lookup f18 = some ⟨oc18, od18, .func (PySem.W.fnOf "_law_ratio" "_law_ratio" (defArgs s_l_ratio) (defBody s_l_ratio) (defScope s_l_ratio) .none kV18 dc18 pm18 an18 cd18 ct18), sl18⟩) (c18 : PySem.W.codeIn K cd18 "_law_ratio" = true) (k18 : PySem.W.keepIn K (.ref f18) = true)
    (a19 : PySem.W.nsIn K mainGlobals "_law_single" = some (some (.ref f19))) (l19 : K.lookup f19 = some ⟨oc19, od19, .func (PySem.W.fnOf "_law_single" "_law_single" (defArgs s_l_single) (defBody s_l_single) (defScope s_l_single) .none kV19 dc19 pm19 an19 cd19 ct19), sl19⟩) (c19 : PySem.W.codeIn K cd19 "_law_single" = true) (k19 : PySem.W.keepIn K (.ref f19) = true)
    (a20 : PySem.W.nsIn K mainGlobals "law" = some (some (.ref f20))) (l20 : K.lookup f20 = some ⟨oc20, od20, .func (PySem.W.fnOf "law" "law" (defArgs s_p_law) (defBody s_p_law) (defScope s_p_law) .none kV20 dc20 pm20 an20 cd20 ct20), sl20⟩) (c20 : PySem.W.codeIn K cd20 "law" = true) (k20 : PySem.W.keepIn K (.ref f20) = true)
    (z_abs : PySem.W.nsIn K mainGlobals "abs" = some none)
    (z_int : PySem.W.nsIn K mainGlobals "int" = some none)
    (z_len : PySem.W.nsIn K mainGlobals "len" = some none)
    (z_max : PySem.W.nsIn K mainGlobals "max" = some none)
    (z_min : PySem.W.nsIn K mainGlobals "min" = some none)
    (z_range : PySem.W.nsIn K mainGlobals "range" = some none)
    : ∃ fd : FuncData, (∀ (s : Shared) (v : Value), BindsTo s fd ⟨[v], []⟩ [("_law_script", v)]) ∧ ∀ base : Heap, K.In base → base.Ns mainGlobals mg → FnOk l.prog w K mg base CX0 5 fa fd ["_law_script"] (spR K R_p_law) := by
  have e := hfa.symm.trans (PySem.W.mg_of X G a20)
  cases e
  have T : Txt K mg := ⟨⟨_, _, PySem.W.mg_of X G a0, fun_mk (st := s_p_common_divisor) l0 c0 k0⟩, ⟨_, _, PySem.W.mg_of X G a1, fun_mk (st := s_p_order_of) l1 c1 k1⟩, ⟨_, _, PySem.W.mg_of X G a2, fun_mk (st := s_p_bare_number) l2 c2 k2⟩, ⟨_, _, PySem.W.mg_of X G a3, fun_mk (st := s_p_value) l3 c3 k3⟩, ⟨_, _, PySem.W.mg_of X G a4, fun_mk (st := s_p_placed) l4 c4 k4⟩, ⟨_, _, PySem.W.mg_of X G a5, fun_mk (st := s_p_opposite) l5 c5 k5⟩, ⟨_, _, PySem.W.mg_of X G a6, fun_mk (st := s_l_cell) l6 c6 k6⟩, ⟨_, _, PySem.W.mg_of X G a7, fun_mk (st := s_l_drawn) l7 c7 k7⟩, ⟨_, _, PySem.W.mg_of X G a8, fun_mk (st := s_l_bare) l8 c8 k8⟩, ⟨_, _, PySem.W.mg_of X G a9, fun_mk (st := s_l_common) l9 c9 k9⟩, ⟨_, _, PySem.W.mg_of X G a10, fun_mk (st := s_p_ratio) l10 c10 k10⟩, ⟨_, _, PySem.W.mg_of X G a11, fun_mk (st := s_p_near_parts) l11 c11 k11⟩, ⟨_, _, PySem.W.mg_of X G a12, fun_mk (st := s_p_lower) l12 c12 k12⟩, ⟨_, _, PySem.W.mg_of X G a13, fun_mk (st := s_l_number) l13 c13 k13⟩, ⟨_, _, PySem.W.mg_of X G a14, fun_mk (st := s_l_width) l14 c14 k14⟩, ⟨_, _, PySem.W.mg_of X G a15, fun_mk (st := s_l_ordered) l15 c15 k15⟩, ⟨_, _, PySem.W.mg_of X G a16, fun_mk (st := s_p_near) l16 c16 k16⟩, ⟨_, _, PySem.W.mg_of X G a17, fun_mk (st := s_p_upper) l17 c17 k17⟩, ⟨_, _, PySem.W.mg_of X G a18, fun_mk (st := s_l_ratio) l18 c18 k18⟩, ⟨_, _, PySem.W.mg_of X G a19, fun_mk (st := s_l_single) l19 c19 k19⟩, ⟨_, _, PySem.W.mg_of X G a20, fun_mk (st := s_p_law) l20 c20 k20⟩, PySem.W.mg_none_of X G z_abs, PySem.W.mg_none_of X G z_int, PySem.W.mg_none_of X G z_len, PySem.W.mg_none_of X G z_max, PySem.W.mg_none_of X G z_min, PySem.W.mg_none_of X G z_range⟩
  exact ⟨PySem.W.fnOf "law" "law" (defArgs s_p_law) (defBody s_p_law) (defScope s_p_law) .none kV20 dc20 pm20 an20 cd20 ct20, fun s v => .of_eq rfl, fun base _ _ => ok_all T (fun_mk (st := s_p_law) l20 c20 k20)⟩
theorem law_end {K : PySem.W.Frag} {H : Hp} {a : Addr} {ns : List Int} (hl : ns.length ≤ 63) (hb : ∀ n ∈ ns, Builtin.Int.intBits n ≤ 1048576) (hS : SqL K H a (ns.map V.int)) : spR K R_p_law [.ref a] H (fun v _ => v = .bl true) fun _ _ _ => False :=
  ⟨H, [.scr ns], .bl true, Sm.refl H, .cons (.scr hS) .nil, ⟨ns, rfl, ⟨fun n hn => Nat.lt_of_lt_of_le (ib_lt n) (Nat.pow_le_pow_right (by decide) (hb n hn)), hl⟩, rfl⟩, fun v Hf' H' g r => by cases r; rfl⟩
end Tl
open PySem PySem.W PyProof.Rows
set_option maxHeartbeats 0 in
theorem PySem.Challenge.cw_trueline_k19_whole_near_keeps_order_holds : PySem.Challenge.rw_trueline_k19_whole_near_keeps_order.Holds := by
  w_on; o_law; k_head; (case hw => w_witness2)
  k_fill
  refine L2.walk_ofB (l := PySem.Challenge.rw_trueline_k19_whole_near_keeps_order) (n := 63) (k := 5) (x := "_law_script") (CX := fun _ => L2.CX0) (sp := fun w => Tl.spR _ Tl.R_p_law) rfl (by decide) rfl ⟨rfl, by decide, by decide⟩ (fun w h Y => PySem.W.kIn_of Y) ?F (fun w H a ns hl hb hO hS => Tl.law_end hl hb hS) (fun _ _ _ _ _ h => h)
  case F =>
    intro w mg fa h KX G hmg
    refine' Tl.all_mk KX G hmg ?a0 ?l0 ?c0 ?k0 ?a1 ?l1 ?c1 ?k1 ?a2 ?l2 ?c2 ?k2 ?a3 ?l3 ?c3 ?k3 ?a4 ?l4 ?c4 ?k4 ?a5 ?l5 ?c5 ?k5 ?a6 ?l6 ?c6 ?k6 ?a7 ?l7 ?c7 ?k7 ?a8 ?l8 ?c8 ?k8 ?a9 ?l9 ?c9 ?k9 ?a10 ?l10 ?c10 ?k10 ?a11 ?l11 ?c11 ?k11 ?a12 ?l12 ?c12 ?k12 ?a13 ?l13 ?c13 ?k13 ?a14 ?l14 ?c14 ?k14 ?a15 ?l15 ?c15 ?k15 ?a16 ?l16 ?c16 ?k16 ?a17 ?l17 ?c17 ?k17 ?a18 ?l18 ?c18 ?k18 ?a19 ?l19 ?c19 ?k19 ?a20 ?l20 ?c20 ?k20 ?z_abs ?z_int ?z_len ?z_max ?z_min ?z_range
    (case a0 => k_is)
    (case l0 => k_is)
    (case c0 => k_is)
    (case k0 => k_is)
    (case a1 => k_is)
    (case l1 => k_is)
    (case c1 => k_is)
    (case k1 => k_is)
    (case a2 => k_is)
    (case l2 => k_is)
    (case c2 => k_is)
    (case k2 => k_is)
    (case a3 => k_is)
    (case l3 => k_is)
    (case c3 => k_is)
    (case k3 => k_is)
    (case a4 => k_is)
    (case l4 => k_is)
    (case c4 => k_is)
    (case k4 => k_is)
    (case a5 => k_is)
    (case l5 => k_is)
    (case c5 => k_is)
    (case k5 => k_is)
    (case a6 => k_is)
    (case l6 => k_is)
    (case c6 => k_is)
    (case k6 => k_is)
    (case a7 => k_is)
    (case l7 => k_is)
    (case c7 => k_is)
    (case k7 => k_is)
    (case a8 => k_is)
    (case l8 => k_is)
    (case c8 => k_is)
    (case k8 => k_is)
    (case a9 => k_is)
    (case l9 => k_is)
    (case c9 => k_is)
    (case k9 => k_is)
    (case a10 => k_is)
    (case l10 => k_is)
    (case c10 => k_is)
    (case k10 => k_is)
    (case a11 => k_is)
    (case l11 => k_is)
    (case c11 => k_is)
    (case k11 => k_is)
    (case a12 => k_is)
    (case l12 => k_is)
    (case c12 => k_is)
    (case k12 => k_is)
    (case a13 => k_is)
    (case l13 => k_is)
    (case c13 => k_is)
    (case k13 => k_is)
    (case a14 => k_is)
    (case l14 => k_is)
    (case c14 => k_is)
    (case k14 => k_is)
    (case a15 => k_is)
    (case l15 => k_is)
    (case c15 => k_is)
    (case k15 => k_is)
    (case a16 => k_is)
    (case l16 => k_is)
    (case c16 => k_is)
    (case k16 => k_is)
    (case a17 => k_is)
    (case l17 => k_is)
    (case c17 => k_is)
    (case k17 => k_is)
    (case a18 => k_is)
    (case l18 => k_is)
    (case c18 => k_is)
    (case k18 => k_is)
    (case a19 => k_is)
    (case l19 => k_is)
    (case c19 => k_is)
    (case k19 => k_is)
    (case a20 => k_is)
    (case l20 => k_is)
    (case c20 => k_is)
    (case k20 => k_is)
    (case z_abs => k_is)
    (case z_int => k_is)
    (case z_len => k_is)
    (case z_max => k_is)
    (case z_min => k_is)
    (case z_range => k_is)

