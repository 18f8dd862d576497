import PyProof.Rows.All
import Wide.All
import OpenK.AllK
import Wide.FinOn
import HandS.ForMost
import HandS.Wide
import HandS.Evl
import HandS.TupAny
import HandS.IsInst
import HandS.Exc
import HandS.TryOnly
import HandS.ExcOwn
import HandS.CallSlots
import HandS.WordsExc
import HandS.Dict
import HandS.More
import HandS.TupLe
import HandS.Deep
import HandS.Words
import HandS.Text
import PyProof.P3Eq
import HandS.EndBits
import PySem.Challenge.RW_kithwhole_k52_records_read_back
set_option Elab.async false
set_option linter.all false
set_option maxRecDepth 100000
/-! Tq1: data as trees, cells that may turn, the state's truth in the heap. -/
namespace Tq
open PySem PySem.Spec PyProof.Rows L2

/-- other objects with parts: a dict by ints and texts, a dict by tuples of these, an instance of the class under a global name -/
inductive Hd where
  | dic (ks : List Key) | dit (ks : List (List Key)) | ins (C : Str) (fs : List Str)
/-- data that nobody changes -/
inductive D where
  | non | bl (b : Bool) | int (i : Int) | str (x : Str) | tup (xs : List D) | kt (xs : List D) | lst (xs : List D) | scr (ns : List Int) | fn (x : Str) | nd (h : Hd) (xs : List D)
/-- values: data, a cell, a tuple with cells in it -/
inductive A where
  | d (x : D) | r (k : Nat) | tup (ws : List A)
/-- what a cell holds -/
inductive O where
  | lst (ws : List A) | nd (h : Hd) (ws : List A) | dead
abbrev Hq := List O
abbrev Sl := List (Option A)
/-- an exception: of an own class, bare or with one field; of a built-in class -/
inductive Xc where
  | own (C : Str) | fld (C f : Str) (w : A) | blt (T : String)

def glAt (K : PySem.W.Frag) (C : Str) : Option Addr := match PySem.W.nsIn K mainGlobals C with | some (some (.ref c)) => some c | _ => none
inductive HdAt (K : PySem.W.Frag) (H : Hp) (a : Addr) : Hd → List V → List Addr → Prop
  | dic {ks : List Key} {vs : List V} : H a = some (.dK (ks.zip vs)) → ks.length = vs.length → HdAt K H a (.dic ks) vs [a]
  | dit {ks : List (List Key)} {vs : List V} : H a = some (.dT (ks.zip vs)) → ks.length = vs.length → HdAt K H a (.dit ks) vs [a]
  | ins {C : Str} {ca dx : Addr} {fs : List Str} {vs : List V} : glAt K C = some ca → H a = some (.ins ca dx (fs.zip vs)) → H dx = some (.own a) → fs.length = vs.length → HdAt K H a (.ins C fs) vs [a, dx]
theorem HdAt.to {K : PySem.W.Frag} {H H' : Hp} {a : Addr} {h : Hd} {vs : List V} {own : List Addr} (x : HdAt K H a h vs own) (e : ∀ b ∈ own, ∀ o, H b = some o → H' b = some o) : HdAt K H' a h vs own := by
  cases x with
  | dic h1 h2 => exact .dic (e _ (by simp) _ h1) h2
  | dit h1 h2 => exact .dit (e _ (by simp) _ h1) h2
  | ins h0 h1 h2 h4 => exact .ins h0 (e _ (by simp) _ h1) (e _ (by simp) _ h2) h4
theorem HdAt.own_or {K : PySem.W.Frag} {H : Hp} {a : Addr} {h : Hd} {vs : List V} {own : List Addr} (x : HdAt K H a h vs own) : a ∈ own ∧ (∀ b ∈ own, b = a ∨ H b = some (.own a)) ∧ (∀ b ∈ own, H b ≠ none) ∧ H a ≠ none ∧ ∀ z, H a ≠ some (.own z) := by
  cases x with
  | dic h1 h2 => exact ⟨by simp, by simp, by simp [h1], by simp [h1], by simp [h1]⟩
  | dit h1 h2 => exact ⟨by simp, by simp, by simp [h1], by simp [h1], by simp [h1]⟩
  | ins h0 h1 h2 h4 => exact ⟨by simp, by simp [h2], by simp [h1, h2], by simp [h1], by simp [h1]⟩
theorem sqt_of {K : PySem.W.Frag} {B : Hp} {a : Addr} {xs : List V} (h : B a = some (.tup xs)) : SqT K B a xs := .inl (.inl h)
theorem sqt_mono {K : PySem.W.Frag} {B B' : Hp} {a : Addr} {xs : List V} (e : Same B B') (h : SqT K B a xs) : SqT K B' a xs := by
  rcases h with (h | ⟨o, h⟩) | h
  · exact .inl (.inl (e _ _ h))
  · exact .inl (.inr ⟨o, e _ _ h⟩)
  · exact .inr h
mutual
inductive Rp (K : PySem.W.Frag) (B : Hp) : V → D → Prop
  | non : Rp K B .non .non
  | bl (b : Bool) : Rp K B (.bl b) (.bl b)
  | int (i : Int) : Rp K B (.int i) (.int i)
  | str (x : Str) : Rp K B (.str x) (.str x)
  | tup {a : Addr} {vs : List V} {ds : List D} : B a = some (.tup vs) → RpL K B vs ds → Rp K B (.ref a) (.tup ds)
  | kt {a : Addr} {vs : List V} {ds : List D} : SqT K B a vs → RpL K B vs ds → Rp K B (.ref a) (.kt ds)
  | lst {a : Addr} {vs : List V} {ds : List D} : B a = some (.lst vs) → RpL K B vs ds → Rp K B (.ref a) (.lst ds)
  | scr {a : Addr} {ns : List Int} : SqL K B a (ns.map V.int) → Rp K B (.ref a) (.scr ns)
  | fn {a : Addr} {x : Str} : glAt K x = some a → Rp K B (.ref a) (.fn x)
  | nd {a : Addr} {h : Hd} {vs : List V} {ds : List D} {own : List Addr} : HdAt K B a h vs own → RpL K B vs ds → Rp K B (.ref a) (.nd h ds)
inductive RpL (K : PySem.W.Frag) (B : Hp) : List V → List D → Prop
  | nil : RpL K B [] []
  | cons {v : V} {vs : List V} {d : D} {ds : List D} : Rp K B v d → RpL K B vs ds → RpL K B (v :: vs) (d :: ds)
end
section
variable {K : PySem.W.Frag} {B B' H H' : Hp}
mutual
theorem Rp.mono (e : Same B B') : ∀ {v : V} {d : D}, Rp K B v d → Rp K B' v d
  | _, _, .non => .non
  | _, _, .bl b => .bl b
  | _, _, .int i => .int i
  | _, _, .str x => .str x
  | _, _, .tup h r => .tup (e _ _ h) (RpL.mono e r)
  | _, _, .kt h r => .kt (sqt_mono e h) (RpL.mono e r)
  | _, _, .lst h r => .lst (e _ _ h) (RpL.mono e r)
  | _, _, .scr h => .scr (e.seq h)
  | _, _, .fn h => .fn h
  | _, _, .nd h r => .nd (h.to fun _ _ _ z => e _ _ z) (RpL.mono e r)
theorem RpL.mono (e : Same B B') : ∀ {vs : List V} {ds : List D}, RpL K B vs ds → RpL K B' vs ds
  | _, _, .nil => .nil
  | _, _, .cons h r => .cons (Rp.mono e h) (RpL.mono e r)
end
theorem RpL.length : ∀ {vs : List V} {ds : List D}, RpL K B vs ds → vs.length = ds.length
  | _, _, .nil => rfl
  | _, _, .cons _ r => congrArg (· + 1) r.length
theorem RpL.get : ∀ {vs : List V} {ds : List D} {i : Nat} {d : D}, RpL K B vs ds → ds[i]? = some d → ∃ v, vs[i]? = some v ∧ Rp K B v d
  | _, _, _, _, .nil, e => by simp at e
  | _, _, 0, _, .cons r _, e => by simp at e; subst e; exact ⟨_, rfl, r⟩
  | _, _, i + 1, d, .cons _ t, e => by
    obtain ⟨u, h1, h2⟩ := RpL.get (i := i) (d := d) t (by simpa using e)
    exact ⟨u, by simpa using h1, h2⟩
theorem RpL.append : ∀ {vs ws : List V} {ds es : List D}, RpL K B vs ds → RpL K B ws es → RpL K B (vs ++ ws) (ds ++ es)
  | _, _, _, _, .nil, s => s
  | _, _, _, _, .cons r t, s => .cons r (RpL.append t s)
end
mutual
inductive RA (K : PySem.W.Frag) (B : Hp) (ρ : Nat → Option Addr) : V → A → Prop
  | d {v : V} {x : D} : Rp K B v x → RA K B ρ v (.d x)
  | r {k : Nat} {a : Addr} : ρ k = some a → RA K B ρ (.ref a) (.r k)
  | tup {a : Addr} {vs : List V} {ws : List A} : B a = some (.tup vs) → RAL K B ρ vs ws → RA K B ρ (.ref a) (.tup ws)
inductive RAL (K : PySem.W.Frag) (B : Hp) (ρ : Nat → Option Addr) : List V → List A → Prop
  | nil : RAL K B ρ [] []
  | cons {v : V} {vs : List V} {w : A} {ws : List A} : RA K B ρ v w → RAL K B ρ vs ws → RAL K B ρ (v :: vs) (w :: ws)
end
/-- from state to state, while Z stands aside -/
structure Gr (Z B : Hp) (ρ : Nat → Option Addr) (B' : Hp) (ρ' : Nat → Option Addr) : Prop where
  bb : Same B B'
  rr : ∀ k a, ρ k = some a → ρ' k = some a
  fz : ∀ a, B a = none → B' a ≠ none → Z a = none
section
variable {K : PySem.W.Frag} {Z B B' B'' H H' : Hp} {ρ ρ' ρ'' : Nat → Option Addr}
theorem Gr.refl : Gr Z B ρ B ρ := ⟨fun _ _ h => h, fun _ _ h => h, fun a h h' => absurd h h'⟩
theorem Gr.trans (f : Gr Z B ρ B' ρ') (g : Gr Z B' ρ' B'' ρ'') : Gr Z B ρ B'' ρ'' := by
  refine ⟨fun a o h => g.bb a o (f.bb a o h), fun k a h => g.rr k a (f.rr k a h), fun a h h' => ?_⟩
  by_cases e : B' a = none
  · exact g.fz a e h'
  · exact f.fz a h e
mutual
theorem RA.mono (g : Gr Z B ρ B' ρ') : ∀ {v : V} {w : A}, RA K B ρ v w → RA K B' ρ' v w
  | _, _, .d r => .d (r.mono g.bb)
  | _, _, .r h => .r (g.rr _ _ h)
  | _, _, .tup h r => .tup (g.bb _ _ h) (RAL.mono g r)
theorem RAL.mono (g : Gr Z B ρ B' ρ') : ∀ {vs : List V} {ws : List A}, RAL K B ρ vs ws → RAL K B' ρ' vs ws
  | _, _, .nil => .nil
  | _, _, .cons h r => .cons (RA.mono g h) (RAL.mono g r)
end
theorem RAL.length : ∀ {vs : List V} {ws : List A}, RAL K B ρ vs ws → vs.length = ws.length
  | _, _, .nil => rfl
  | _, _, .cons _ r => congrArg (· + 1) r.length
theorem RAL.get : ∀ {vs : List V} {ds : List A} {i : Nat} {d : A}, RAL K B ρ vs ds → ds[i]? = some d → ∃ v, vs[i]? = some v ∧ RA K B ρ v d
  | _, _, _, _, .nil, e => by simp at e
  | _, _, 0, _, .cons r _, e => by simp at e; subst e; exact ⟨_, rfl, r⟩
  | _, _, i + 1, d, .cons _ t, e => by
    obtain ⟨u, h1, h2⟩ := RAL.get (i := i) (d := d) t (by simpa using e)
    exact ⟨u, by simpa using h1, h2⟩
theorem RAL.append : ∀ {vs ws : List V} {ds es : List A}, RAL K B ρ vs ds → RAL K B ρ ws es → RAL K B ρ (vs ++ ws) (ds ++ es)
  | _, _, _, _, .nil, s => s
  | _, _, _, _, .cons r t, s => .cons r (RAL.append t s)
theorem RAL.take : ∀ {vs : List V} {ds : List A} (n : Nat), RAL K B ρ vs ds → RAL K B ρ (vs.take n) (ds.take n)
  | _, _, 0, _ => by simpa using RAL.nil
  | _, _, _ + 1, .nil => .nil
  | _, _, n + 1, .cons r t => .cons r (RAL.take n t)
theorem RAL.drop : ∀ {vs : List V} {ds : List A} (n : Nat), RAL K B ρ vs ds → RAL K B ρ (vs.drop n) (ds.drop n)
  | _, _, 0, r => by simpa using r
  | _, _, _ + 1, .nil => .nil
  | _, _, n + 1, .cons _ t => RAL.drop n t
theorem RAL.set : ∀ {vs : List V} {ds : List A} (n : Nat) {v : V} {w : A}, RAL K B ρ vs ds → RA K B ρ v w → RAL K B ρ (vs.set n v) (ds.set n w)
  | _, _, _, _, _, .nil, _ => by simpa using RAL.nil
  | _, _, 0, _, _, .cons _ t, w => .cons w t
  | _, _, n + 1, _, _, .cons r t, w => .cons r (RAL.set n t w)
theorem RAL.reverse {vs : List V} {ds : List A} (h : RAL K B ρ vs ds) : RAL K B ρ vs.reverse ds.reverse := by
  induction vs generalizing ds with
  | nil => cases h; exact .nil
  | cons v vs ih =>
    cases h with
    | cons r t =>
      rw [List.reverse_cons, List.reverse_cons]
      exact (ih t).append (.cons r .nil)
theorem ral_ds : ∀ {vs : List V} {ds : List D}, RpL K B vs ds → RAL K B ρ vs (ds.map A.d)
  | _, _, .nil => .nil
  | _, _, .cons r t => .cons (.d r) (ral_ds t)
theorem ral_rpl : ∀ {ds : List D} {vs : List V}, RAL K B ρ vs (ds.map A.d) → RpL K B vs ds
  | [], _, h => by cases h; exact .nil
  | d :: r, _, h => by
    cases h with
    | cons h t =>
      cases h with
      | d h => exact .cons h (ral_rpl t)
theorem rpl_ints : ∀ (ns : List Int), RpL K B (ns.map V.int) (ns.map D.int)
  | [] => .nil
  | n :: r => .cons (.int n) (rpl_ints r)
end

/-! ### cells -/
inductive CeAt (K : PySem.W.Frag) (Z B H : Hp) (ρ : Nat → Option Addr) (a : Addr) : O → Prop
  | lst {vs : List V} {ws : List A} : H a = some (.lst vs) → RAL K B ρ vs ws → B a = none → Z a = none → CeAt K Z B H ρ a (.lst ws)
  | nd {hd : Hd} {vs : List V} {ws : List A} {own : List Addr} : HdAt K H a hd vs own → RAL K B ρ vs ws → (∀ b ∈ own, B b = none ∧ Z b = none) → CeAt K Z B H ρ a (.nd hd ws)
  | dead : Z a = none → CeAt K Z B H ρ a .dead
structure Ok (K : PySem.W.Frag) (Z B : Hp) (ρ : Nat → Option Addr) (H : Hp) (h : Hq) : Prop where
  ex : Same B H
  zz : Same Z H
  ce : ∀ (k : Nat) (o : O), h[k]? = some o → ∃ a, ρ k = some a ∧ CeAt K Z B H ρ a o
  nj : ∀ i j a, ρ i = some a → ρ j = some a → i = j
  al : ∀ k a, ρ k = some a → H a ≠ none
  up : ∀ k, h.length ≤ k → ρ k = none
section
variable {K : PySem.W.Frag} {Z B B' H H' : Hp} {ρ ρ' : Nat → Option Addr} {h : Hq} {σ : L2.St} {τ : Sl}
/-- a new object that nobody changes -/
theorem Ok.newB {q : Addr} {o : HO} (ok : Ok K Z B ρ H h) (hq : H q = none) : Ok K Z (upd B q o) ρ (upd H q o) h ∧ Gr Z B ρ (upd B q o) ρ := by
  have hb : B q = none := by
    cases z : B q with
    | none => rfl
    | some u => rw [ok.ex q u z] at hq; cases hq
  have hz : Z q = none := by
    cases z : Z q with
    | none => rfl
    | some u => rw [ok.zz q u z] at hq; cases hq
  have g : Gr Z B ρ (upd B q o) ρ := ⟨fun a u e => by rw [upd_ne (ne_of_none e hb)]; exact e, fun _ _ e => e, fun a e e' => by
    by_cases z : a = q
    · rw [z]; exact hz
    · rw [upd_ne z] at e'; exact absurd e e'⟩
  refine ⟨⟨fun a u e => ?_, fun a u e => ?_, fun k c e => ?_, ok.nj, fun k a e => ?_, ok.up⟩, g⟩
  · by_cases z : a = q
    · subst z; rw [upd_same] at e ⊢; exact e
    · rw [upd_ne z] at e ⊢; exact ok.ex a u e
  · rw [upd_ne (ne_of_none e hz)]; exact ok.zz a u e
  · obtain ⟨a, h1, h2⟩ := ok.ce k c e
    refine ⟨a, h1, ?_⟩
    cases h2 with
    | lst e1 e2 e3 e4 =>
      have n : a ≠ q := fun z => by subst z; rw [hq] at e1; cases e1
      exact .lst (by rw [upd_ne n]; exact e1) (e2.mono g) (by rw [upd_ne n]; exact e3) e4
    | nd e1 e2 e3 =>
      have n : ∀ b ∈ _, b ≠ q := fun b hb' z => e1.own_or.2.2.1 b hb' (by rw [z]; exact hq)
      exact .nd (e1.to fun b hb' u e => by rw [upd_ne (n b hb')]; exact e) (e2.mono g) fun b hb' => ⟨by rw [upd_ne (n b hb')]; exact (e3 b hb').1, (e3 b hb').2⟩
    | dead ed => exact .dead ed
  · by_cases z : a = q
    · subst z; rw [upd_same]; simp
    · rw [upd_ne z]; exact ok.al k a e
/-- a new cell -/
theorem Ok.newC {q : Addr} {o : O} (ok : Ok K Z B ρ H h) (hq : H q = none) (hh : ∀ b u, H b = some u → H' b = some u) (hq' : H' q ≠ none) (c : CeAt K Z B H' ρ q o) :
    Ok K Z B (fun k => if k = h.length then some q else ρ k) H' (h ++ [o]) ∧ Gr Z B ρ B (fun k => if k = h.length then some q else ρ k) := by
  have g : Gr Z B ρ B (fun k => if k = h.length then some q else ρ k) := ⟨fun _ _ e => e, fun k a e => by
    have : k ≠ h.length := fun z => by rw [ok.up k (by omega)] at e; cases e
    show (if k = h.length then some q else ρ k) = some a
    rw [if_neg this]; exact e, fun a e e' => absurd e e'⟩
  refine ⟨⟨fun a u e => hh _ _ (ok.ex a u e), fun a u e => hh _ _ (ok.zz a u e), fun k c' e => ?_, fun i j a e1 e2 => ?_, fun k a e => ?_, fun k e => ?_⟩, g⟩
  · by_cases z : k = h.length
    · subst z
      rw [List.getElem?_append_right (by omega), Nat.sub_self] at e
      cases e
      refine ⟨q, if_pos rfl, ?_⟩
      cases c with
      | lst e1 e2 e3 e4 => exact .lst e1 (e2.mono g) e3 e4
      | nd e1 e2 e3 => exact .nd e1 (e2.mono g) e3
      | dead ed => exact .dead ed
    · have hk : k < h.length := by
        have := (List.getElem?_eq_some_iff.mp e).1
        rw [List.length_append, List.length_singleton] at this
        omega
      rw [List.getElem?_append_left hk] at e
      obtain ⟨a, h1, h2⟩ := ok.ce k c' e
      refine ⟨a, g.rr k a h1, ?_⟩
      cases h2 with
      | lst e1 e2 e3 e4 => exact .lst (hh _ _ e1) (e2.mono g) e3 e4
      | nd e1 e2 e3 => exact .nd (e1.to fun b _ u e => hh _ _ e) (e2.mono g) e3
      | dead ed => exact .dead ed
  · have e1 : (if i = h.length then some q else ρ i) = some a := e1
    have e2 : (if j = h.length then some q else ρ j) = some a := e2
    split at e1 <;> split at e2
    · omega
    · cases e1; exact absurd hq (ok.al _ _ e2)
    · cases e2; exact absurd hq (ok.al _ _ e1)
    · exact ok.nj i j a e1 e2
  · have e : (if k = h.length then some q else ρ k) = some a := e
    split at e
    · cases e; exact hq'
    · have := ok.al k a e
      cases z : H a with
      | none => exact absurd z this
      | some u => rw [hh _ _ z]; simp
  · rw [List.length_append, List.length_singleton] at e
    show (if k = h.length then some q else ρ k) = none
    rw [if_neg (by omega)]
    exact ok.up k (by omega)
/-- a cell turns -/
theorem Ok.mut {k : Nat} {a : Addr} {o o' : O} {ob : HO} (ok : Ok K Z B ρ H h) (e : h[k]? = some o) (hr : ρ k = some a) (hn : ∀ z, H a ≠ some (.own z)) (hb : B a = none) (hz : Z a = none) (c : CeAt K Z B (upd H a ob) ρ a o') : Ok K Z B ρ (upd H a ob) (h.set k o') := by
  have hk : k < h.length := (List.getElem?_eq_some_iff.mp e).1
  refine ⟨fun b u q => ?_, fun b u q => ?_, fun j c' q => ?_, ok.nj, fun j b q => ?_, fun j q => ok.up j (by rwa [List.length_set] at q)⟩
  · rw [upd_ne (ne_of_none q hb)]; exact ok.ex b u q
  · rw [upd_ne (ne_of_none q hz)]; exact ok.zz b u q
  · by_cases z : j = k
    · subst z
      rw [List.getElem?_set_self hk] at q
      cases q
      exact ⟨a, hr, c⟩
    · rw [List.getElem?_set_ne (Ne.symm z)] at q
      obtain ⟨b, h1, h2⟩ := ok.ce j c' q
      have nab : b ≠ a := fun y => z (ok.nj j k a (by rw [← y]; exact h1) hr)
      refine ⟨b, h1, ?_⟩
      cases h2 with
      | lst e1 e2 e3 e4 => exact .lst (by rw [upd_ne nab]; exact e1) e2 e3 e4
      | nd e1 e2 e3 =>
        refine .nd (e1.to fun y hy u eu => ?_) e2 e3
        rcases e1.own_or.2.1 y hy with w | w
        · subst w; rw [upd_ne nab]; exact eu
        · rw [upd_ne fun v => hn b (by rw [← v]; exact w)]; exact eu
      | dead ed => exact .dead ed
  · by_cases z : b = a
    · subst z; rw [upd_same]; simp
    · rw [upd_ne z]; exact ok.al j b q
/-- other heaps that agree where it counts -/
theorem Ok.grow {H' : Hp} (ok : Ok K Z B ρ H h) (hh : ∀ b u, H b = some u → H' b = some u) : Ok K Z B ρ H' h := by
  refine ⟨fun a u e => hh _ _ (ok.ex a u e), fun a u e => hh _ _ (ok.zz a u e), fun k c e => ?_, ok.nj, fun k a e => ?_, ok.up⟩
  · obtain ⟨a, h1, h2⟩ := ok.ce k c e
    refine ⟨a, h1, ?_⟩
    cases h2 with
    | lst e1 e2 e3 e4 => exact .lst (hh _ _ e1) e2 e3 e4
    | nd e1 e2 e3 => exact .nd (e1.to fun b _ u e => hh _ _ e) e2 e3
    | dead ed => exact .dead ed
  · have := ok.al k a e
    cases z : H a with
    | none => exact absurd z this
    | some u => rw [hh _ _ z]; simp

/-! ### slots -/
structure SlOk (K : PySem.W.Frag) (B : Hp) (ρ : Nat → Option Addr) (σ : L2.St) (τ : Sl) : Prop where
  ln : σ.length = τ.length
  at_ : ∀ (i : Nat) (w : A), τ[i]? = some (some w) → ∃ v, σ[i]? = some (some v) ∧ RA K B ρ v w
theorem SlOk.mono (s : SlOk K B ρ σ τ) (g : Gr Z B ρ B' ρ') : SlOk K B' ρ' σ τ := ⟨s.ln, fun i w e => let ⟨v, h1, h2⟩ := s.at_ i w e; ⟨v, h1, h2.mono g⟩⟩
theorem SlOk.put (s : SlOk K B ρ σ τ) {i : Nat} {v : V} {w : A} (r : RA K B ρ v w) : SlOk K B ρ (σ.set i (some v)) (τ.set i (some w)) := by
  refine ⟨by rw [List.length_set, List.length_set]; exact s.ln, fun j u e => ?_⟩
  by_cases z : i = j
  · subst z
    have hi : i < τ.length := by
      have := (List.getElem?_eq_some_iff.mp e).1
      rwa [List.length_set] at this
    rw [List.getElem?_set_self hi] at e
    cases e
    exact ⟨v, List.getElem?_set_self (by rw [s.ln]; exact hi), r⟩
  · rw [List.getElem?_set_ne z] at e
    obtain ⟨x, h1, h2⟩ := s.at_ j u e
    exact ⟨x, by rw [List.getElem?_set_ne z]; exact h1, h2⟩
end

/-! ### trees of values -/
def mapMn {α β : Type} (f : α → Option β) : List α → Option (List β)
  | [] => some []
  | a :: r => match f a with | some b => (match mapMn f r with | some bs => some (b :: bs) | none => none) | none => none
def vw : Nat → Hq → A → Option D
  | _, _, .d x => some x
  | 0, _, _ => none
  | n + 1, h, .r k => match h[k]? with
    | some (.lst ws) => (mapMn (vw n h) ws).map .lst
    | some (.nd hd ws) => (mapMn (vw n h) ws).map (.nd hd)
    | _ => none
  | n + 1, h, .tup ws => (mapMn (vw n h) ws).map .tup
abbrev view (h : Hq) (w : A) : Option D := vw 32 h w
@[simp] theorem vw_d (n : Nat) (h : Hq) (x : D) : vw n h (.d x) = some x := by cases n <;> rfl
theorem mapMn_d : ∀ (f : A → Option D) (ds : List D), (∀ x, f (.d x) = some x) → mapMn f (ds.map A.d) = some ds
  | _, [], _ => rfl
  | f, d :: r, h => by
    rw [List.map_cons]
    unfold mapMn
    rw [h, mapMn_d f r h]
theorem vw_cell {n : Nat} {h : Hq} {k : Nat} {ds : List D} (e : h[k]? = some (.lst (ds.map A.d))) : vw (n + 1) h (.r k) = some (.lst ds) := by
  unfold vw
  rw [e]
  dsimp only
  rw [mapMn_d _ _ (vw_d n h)]
  rfl
section
variable {K : PySem.W.Frag} {Z B H : Hp} {ρ : Nat → Option Addr} {h : Hq}
theorem vws_of {f : A → Option D} {P : Hp} (hf : ∀ v w d, RA K B ρ v w → f w = some d → Rp K P v d) : ∀ {vs : List V} {ws : List A} {ds : List D}, RAL K B ρ vs ws → mapMn f ws = some ds → RpL K P vs ds
  | _, _, _, .nil, e => by cases e; exact .nil
  | _, w :: r, ds, .cons ra ral, e => by
    unfold mapMn at e
    split at e
    · rename_i b e1
      split at e
      · rename_i bs e2
        cases e
        exact .cons (hf _ _ _ ra e1) (vws_of hf ral e2)
      · cases e
    · cases e
/-- seen at a heap that holds what is frozen and the cells -/
theorem vw_at {P : Hp} (ok : Ok K Z B ρ H h) (e1 : Same B P) (e2 : ∀ b, Z b = none → B b = none → ∀ u, H b = some u → P b = some u) : ∀ (n : Nat) (v : V) (w : A) (d : D), RA K B ρ v w → vw n h w = some d → Rp K P v d
  | n, _, .d x, d, .d r, e => by rw [vw_d] at e; cases e; exact r.mono e1
  | 0, _, .r k, d, _, e => by cases e
  | 0, _, .tup ws, d, _, e => by cases e
  | n + 1, _, .r k, d, .r hr, e => by
    unfold vw at e
    split at e
    · rename_i ws e3
      obtain ⟨ds, e4, rfl⟩ := Option.map_eq_some_iff.mp e
      obtain ⟨a', h1, h2⟩ := ok.ce k _ e3
      rw [hr] at h1
      cases h1
      cases h2 with
      | lst q1 q2 q3 q4 => exact .lst (e2 _ q4 q3 _ q1) (vws_of (vw_at ok e1 e2 n) q2 e4)
    · rename_i hd ws e3
      obtain ⟨ds, e4, rfl⟩ := Option.map_eq_some_iff.mp e
      obtain ⟨a', h1, h2⟩ := ok.ce k _ e3
      rw [hr] at h1
      cases h1
      cases h2 with
      | nd q1 q2 q3 => exact .nd (q1.to fun b hb u eu => e2 b (q3 b hb).2 (q3 b hb).1 u eu) (vws_of (vw_at ok e1 e2 n) q2 e4)
    · cases e
  | n + 1, _, .tup ws, d, .tup ht rl, e => by
    unfold vw at e
    obtain ⟨ds, e4, rfl⟩ := Option.map_eq_some_iff.mp e
    exact .tup (e1 _ _ ht) (vws_of (vw_at ok e1 e2 n) rl e4)
theorem Ok.see (ok : Ok K Z B ρ H h) {n : Nat} {v : V} {w : A} {d : D} (r : RA K B ρ v w) (e : vw n h w = some d) : Rp K H v d := vw_at ok ok.ex (fun _ _ _ _ e => e) n v w d r e
end

/-! ### outcomes -/
inductive Rs (α : Type) where
  | ok (a : α) (h : Hq) | ex (x : Xc) (h : Hq)
abbrev E (α : Type) := Sl → Hq → Option (Rs α)
def bd {α β : Type} (r : Option (Rs α)) (k : α → Hq → Option (Rs β)) : Option (Rs β) := match r with
  | some (.ok a h) => k a h
  | some (.ex x h) => some (.ex x h)
  | none => none
@[simp] theorem bd_ok {α β : Type} (a : α) (h : Hq) (k : α → Hq → Option (Rs β)) : bd (some (.ok a h)) k = k a h := rfl
@[simp] theorem bd_ex {α β : Type} (x : Xc) (h : Hq) (k : α → Hq → Option (Rs β)) : bd (some (.ex x h)) k = some (.ex x h) := rfl
@[simp] theorem bd_no {α β : Type} (k : α → Hq → Option (Rs β)) : bd none k = none := rfl
inductive XcAt (K : PySem.W.Frag) (B : Hp) (ρ : Nat → Option Addr) (H : Hp) : Xc → Value → Option Addr → Prop
  | own {C : Str} {c : Addr} : glAt K C = some c → XcAt K B ρ H (.own C) (.ref c) none
  | fld {C f : Str} {c d : Addr} {v : V} {w : A} : glAt K C = some c → H d = some (.xd [(f, v)]) → RA K B ρ v w → XcAt K B ρ H (.fld C f w) (.ref c) (some d)
  | blt {T : String} : XcAt K B ρ H (.blt T) (.type T) none
def Post {α : Type} (K : PySem.W.Frag) (Z : Hp) (W : XK) (B : Hp) (ρ : Nat → Option Addr) (R : α → Hq → Hp → (Nat → Option Addr) → Hp → Prop) : Option (Rs α) → Prop
  | none => False
  | some (.ok a h) => ∀ B' ρ' H', Ok K Z B' ρ' H' h → Gr Z B ρ B' ρ' → R a h B' ρ' H'
  | some (.ex x h) => ∀ B' ρ' H' cls d, Ok K Z B' ρ' H' h → Gr Z B ρ B' ρ' → XcAt K B' ρ' H' x cls d → W cls d H'
section
variable {α β : Type} {K : PySem.W.Frag} {Z B B' H : Hp} {ρ ρ' : Nat → Option Addr} {h : Hq} {W : XK} {R : α → Hq → Hp → (Nat → Option Addr) → Hp → Prop} {r : Option (Rs α)}
theorem Post.from (q : Post K Z W B ρ R r) (g : Gr Z B ρ B' ρ') : Post K Z W B' ρ' R r := by
  match r, q with
  | some (.ok a h), q => exact fun B2 ρ2 H2 ok g2 => q B2 ρ2 H2 ok (g.trans g2)
  | some (.ex x h), q => exact fun B2 ρ2 H2 cls d ok g2 x => q B2 ρ2 H2 cls d ok (g.trans g2) x
theorem Post.imp {R' : α → Hq → Hp → (Nat → Option Addr) → Hp → Prop} (q : Post K Z W B ρ R r) (i : ∀ a h B' ρ' H', Ok K Z B' ρ' H' h → Gr Z B ρ B' ρ' → R a h B' ρ' H' → R' a h B' ρ' H') : Post K Z W B ρ R' r := by
  match r, q with
  | some (.ok a h), q => exact fun B2 ρ2 H2 ok g2 => i _ _ _ _ _ ok g2 (q B2 ρ2 H2 ok g2)
  | some (.ex x h), q => exact q
theorem Post.bd {R : β → Hq → Hp → (Nat → Option Addr) → Hp → Prop} {k : α → Hq → Option (Rs β)} (q : Post K Z W B ρ R (Tq.bd r k)) : Post K Z W B ρ (fun a h B' ρ' H' => Post K Z W B' ρ' R (k a h)) r := by
  match r, q with
  | some (.ok a h), q => exact fun B2 ρ2 H2 ok g2 => Post.from q g2
  | some (.ex x h), q => exact q
end
end Tq

/-! Tq2: expressions. -/
namespace Tq
open PySem PySem.Spec PyProof.Rows L2

abbrev LIM : Nat := 16777216
theorem lim_eq : LIM = sizeLine := by rw [sizeLine_eq]
abbrev Wx := WX
def tE (K : PySem.W.Frag) (W : WX) (m : E A) : TE := fun σ H Q => ∃ Z B ρ τ h, Ok K Z B ρ H h ∧ SlOk K B ρ σ τ ∧ Post K Z (fun c d H' => W c d σ H') B ρ (fun w _ B' ρ' H' => ∀ v, RA K B' ρ' v w → Q v H') (m τ h)
structure RX (X : Cx) (W : WX) (e : Expr) (m : E A) : Prop where
  pe : PE X e (tE X.K W m)
theorem pe_imp {X : Cx} {e : Expr} {t t' : TE} (h : PE X e t) (i : ∀ σ H Q, t' σ H Q → t σ H Q) : PE X e t' := ⟨fun pins s σ H Q I q => h.run pins s σ H Q I (i _ _ _ q)⟩
theorem pt_imp {X : Cx} {e : Expr} {t t' : TT} (h : PT X e t) (i : ∀ σ H Q, t' σ H Q → t σ H Q) : PT X e t' := ⟨fun pins s σ H Q I q => h.run pins s σ H Q I (i _ _ _ q)⟩
theorem pw_imp {X : Cx} {e : Expr} {t t' : TT} (h : PW X e t) (i : ∀ σ H Q, t' σ H Q → t σ H Q) : PW X e t' := ⟨fun w pins s σ H Q I q => h.run w pins s σ H Q I (i _ _ _ q)⟩
theorem pa_imp {X : Cx} {e : List Expr} {t t' : TA} (h : PA X e t) (i : ∀ σ H Q, t' σ H Q → t σ H Q) : PA X e t' := ⟨fun pos pins s σ H Q I q => h.run pos pins s σ H Q I (i _ _ _ q)⟩
theorem ps_imp {X : Cx} {e : Stmt} {t t' : TS} (h : PS X e t) (i : ∀ D σ H, t' D σ H → t D σ H) : PS X e t' := ⟨fun pins s σ H D I q => h.run pins s σ H D I (i _ _ _ q)⟩
theorem pss_imp {X : Cx} {e : List Stmt} {t t' : TS} (h : PSs X e t) (i : ∀ D σ H, t' D σ H → t D σ H) : PSs X e t' := ⟨fun pins s σ H D I q => h.run pins s σ H D I (i _ _ _ q)⟩
theorem po_imp {X : Cx} {e : Option Expr} {t t' : TO} (h : PO X e t) (i : ∀ σ H Q, t' σ H Q → t σ H Q) : PO X e t' := by
  constructor
  intros
  rename_i I q
  exact h.run _ _ _ _ _ I (i _ _ _ q)
theorem pe_or {X : Cx} {e : Expr} {t t' : TE} (h : PE X e t) (h' : PE X e t') : PE X e fun σ H Q => t σ H Q ∨ t' σ H Q := ⟨fun pins s σ H Q I q => q.elim (h.run pins s σ H Q I) (h'.run pins s σ H Q I)⟩

section
variable {α β : Type} {K : PySem.W.Frag} {W : WX} {σ : L2.St} {τ : Sl} {H : Hp} {Q : VK} {Z B : Hp} {ρ : Nat → Option Addr} {h : Hq}
/-- a step: e is m, and what follows -/
theorem te_bd {m : E A} {k : A → Hq → Option (Rs β)} {R : β → Hq → Hp → (Nat → Option Addr) → Hp → Prop} (ok : Ok K Z B ρ H h) (sl : SlOk K B ρ σ τ) (q : Post K Z (fun c d H' => W c d σ H') B ρ R (bd (m τ h) k))
    (c : ∀ v w h1 B1 ρ1 H1, RA K B1 ρ1 v w → Ok K Z B1 ρ1 H1 h1 → SlOk K B1 ρ1 σ τ → Gr Z B ρ B1 ρ1 → Post K Z (fun c d H' => W c d σ H') B1 ρ1 R (k w h1) → Q v H1) : tE K W m σ H Q :=
  ⟨Z, B, ρ, τ, h, ok, sl, q.bd.imp fun w h1 B1 ρ1 H1 ok1 g1 q1 v r => c v w h1 B1 ρ1 H1 r ok1 (sl.mono g1) g1 q1⟩
theorem te_last {m : E A} (ok : Ok K Z B ρ H h) (sl : SlOk K B ρ σ τ) {R : A → Hq → Hp → (Nat → Option Addr) → Hp → Prop} (q : Post K Z (fun c d H' => W c d σ H') B ρ R (m τ h))
    (c : ∀ v w h1 B1 ρ1 H1, RA K B1 ρ1 v w → Ok K Z B1 ρ1 H1 h1 → SlOk K B1 ρ1 σ τ → Gr Z B ρ B1 ρ1 → R w h1 B1 ρ1 H1 → Q v H1) : tE K W m σ H Q :=
  ⟨Z, B, ρ, τ, h, ok, sl, q.imp fun w h1 B1 ρ1 H1 ok1 g1 q1 v r => c v w h1 B1 ρ1 H1 r ok1 (sl.mono g1) g1 q1⟩
end
def pu {α : Type} (a : α) (h : Hq) : Option (Rs α) := some (.ok a h)
section
variable {α : Type} {K : PySem.W.Frag} {W : XK} {Z B : Hp} {ρ : Nat → Option Addr} {H : Hp} {h : Hq} {R : α → Hq → Hp → (Nat → Option Addr) → Hp → Prop}
theorem Post.now {a : α} (q : Post K Z W B ρ R (some (.ok a h))) (ok : Ok K Z B ρ H h) : R a h B ρ H := q B ρ H ok Gr.refl
end

/-! ### leaves -/
def mC (d : D) : E A := fun _ h => some (.ok (.d d) h)
def mVar (i : Nat) : E A := fun τ h => match τ[i]? with | some (some w) => some (.ok w h) | _ => none
def mNo {α : Type} : E α := fun _ _ => none
section
variable {X : Cx} {W : WX} {e a b c : Expr} {m ma mb mc : E A} {pos : Pos}
theorem rx_no : RX X W e mNo := ⟨⟨fun pins s σ H Q I q => by
  obtain ⟨_, _, _, _, _, _, _, q⟩ := q
  exact q.elim⟩⟩
theorem rx_const {v : V} {d : D} (h : PE X e (tC v)) (r : ∀ B, Rp X.K B v d) : RX X W e (mC d) := ⟨pe_imp h fun σ H Q q => by
  obtain ⟨Z, B, ρ, τ, h, ok, sl, q⟩ := q
  exact q.now ok v (.d (r B))⟩
theorem rx_int {i j pos} : RX X W (.Constant (.int i) j pos) (mC (.int i)) := rx_const pe_int fun _ => .int i
theorem rx_bl {i j pos} : RX X W (.Constant (.bool i) j pos) (mC (.bl i)) := rx_const pe_bl fun _ => .bl i
theorem rx_str {i j pos} : RX X W (.Constant (.str i) j pos) (mC (.str i)) := rx_const pe_str fun _ => .str i
theorem rx_non {j pos} : RX X W (.Constant .none j pos) (mC .non) := rx_const pe_non fun _ => .non
theorem rx_glob {x : Str} {v : V} {d : D} {u : Value} (hm : X.mg x = some u) (r : RelV v u) (rp : ∀ B, Rp X.K B v d) (hg : Gl X x := by rfl) (hd : (x == ("__debug__" : Str)) = false := by decide) : RX X W (.Name x pos) (mC d) :=
  rx_const (pe_glob hg hm r hd) rp
theorem rx_var (i : Nat) {x : Str} (hN : X.N[i]? = some x := by rfl) (hv : Vis X.env.scope x := by first | exact Or.inl rfl | exact Or.inr (Or.inl rfl) | exact Or.inr (Or.inr rfl)) (hd : (x == ("__debug__" : Str)) = false := by decide)
    (hcd : (x == ("__classdict__" : Str)) = false := by decide) : RX X W (.Name x pos) (mVar i) := ⟨pe_imp (pv i hN hv hd hcd) fun σ H Q q => by
  obtain ⟨Z, B, ρ, τ, h, ok, sl, q⟩ := q
  unfold mVar at q
  split at q
  · rename_i w e1
    obtain ⟨v, h1, h2⟩ := sl.at_ i w e1
    exact ⟨v, h1, q.now ok v h2⟩
  · exact q.elim⟩

/-! ### operators -/
abbrev G2 := A → A → Hq → Option (Rs A)
abbrev G1 := A → Hq → Option (Rs A)
def mBin (g : G2) (ma mb : E A) : E A := fun τ h => bd (ma τ h) fun a h1 => bd (mb τ h1) fun b h2 => g a b h2
def mUn (g : G1) (ma : E A) : E A := fun τ h => bd (ma τ h) fun a h1 => g a h1
def Op2 (K : PySem.W.Frag) (r : R2) (g : G2) : Prop := ∀ (Z B : Hp) (ρ : Nat → Option Addr) (H : Hp) (h : Hq) (x y : V) (a b : A) (W : XK) (Q : VK), Ok K Z B ρ H h → RA K B ρ x a → RA K B ρ y b →
  Post K Z W B ρ (fun w _ B' ρ' H' => ∀ v, RA K B' ρ' v w → Q v H') (g a b h) → r x y H Q
def Op1 (K : PySem.W.Frag) (r : V → Hp → VK → Prop) (g : G1) : Prop := ∀ (Z B : Hp) (ρ : Nat → Option Addr) (H : Hp) (h : Hq) (x : V) (a : A) (W : XK) (Q : VK), Ok K Z B ρ H h → RA K B ρ x a →
  Post K Z W B ρ (fun w _ B' ρ' H' => ∀ v, RA K B' ρ' v w → Q v H') (g a h) → r x H Q
theorem rx_op2 {g : G2} {r : R2} {ee : Expr} (ha : RX X W a ma) (hb : RX X W b mb) (og : Op2 X.K r g) (he : ∀ {ta tb : TE}, PE X a ta → PE X b tb → PE X ee (tOp r ta tb)) : RX X W ee (mBin g ma mb) := ⟨pe_imp (he ha.pe hb.pe) fun σ H Q q => by
  obtain ⟨Z, B, ρ, τ, h, ok, sl, q⟩ := q
  exact te_bd ok sl q fun x a h1 B1 ρ1 H1 rx ok1 sl1 g1 q1 => te_bd ok1 sl1 q1 fun y b h2 B2 ρ2 H2 ry ok2 sl2 g2 q2 => og Z B2 ρ2 H2 h2 x y a b _ Q ok2 (rx.mono g2) ry q2⟩
theorem rx_bin {op : Operator} {g : G2} {r : R2} (ho : OpR X (binaryOp op) r) (og : Op2 X.K r g) (ha : RX X W a ma) (hb : RX X W b mb) : RX X W (.BinOp a op b pos) (mBin g ma mb) :=
  rx_op2 ha hb og fun h1 h2 => pe_op ho h1 h2
theorem rx_cmp {op : CmpOp} {g : G2} {r : R2} (ho : OpR X (compareOp op) r) (og : Op2 X.K r g) (ha : RX X W a ma) (hb : RX X W b mb) (hm : behindInMarks op b = false) : RX X W (.Compare a [op] [b] pos) (mBin g ma mb) :=
  rx_op2 ha hb og fun h1 h2 => pe_cmpR ho h1 h2 hm
theorem rx_op1 {g : G1} {r : V → Hp → VK → Prop} {ee : Expr} (ha : RX X W a ma) (og : Op1 X.K r g) (he : ∀ {ta : TE}, PE X a ta → PE X ee (tUn r ta)) : RX X W ee (mUn g ma) := ⟨pe_imp (he ha.pe) fun σ H Q q => by
  obtain ⟨Z, B, ρ, τ, h, ok, sl, q⟩ := q
  exact te_bd ok sl q fun x a h1 B1 ρ1 H1 rx ok1 sl1 g1 q1 => og Z B1 ρ1 H1 h1 x a _ Q ok1 rx q1⟩
theorem rx_un {op : UnaryOp} {g : G1} {r : V → Hp → VK → Prop} (ho : UnR X (unaryOp op) r) (og : Op1 X.K r g) (ha : RX X W a ma) : RX X W (.UnaryOp op a pos) (mUn g ma) :=
  rx_op1 ha og fun h1 => pe_un ho h1

/-! ### argument lists -/
def tAs (K : PySem.W.Frag) (W : WX) (m : E (List A)) : TA := fun σ H Q => ∃ Z B ρ τ h, Ok K Z B ρ H h ∧ SlOk K B ρ σ τ ∧ Post K Z (fun c d H' => W c d σ H') B ρ (fun ws _ B' ρ' H' => ∀ vs, RAL K B' ρ' vs ws → Q vs H') (m τ h)
structure RAs (X : Cx) (W : WX) (es : List Expr) (m : E (List A)) : Prop where
  pa : PA X es (tAs X.K W m)
def maNil : E (List A) := fun _ h => some (.ok [] h)
def maCons (ma : E A) (mr : E (List A)) : E (List A) := fun τ h => bd (ma τ h) fun a h1 => bd (mr τ h1) fun r h2 => some (.ok (a :: r) h2)
variable {es : List Expr} {mr : E (List A)}
theorem ra_nil : RAs X W [] maNil := ⟨pa_imp pa_nil fun σ H Q q => by
  obtain ⟨Z, B, ρ, τ, h, ok, sl, q⟩ := q
  exact q.now ok [] .nil⟩
theorem ra_cons (ha : RX X W a ma) (hr : RAs X W es mr) (hs : starEach (a :: es) X.env = (false, eval a X.env) :: starEach es X.env := by rfl) : RAs X W (a :: es) (maCons ma mr) := ⟨pa_imp (pa_cons ha.pe hr.pa hs) fun σ H Q q => by
  obtain ⟨Z, B, ρ, τ, h, ok, sl, q⟩ := q
  refine te_bd ok sl q fun x a h1 B1 ρ1 H1 rx ok1 sl1 g1 q1 => ?_
  refine ⟨Z, B1, ρ1, τ, h1, ok1, sl1, q1.bd.imp fun ws h2 B2 ρ2 H2 ok2 g2 q2 vs rl => ?_⟩
  exact q2.now ok2 (x :: vs) (.cons (rx.mono g2) rl)⟩

/-! ### new lists and tuples -/
def A.toD? : A → Option D
  | .d x => some x
  | _ => none
def allD : List A → Option (List D) := mapMn A.toD?
theorem allD_of : ∀ {ws : List A} {ds : List D}, allD ws = some ds → ws = ds.map A.d
  | [], ds, h => by cases h; rfl
  | w :: r, ds, h => by
    unfold allD mapMn at h
    split at h
    · rename_i b e1
      split at h
      · rename_i bs e2
        cases h
        cases w with
        | d x =>
          cases e1
          rw [allD_of (ws := r) e2]
          rfl
        | r _ => cases e1
        | tup _ => cases e1
      · cases h
    · cases h
@[simp] theorem allD_map (ds : List D) : allD (ds.map A.d) = some ds := mapMn_d _ ds fun _ => rfl
/-- a new list: a cell, or data at once -/
def mkL (o : Bool) (ws : List A) (h : Hq) : Option (Rs A) := if ws.length ≤ LIM then (if o then some (.ok (.r h.length) (h ++ [.lst ws])) else (allD ws).map fun ds => .ok (.d (.lst ds)) h) else none
def mkT (ws : List A) (h : Hq) : Option (Rs A) := if ws.length ≤ LIM then (match allD ws with | some ds => some (.ok (.d (.tup ds)) h) | none => some (.ok (.tup ws) h)) else none
section
variable {K : PySem.W.Frag} {W : XK} {Z B : Hp} {ρ : Nat → Option Addr} {H : Hp} {h : Hq} {Q : VK} {ws : List A} {vs : List V} {o : Bool}
theorem mkL_len {R : A → Hq → Hp → (Nat → Option Addr) → Hp → Prop} (q : Post K Z W B ρ R (mkL o ws h)) : ws.length ≤ LIM := by
  unfold mkL at q
  split at q
  · assumption
  · exact q.elim
theorem mkL_ok (ok : Ok K Z B ρ H h) (r : RAL K B ρ vs ws) (q : Post K Z W B ρ (fun w _ B' ρ' H' => ∀ v, RA K B' ρ' v w → Q v H') (mkL o ws h)) {p : Addr} (hp : H p = none) : Q (.ref p) (upd H p (.lst vs)) := by
  unfold mkL at q
  split at q
  · split at q
    · have hb : B p = none := by
        cases z : B p with
        | none => rfl
        | some u => rw [ok.ex p u z] at hp; cases hp
      have hz : Z p = none := by
        cases z : Z p with
        | none => rfl
        | some u => rw [ok.zz p u z] at hp; cases hp
      obtain ⟨ok2, g⟩ := ok.newC (q := p) (H' := upd H p (.lst vs)) (o := .lst ws) hp (fun b u e => by rw [upd_ne (ne_of_none e hp)]; exact e) (by rw [upd_same]; simp) (.lst upd_same r hb hz)
      exact q _ _ _ ok2 g (.ref p) (.r (if_pos rfl))
    · cases e : allD ws with
      | none => rw [e] at q; exact q.elim
      | some ds =>
        rw [e] at q
        cases allD_of e
        obtain ⟨ok2, g⟩ := ok.newB (o := .lst vs) hp
        exact q _ _ _ ok2 g (.ref p) (.d (.lst upd_same ((ral_rpl r).mono g.bb)))
  · exact q.elim
theorem mkT_len {R : A → Hq → Hp → (Nat → Option Addr) → Hp → Prop} (q : Post K Z W B ρ R (mkT ws h)) : ws.length ≤ LIM := by
  unfold mkT at q
  split at q
  · assumption
  · exact q.elim
/-- a tuple that stands -/
theorem mkT_at (ok : Ok K Z B ρ H h) {p : Addr} (ht : B p = some (.tup vs)) (r : RAL K B ρ vs ws) (q : Post K Z W B ρ (fun w _ B' ρ' H' => ∀ v, RA K B' ρ' v w → Q v H') (mkT ws h)) : Q (.ref p) H := by
  unfold mkT at q
  split at q
  · cases e : allD ws with
    | none =>
      rw [e] at q
      exact q.now ok (.ref p) (.tup ht r)
    | some ds =>
      rw [e] at q
      cases allD_of e
      exact q.now ok (.ref p) (.d (.tup ht (ral_rpl r)))
  · exact q.elim
theorem mkT_ok (ok : Ok K Z B ρ H h) (r : RAL K B ρ vs ws) (q : Post K Z W B ρ (fun w _ B' ρ' H' => ∀ v, RA K B' ρ' v w → Q v H') (mkT ws h)) {p : Addr} (hp : H p = none) : Q (.ref p) (upd H p (.tup vs)) := by
  obtain ⟨ok2, g⟩ := ok.newB (o := .tup vs) hp
  exact mkT_at ok2 upd_same (r.mono g) (q.from g)
end
def mTup (mr : E (List A)) : E A := fun τ h => bd (mr τ h) fun ws h1 => mkT ws h1
def mLst (o : Bool) (mr : E (List A)) : E A := fun τ h => bd (mr τ h) fun ws h1 => mkL o ws h1
theorem rx_tup {x1} (hr : RAs X W es mr) : RX X W (.Tuple es x1 pos) (mTup mr) := ⟨pe_imp (pe_tup hr.pa) fun σ H Q q => by
  obtain ⟨Z, B, ρ, τ, h, ok, sl, q⟩ := q
  refine ⟨Z, B, ρ, τ, h, ok, sl, q.bd.imp fun ws h1 B1 ρ1 H1 ok1 g1 q1 vs rl => ?_⟩
  exact ⟨by rw [rl.length, ← lim_eq]; exact mkT_len q1, fun p hp => mkT_ok ok1 rl q1 hp⟩⟩
theorem rx_lst (o : Bool) (hr : RAs X W es mr) : RX X W (.List es pos) (mLst o mr) := ⟨pe_imp (pe_lst hr.pa) fun σ H Q q => by
  obtain ⟨Z, B, ρ, τ, h, ok, sl, q⟩ := q
  refine ⟨Z, B, ρ, τ, h, ok, sl, q.bd.imp fun ws h1 B1 ρ1 H1 ok1 g1 q1 vs rl => ?_⟩
  exact ⟨by rw [rl.length, ← lim_eq]; exact mkL_len q1, fun p hp => mkL_ok ok1 rl q1 hp⟩⟩
end
end Tq

/-! Tq3: operations. -/
namespace Tq
open PySem PySem.Spec PyProof.Rows L2

mutual
def D.toP : D → PyData
  | .non => .none | .bl b => .bool b | .int i => .int i | .str x => .str x
  | .tup xs => .tuple (D.toPs xs)
  | .kt xs => .tuple (D.toPs xs)
  | .lst xs => .list (D.toPs xs)
  | .scr ns => .list (ns.map PyData.int)
  | .fn _ => .dict []
  | .nd _ _ => .dict []
def D.toPs : List D → List PyData
  | [] => []
  | d :: r => d.toP :: D.toPs r
end
theorem D.toPs_eq : ∀ xs : List D, D.toPs xs = xs.map D.toP
  | [] => rfl
  | d :: r => by rw [D.toPs, D.toPs_eq r, List.map_cons]
theorem D.toP_tup (xs : List D) : (D.tup xs).toP = .tuple (xs.map D.toP) := by rw [D.toP, D.toPs_eq]
theorem D.toP_kt (xs : List D) : (D.kt xs).toP = .tuple (xs.map D.toP) := by rw [D.toP, D.toPs_eq]
theorem D.toP_lst (xs : List D) : (D.lst xs).toP = .list (xs.map D.toP) := by rw [D.toP, D.toPs_eq]
theorem dp_ints {K : PySem.W.Frag} {H : Hp} : ∀ ns : List Int, DpAll K H (ns.map V.int) (ns.map PyData.int)
  | [] => .nil
  | n :: r => .cons (.int n) (dp_ints r)
section
variable {K : PySem.W.Frag} {B H : Hp}
mutual
theorem Rp.dp0 : ∀ {v : V} {d : D}, Rp K B v d → d.toP.canLay0 = true → Dp K B v d.toP
  | _, _, .non, _ => .non
  | _, _, .bl b, _ => .bl b
  | _, _, .int i, _ => .int i
  | _, _, .str x, _ => .str x
  | _, _, .tup h r, c => by rw [D.toP_tup] at c ⊢; exact .tup (sqt_of h) (RpL.dp0 r c)
  | _, _, .kt h r, c => by rw [D.toP_kt] at c ⊢; exact .tup h (RpL.dp0 r c)
  | _, _, .lst h r, c => by rw [D.toP_lst] at c ⊢; exact .lst (SqL.of h) (RpL.dp0 r c)
  | _, _, .scr h, _ => by rw [D.toP]; exact .lst h (dp_ints _)
  | _, _, .fn _, c => by rw [D.toP] at c; cases c
  | _, _, .nd _ _, c => by rw [D.toP] at c; cases c
theorem RpL.dp0 : ∀ {vs : List V} {ds : List D}, RpL K B vs ds → PyData.canLayAll0 (ds.map D.toP) = true → DpAll K B vs (ds.map D.toP)
  | _, _, .nil, _ => .nil
  | _, _, .cons h r, c => by
    have c2 := Bool.and_eq_true_iff.mp c
    exact .cons (Rp.dp0 h c2.1) (RpL.dp0 r c2.2)
end
theorem Rp.dp {v : V} {d : D} (h : Rp K B v d) (hs : SeqAt.shaped d.toP = true) : Dp K B v d.toP := h.dp0 (SeqAt.canLay_of_shaped hs)
end
def D.eqv (a b : D) : Bool := PyData.eqv a.toP b.toP
def D.shp (a : D) : Bool := SeqAt.shaped a.toP

/-! ### what a value is -/
theorem rp_int {K : PySem.W.Frag} {B : Hp} {v : V} {i : Int} (r : Rp K B v (.int i)) : v = .int i := by cases r; rfl
theorem rp_str {K : PySem.W.Frag} {B : Hp} {v : V} {i : Str} (r : Rp K B v (.str i)) : v = .str i := by cases r; rfl
theorem rp_bl {K : PySem.W.Frag} {B : Hp} {v : V} {i : Bool} (r : Rp K B v (.bl i)) : v = .bl i := by cases r; rfl
theorem rp_non {K : PySem.W.Frag} {B : Hp} {v : V} (r : Rp K B v .non) : v = .non := by cases r; rfl
theorem ra_d {K : PySem.W.Frag} {B : Hp} {ρ : Nat → Option Addr} {v : V} {x : D} (w : RA K B ρ v (.d x)) : Rp K B v x := by
  cases w with
  | d r => exact r
theorem ra_int {K : PySem.W.Frag} {B : Hp} {ρ : Nat → Option Addr} {v : V} {i : Int} (w : RA K B ρ v (.d (.int i))) : v = .int i := rp_int (ra_d w)
theorem ra_str {K : PySem.W.Frag} {B : Hp} {ρ : Nat → Option Addr} {v : V} {i : Str} (w : RA K B ρ v (.d (.str i))) : v = .str i := rp_str (ra_d w)
def tupOf : A → Option (List A)
  | .d (.tup ds) => some (ds.map A.d)
  | .tup ws => some ws
  | _ => none
def lstOf (h : Hq) : A → Option (List A)
  | .d (.lst ds) => some (ds.map A.d)
  | .r k => match h[k]? with | some (.lst ws) => some ws | _ => none
  | _ => none
section
variable {K : PySem.W.Frag} {Z B H : Hp} {ρ : Nat → Option Addr} {h : Hq} {v : V} {a : A} {ws : List A}
theorem tupOf_ra (r : RA K B ρ v a) (e : tupOf a = some ws) : ∃ p vs, v = .ref p ∧ B p = some (.tup vs) ∧ RAL K B ρ vs ws := by
  unfold tupOf at e
  split at e
  · cases e
    cases ra_d r with
    | tup h1 r1 => exact ⟨_, _, rfl, h1, ral_ds r1⟩
  · cases e
    cases r with
    | tup h1 r1 => exact ⟨_, _, rfl, h1, r1⟩
  · cases e
theorem lstOf_ra (ok : Ok K Z B ρ H h) (r : RA K B ρ v a) (e : lstOf h a = some ws) : ∃ p vs, v = .ref p ∧ H p = some (.lst vs) ∧ RAL K B ρ vs ws := by
  unfold lstOf at e
  split at e
  · cases e
    cases ra_d r with
    | lst h1 r1 => exact ⟨_, _, rfl, ok.ex _ _ h1, ral_ds r1⟩
  · split at e
    · rename_i ws' e1
      cases e
      cases r with
      | r hr =>
        obtain ⟨p, h1, h2⟩ := ok.ce _ _ e1
        rw [hr] at h1
        cases h1
        cases h2 with
        | lst q1 q2 q3 q4 => exact ⟨_, _, rfl, q1, q2⟩
    · cases e
  · cases e
end

/-! ### operators that give flat data -/
def D.flat : D → Bool
  | .non => true | .bl _ => true | .int _ => true | .str _ => true | _ => false
theorem rp_flat {K : PySem.W.Frag} {B B' : Hp} {v : V} {d : D} (r : Rp K B v d) (h : d.flat = true) : Rp K B' v d := by
  cases r with
  | non => exact .non
  | bl b => exact .bl b
  | int i => exact .int i
  | str x => exact .str x
  | tup _ _ => cases h
  | kt _ _ => cases h
  | lst _ _ => cases h
  | scr _ => cases h
  | fn _ => cases h
  | nd _ _ => cases h
def gII (C : Int → Int → Bool) (f : Int → Int → Int) : G2 := fun a b h => match a, b with
  | .d (.int i), .d (.int j) => if C i j then some (.ok (.d (.int (f i j))) h) else none
  | _, _ => none
theorem og_ii {K : PySem.W.Frag} {C : Int → Int → Bool} {P : Int → Int → Prop} {f : Int → Int → Int} (hc : ∀ i j, C i j = true → P i j) : Op2 K (rI P fun i j => .int (f i j)) (gII C f) := by
  intro Z B ρ H h x y a b W Q ok rx ry q
  unfold gII at q
  split at q
  · split at q
    · rename_i hl
      exact ⟨_, _, ra_int rx, ra_int ry, hc _ _ hl, q.now ok _ (.d (.int _))⟩
    · exact q.elim
  · exact q.elim
def gSub : G2 := fun a b h => match a, b with
  | .d (.int i), .d (.int j) => some (.ok (.d (.int (i - j))) h)
  | _, _ => none
theorem og_sub {K : PySem.W.Frag} : Op2 K (rI0 fun i j => .int (i - j)) gSub := by
  intro Z B ρ H h x y a b W Q ok rx ry q
  unfold gSub at q
  split at q
  · exact ⟨_, _, ra_int rx, ra_int ry, q.now ok _ (.d (.int _))⟩
  · exact q.elim
/-- * of two factors of together less than 134 million bits -/
def CMulB (i j : Int) : Prop := i.natAbs.log2 + j.natAbs.log2 < 134000000
theorem CMulB.ok {i j : Int} (h : CMulB i j) : IntMulOk i j := by
  have b : ∀ x : Int, Builtin.Int.intBits x ≤ x.natAbs.log2 + 1 := fun x => by
    unfold Builtin.Int.intBits
    split <;> omega
  have h1 := b i
  have h2 := b j
  have h3 : i.natAbs.log2 + j.natAbs.log2 < 134000000 := h
  have e : bitsLine = 134217728 := by decide
  unfold IntMulOk
  intro z
  rw [Bool.and_eq_true] at z
  have z2 := z.2
  unfold Builtin.Int.intTooBig at z2
  have z3 := of_decide_eq_true z2
  rw [e] at z3
  omega
theorem op_mulB {X : Cx} : OpR X (binaryOp .Mult) (rI CMulB fun i j => .int (i * j)) := opI fun _ _ _ _ _ _ _ hc q => mul_int q hc.ok
def mulOk (i j : Int) : Bool := decide (i.natAbs.log2 + j.natAbs.log2 < 134000000)
def divOk (_ j : Int) : Bool := decide (0 < j) && decide (j.natAbs.log2 < 9000)
def modOk (_ j : Int) : Bool := decide (0 < j)
def powOk (i j : Int) : Bool := decide (0 ≤ j) && decide (j ≤ 1000000) && decide (i.natAbs < 2 ^ 64)
abbrev gMul := gII mulOk fun i j => i * j
abbrev gDiv := gII divOk fun i j => i / j
abbrev gMod := gII modOk fun i j => i % j
abbrev gPow := gII powOk fun i j => i ^ j.toNat
theorem og_mul {K : PySem.W.Frag} : Op2 K (rI CMulB fun i j => .int (i * j)) gMul := og_ii fun i j h => show i.natAbs.log2 + j.natAbs.log2 < 134000000 from of_decide_eq_true h
theorem og_div {K : PySem.W.Frag} : Op2 K (rI CDivW fun i j => .int (i / j)) gDiv := og_ii fun i j h => by
  unfold divOk at h
  rw [Bool.and_eq_true] at h
  exact ⟨of_decide_eq_true h.1, of_decide_eq_true h.2⟩
theorem og_mod {K : PySem.W.Frag} : Op2 K (rI (fun _ j => 0 < j) fun i j => .int (i % j)) gMod := og_ii fun i j h => of_decide_eq_true h
theorem og_pow {K : PySem.W.Frag} : Op2 K (rI CPow fun i j => .int (i ^ j.toNat)) gPow := og_ii fun i j h => by
  unfold powOk at h
  rw [Bool.and_eq_true, Bool.and_eq_true] at h
  exact ⟨of_decide_eq_true h.1.1, of_decide_eq_true h.1.2, of_decide_eq_true h.2⟩
def gNeg : G1 := fun a h => match a with
  | .d (.int i) => some (.ok (.d (.int (-i))) h)
  | _ => none
theorem og_neg {K : PySem.W.Frag} : Op1 K (rU fun i => .int (-i)) gNeg := by
  intro Z B ρ H h x a W Q ok rx q
  unfold gNeg at q
  split at q
  · exact ⟨_, ra_int rx, q.now ok _ (.d (.int _))⟩
  · exact q.elim
/-- + : o: a new list is a cell -/
def gAdd (o : Bool) : G2 := fun a b h => match a, b with
  | .d (.int i), .d (.int j) => some (.ok (.d (.int (i + j))) h)
  | .d (.str s), .d (.str t) => if s.length + t.length ≤ LIM then some (.ok (.d (.str (s ++ t))) h) else none
  | a, b => match tupOf a, tupOf b with
    | some xs, some ys => mkT (xs ++ ys) h
    | _, _ => match lstOf h a, lstOf h b with
      | some xs, some ys => mkL o (xs ++ ys) h
      | _, _ => none
abbrev rAddA (K : PySem.W.Frag) : R2 := fun x y H Q => rI0 (fun i j => .int (i + j)) x y H Q ∨ (∃ i j, x = .str i ∧ y = .str j ∧ i.length + j.length ≤ sizeLine ∧ Q (.str (i ++ j)) H) ∨ rCatA K x y H Q ∨ rCat x y H Q
theorem op_addA {X : Cx} : OpR X (binaryOp .Add) (rAddA X.K) := op_add.or (op_add_str.or (op_catA.or op_cat))
theorem og_add {K : PySem.W.Frag} {o : Bool} : Op2 K (rAddA K) (gAdd o) := by
  intro Z B ρ H h x y a b W Q ok rx ry q
  unfold gAdd at q
  split at q
  · exact .inl ⟨_, _, ra_int rx, ra_int ry, q.now ok _ (.d (.int _))⟩
  · split at q
    · rename_i hl
      exact .inr (.inl ⟨_, _, ra_str rx, ra_str ry, by rw [← lim_eq]; exact hl, q.now ok _ (.d (.str _))⟩)
    · exact q.elim
  · split at q
    · rename_i xs ys e1 e2
      obtain ⟨p, vs, rfl, h1, r1⟩ := tupOf_ra rx e1
      obtain ⟨p', us, rfl, h2, r2⟩ := tupOf_ra ry e2
      have hl := mkT_len q
      rw [List.length_append] at hl
      refine .inr (.inr (.inl ⟨p, p', vs, us, rfl, rfl, sqt_of (ok.ex _ _ h1), sqt_of (ok.ex _ _ h2), by rw [r1.length, r2.length, ← lim_eq]; exact hl, fun e => ?_, fun _ e => ?_, fun _ _ c hc => ?_⟩))
      · subst e
        cases r1
        exact mkT_at ok h2 r2 q
      · subst e
        cases r2
        rw [List.append_nil] at q
        exact mkT_at ok h1 r1 q
      · exact mkT_ok ok (r1.append r2) q hc
    · split at q
      · rename_i xs ys e1 e2
        obtain ⟨p, vs, rfl, h1, r1⟩ := lstOf_ra ok rx e1
        obtain ⟨p', us, rfl, h2, r2⟩ := lstOf_ra ok ry e2
        have hl := mkL_len q
        rw [List.length_append] at hl
        exact .inr (.inr (.inr ⟨p, p', vs, us, rfl, rfl, h1, h2, by rw [r1.length, r2.length, ← lim_eq]; exact hl, fun c hc => mkL_ok ok (r1.append r2) q hc⟩))
      · exact q.elim

/-! ### comparisons -/
/-- of data seen as a whole -/
def g2V (g : D → D → Option Bool) : G2 := fun a b h => match view h a with
  | some x => (match view h b with | some y => (match g x y with | some k => some (.ok (.d (.bl k)) h) | none => none) | none => none)
  | none => none
theorem og_2v {K : PySem.W.Frag} {g : D → D → Option Bool} {r : R2} (hg : ∀ H x y d e k Q, Rp K H x d → Rp K H y e → g d e = some k → Q (.bl k) H → r x y H Q) : Op2 K r (g2V g) := by
  intro Z B ρ H h x y a b W Q ok rx ry q
  unfold g2V at q
  split at q
  · rename_i d e1
    split at q
    · rename_i e e2
      split at q
      · rename_i k e3
        exact hg H x y d e k Q (ok.see rx e1) (ok.see ry e2) e3 (q.now ok _ (.d (.bl k)))
      · exact q.elim
    · exact q.elim
  · exact q.elim
def eqD (neg : Bool) (x y : D) : Option Bool := if x.shp && y.shp then some (if neg then !D.eqv x y else D.eqv x y) else none
abbrev gEq (neg : Bool) : G2 := g2V (eqD neg)
theorem og_eq {K : PySem.W.Frag} : Op2 K (rEqD K) (gEq false) := og_2v fun H x y d e k Q rx ry hk q => by
  unfold eqD at hk
  split at hk
  · rename_i hs
    rw [Bool.and_eq_true] at hs
    cases hk
    exact ⟨_, _, rx.dp hs.1, ry.dp hs.2, hs.1, hs.2, q⟩
  · cases hk
theorem og_ne {K : PySem.W.Frag} : Op2 K (rNeD K) (gEq true) := og_2v fun H x y d e k Q rx ry hk q => by
  unfold eqD at hk
  split at hk
  · rename_i hs
    rw [Bool.and_eq_true] at hs
    cases hk
    exact ⟨_, _, rx.dp hs.1, ry.dp hs.2, hs.1, hs.2, q⟩
  · cases hk
def gCmp (p : Int → Int → Bool) : G2 := fun a b h => match a, b with
  | .d (.int i), .d (.int j) => some (.ok (.d (.bl (p i j))) h)
  | _, _ => none
theorem og_cmp {K : PySem.W.Frag} {p : Int → Int → Bool} : Op2 K (rI0 fun i j => .bl (p i j)) (gCmp p) := by
  intro Z B ρ H h x y a b W Q ok rx ry q
  unfold gCmp at q
  split at q
  · exact ⟨_, _, ra_int rx, ra_int ry, q.now ok _ (.d (.bl _))⟩
  · exact q.elim
abbrev gLt := gCmp fun i j => decide (i < j)
abbrev gLe := gCmp fun i j => decide (i ≤ j)
abbrev gGt := gCmp fun i j => decide (j < i)
abbrev gGe := gCmp fun i j => decide (j ≤ i)
theorem og_lt {K : PySem.W.Frag} : Op2 K (rI0 fun i j => .bl (decide (i < j))) gLt := og_cmp
theorem og_le {K : PySem.W.Frag} : Op2 K (rI0 fun i j => .bl (decide (i ≤ j))) gLe := og_cmp
theorem og_gt {K : PySem.W.Frag} : Op2 K (rI0 fun i j => .bl (decide (j < i))) gGt := og_cmp
theorem og_ge {K : PySem.W.Frag} : Op2 K (rI0 fun i j => .bl (decide (j ≤ i))) gGe := og_cmp
def A.isNon : A → Bool | .d .non => true | _ => false
def A.isBl (b : Bool) : A → Bool | .d (.bl c) => c == b | _ => false
def gIs (neg : Bool) : G2 := fun a b h => match b with
  | .d .non => some (.ok (.d (.bl (neg != a.isNon))) h)
  | .d (.bl c) => some (.ok (.d (.bl (neg != a.isBl c))) h)
  | _ => none
def rIsA (neg : Bool) : R2 := fun x y H Q => (y = .non ∨ ∃ b, y = .bl b) ∧ Q (.bl (neg != decide (x = y))) H
theorem plain_of {x y : V} {v u : Value} (rx : RelV x v) (ry : RelV y u) (h : y = .non ∨ ∃ b, y = .bl b) : plainIs v u = true ∧ (v == u) = decide (x = y) := by
  rcases h with rfl | ⟨b, rfl⟩
  · cases ry
    cases x with
    | non => cases rx; exact ⟨rfl, rfl⟩
    | bl _ => cases rx; exact ⟨rfl, rfl⟩
    | int _ => obtain ⟨t, rfl⟩ := rx; exact ⟨rfl, rfl⟩
    | str _ => obtain ⟨t, rfl⟩ := rx; exact ⟨rfl, rfl⟩
    | byt _ => obtain ⟨t, rfl⟩ := rx; exact ⟨rfl, rfl⟩
    | flt _ => obtain ⟨t, rfl⟩ := rx; exact ⟨rfl, rfl⟩
    | ref _ => cases rx; exact ⟨rfl, rfl⟩
    | ty _ => cases rx; exact ⟨rfl, rfl⟩
  · cases ry
    cases x with
    | non => cases rx; exact ⟨rfl, rfl⟩
    | bl c => cases rx; exact ⟨rfl, by cases c <;> cases b <;> rfl⟩
    | int _ => obtain ⟨t, rfl⟩ := rx; exact ⟨rfl, rfl⟩
    | str _ => obtain ⟨t, rfl⟩ := rx; exact ⟨rfl, rfl⟩
    | byt _ => obtain ⟨t, rfl⟩ := rx; exact ⟨rfl, rfl⟩
    | flt _ => obtain ⟨t, rfl⟩ := rx; exact ⟨rfl, rfl⟩
    | ref _ => cases rx; exact ⟨rfl, rfl⟩
    | ty _ => cases rx; exact ⟨rfl, rfl⟩
theorem op_isA {X : Cx} : OpR X (compareOp .Is) (rIsA false) := by
  intro pins s σ H x y v u Q I rx ry h
  obtain ⟨hy, q⟩ := h
  obtain ⟨h1, h2⟩ := plain_of rx ry hy
  exact wpAny_is_plain h1 (fin_bl I q (by rw [h2]; simp))
theorem op_isNotA {X : Cx} : OpR X (compareOp .IsNot) (rIsA true) := by
  intro pins s σ H x y v u Q I rx ry h
  obtain ⟨hy, q⟩ := h
  obtain ⟨h1, h2⟩ := plain_of rx ry hy
  exact wpAny_isNot_plain h1 (fin_bl I q (by rw [h2]; simp))
theorem og_is {K : PySem.W.Frag} {neg : Bool} : Op2 K (rIsA neg) (gIs neg) := by
  intro Z B ρ H h x y a b W Q ok rx ry q
  unfold gIs at q
  split at q
  · obtain rfl := rp_non (ra_d ry)
    refine ⟨.inl rfl, ?_⟩
    have z : decide (x = V.non) = a.isNon := by
      cases rx with
      | d r => cases r <;> rfl
      | r _ => rfl
      | tup _ _ => rfl
    rw [z]
    exact q.now ok _ (.d (.bl _))
  · rename_i c
    obtain rfl := rp_bl (ra_d ry)
    refine ⟨.inr ⟨c, rfl⟩, ?_⟩
    have z : decide (x = V.bl c) = a.isBl c := by
      cases rx with
      | d r => cases r <;> first | rfl | (rename_i k; cases k <;> cases c <;> rfl)
      | r _ => rfl
      | tup _ _ => rfl
    rw [z]
    exact q.now ok _ (.d (.bl _))
  · exact q.elim

/-! ### items -/
theorem atI_some {α : Type} {xs : List α} {i : Int} {v : α} (h : atI xs i = some v) : ∃ j, ixN xs.length i = some j ∧ xs[j]? = some v := by
  unfold atI at h
  cases e : ixN xs.length i with
  | none => rw [e] at h; cases h
  | some j => rw [e] at h; exact ⟨j, rfl, h⟩
theorem atI_of {α β : Type} {xs : List α} {ys : List β} {i : Int} {j : Nat} {v : β} (hl : ys.length = xs.length) (h : ixN xs.length i = some j) (h2 : ys[j]? = some v) : atI ys i = some v := by
  unfold atI
  rw [hl, h]
  exact h2
def gIx : G2 := fun a b h => match b with
  | .d (.int i) => (match a with
    | .d (.str z) => if z.length ≤ LIM then (match atI z.cps.toList i with | some c => some (.ok (.d (.str ⟨#[c]⟩)) h) | none => none) else none
    | .d (.scr ns) => (match atI ns i with | some n => some (.ok (.d (.int n)) h) | none => none)
    | .d (.kt ds) => (match atI ds i with | some d => some (.ok (.d d) h) | none => none)
    | a => match tupOf a with
      | some ws => (match atI ws i with | some w => some (.ok w h) | none => none)
      | none => match lstOf h a with
        | some ws => (match atI ws i with | some w => some (.ok w h) | none => none)
        | none => none)
  | _ => none
theorem og_ix {K : PySem.W.Frag} : Op2 K (rIx K) gIx := by
  intro Z B ρ H h x y a b W Q ok rx ry q
  unfold gIx at q
  split at q
  · rename_i i
    cases ra_int ry
    split at q
    · split at q
      · rename_i hl
        split at q
        · rename_i c e3
          cases ra_str rx
          exact .inr (.inr ⟨_, _, _, rfl, rfl, by rw [← lim_eq]; exact hl, e3, q.now ok _ (.d (.str _))⟩)
        · exact q.elim
      · exact q.elim
    · split at q
      · rename_i n e3
        cases ra_d rx with
        | scr h1 =>
          obtain ⟨j, e4, e5⟩ := atI_some e3
          exact .inl ⟨_, _, _, .int n, rfl, rfl, ok.ex.seq h1, atI_of (List.length_map ..) e4 (by rw [List.getElem?_map, e5]; rfl), q.now ok _ (.d (.int n))⟩
      · exact q.elim
    · split at q
      · rename_i d e3
        cases ra_d rx with
        | kt h1 r1 =>
          obtain ⟨j, e4, e5⟩ := atI_some e3
          obtain ⟨v, e6, r2⟩ := r1.get e5
          exact .inr (.inl ⟨_, _, _, _, rfl, rfl, sqt_mono ok.ex h1, atI_of r1.length e4 e6, q.now ok _ (.d r2)⟩)
      · exact q.elim
    · split at q
      · rename_i ws e1
        split at q
        · rename_i w e3
          obtain ⟨p, vs, rfl, h1, r1⟩ := tupOf_ra rx e1
          obtain ⟨j, e4, e5⟩ := atI_some e3
          obtain ⟨v, e6, r2⟩ := r1.get e5
          exact .inr (.inl ⟨_, _, _, _, rfl, rfl, sqt_of (ok.ex _ _ h1), atI_of r1.length e4 e6, q.now ok _ r2⟩)
        · exact q.elim
      · split at q
        · rename_i ws e1
          split at q
          · rename_i w e3
            obtain ⟨p, vs, rfl, h1, r1⟩ := lstOf_ra ok rx e1
            obtain ⟨j, e4, e5⟩ := atI_some e3
            obtain ⟨v, e6, r2⟩ := r1.get e5
            exact .inl ⟨_, _, _, _, rfl, rfl, SqL.of h1, atI_of r1.length e4 e6, q.now ok _ r2⟩
          · exact q.elim
        · exact q.elim
  · exact q.elim
theorem rx_ix {X : Cx} {W : WX} {a b : Expr} {pos : Pos} {ma mb : E A} (ha : RX X W a ma) (hb : RX X W b mb) (hs : PlainIx b := by exact fun _ _ => rfl) : RX X W (.Subscript a b pos) (mBin gIx ma mb) := ⟨pe_imp (pe_ix ix_seq ha.pe hb.pe hs) fun σ H Q q => by
  obtain ⟨Z, B, ρ, τ, h, ok, sl, q⟩ := q
  exact te_bd ok sl q fun x a h1 B1 ρ1 H1 rx ok1 sl1 g1 q1 => te_bd ok1 sl1 q1 fun y b h2 B2 ρ2 H2 ry ok2 sl2 g2 q2 => og_ix Z B2 ρ2 H2 h2 x y a b _ Q ok2 (rx.mono g2) ry q2⟩

/-! ### slices -/
def tOo (K : PySem.W.Frag) (W : WX) (m : E (Option Int)) : TO := fun σ H Q => ∃ Z B ρ τ h, Ok K Z B ρ H h ∧ SlOk K B ρ σ τ ∧ Post K Z (fun c d H' => W c d σ H') B ρ (fun o _ B' ρ' H' => Q o H') (m τ h)
structure RO (X : Cx) (W : WX) (e : Option Expr) (m : E (Option Int)) : Prop where
  po : PO X e (tOo X.K W m)
def moN : E (Option Int) := fun _ h => some (.ok none h)
def moS (m : E A) : E (Option Int) := fun τ h => bd (m τ h) fun a h1 => match a with | .d (.int i) => some (.ok (some i) h1) | _ => none
theorem ro_none {X : Cx} {W : WX} : RO X W none moN := ⟨po_imp po_none fun σ H Q q => by
  obtain ⟨Z, B, ρ, τ, h, ok, sl, q⟩ := q
  exact q.now ok⟩
theorem ro_some {X : Cx} {W : WX} {e : Expr} {m : E A} (hm : RX X W e m) : RO X W (some e) (moS m) := ⟨po_imp (po_some hm.pe) fun σ H Q q => by
  obtain ⟨Z, B, ρ, τ, h, ok, sl, q⟩ := q
  refine te_bd ok sl q fun x a h1 B1 ρ1 H1 rx ok1 sl1 g1 q1 => ?_
  split at q1
  · exact ⟨_, ra_int rx, q1.now ok1⟩
  · exact q1.elim⟩
def cut {α : Type} (xs : List α) (lo hi : Option Int) : List α := (xs.drop (HT.sIx xs.length 0 lo)).take (HT.sIx xs.length xs.length hi - HT.sIx xs.length 0 lo)
theorem RAL.cut {K : PySem.W.Frag} {B : Hp} {ρ : Nat → Option Addr} {vs : List V} {ds : List A} (r : RAL K B ρ vs ds) (lo hi : Option Int) : RAL K B ρ (cutV vs lo hi) (cut ds lo hi) := by
  unfold cutV Tq.cut
  rw [r.length]
  exact (r.drop _).take _
theorem map_cut {α β : Type} (f : α → β) (xs : List α) (lo hi : Option Int) : cut (xs.map f) lo hi = (cut xs lo hi).map f := by
  unfold cut
  rw [List.length_map, List.map_take, List.map_drop]
def gSl (o : Bool) (a : A) (lo hi : Option Int) (h : Hq) : Option (Rs A) := match a with
  | .d (.str z) => if z.length ≤ LIM then some (.ok (.d (.str (cutS z lo hi))) h) else none
  | .d (.scr ns) => mkL o ((cut ns lo hi).map fun i => .d (.int i)) h
  | a => match tupOf a with
    | some ws => mkT (cut ws lo hi) h
    | none => match lstOf h a with
      | some ws => mkL o (cut ws lo hi) h
      | none => none
abbrev rSlAll (K : PySem.W.Frag) : V → Option Int → Option Int → Hp → VK → Prop := fun x lo hi H Q => rSlL K x lo hi H Q ∨ rSlA K x lo hi H Q ∨ rSlS x lo hi H Q
theorem og_sl {K : PySem.W.Frag} {o : Bool} {Z B H : Hp} {ρ : Nat → Option Addr} {h : Hq} {x : V} {a : A} {lo hi : Option Int} {W : XK} {Q : VK} (ok : Ok K Z B ρ H h) (rx : RA K B ρ x a) (q : Post K Z W B ρ (fun w _ B' ρ' H' => ∀ v, RA K B' ρ' v w → Q v H') (gSl o a lo hi h)) : rSlAll K x lo hi H Q := by
  unfold gSl at q
  split at q
  · split at q
    · rename_i hl
      cases ra_str rx
      exact .inr (.inr ⟨_, rfl, by rw [← lim_eq]; exact hl, q.now ok _ (.d (.str _))⟩)
    · exact q.elim
  · rename_i ns
    cases ra_d rx with
    | scr h1 =>
      refine .inl ⟨_, _, rfl, ok.ex.seq h1, fun p hp => ?_⟩
      have z : cutV (ns.map V.int) lo hi = (cut ns lo hi).map V.int := map_cut V.int ns lo hi
      refine mkL_ok ok ?_ q hp
      rw [z]
      have e := ral_ds (K := K) (B := B) (ρ := ρ) (rpl_ints (K := K) (B := B) (cut ns lo hi))
      rwa [List.map_map] at e
  · split at q
    · rename_i ws e1
      obtain ⟨p, vs, rfl, h1, r1⟩ := tupOf_ra rx e1
      refine .inr (.inl ⟨p, vs, rfl, sqt_of (ok.ex _ _ h1), fun e => ?_, fun _ c hc => mkT_ok ok (r1.cut lo hi) q hc⟩)
      have z : cut ws lo hi = ws := by
        unfold cut
        rw [← r1.length, e.1, e.2, List.drop_zero, Nat.sub_zero, r1.length, List.take_length]
      rw [z] at q
      exact mkT_at ok h1 r1 q
    · split at q
      · rename_i ws e1
        obtain ⟨p, vs, rfl, h1, r1⟩ := lstOf_ra ok rx e1
        exact .inl ⟨p, vs, rfl, SqL.of h1, fun c hc => mkL_ok ok (r1.cut lo hi) q hc⟩
      · exact q.elim
def mSl (o : Bool) (ma : E A) (ml mh : E (Option Int)) : E A := fun τ h => bd (ma τ h) fun a h1 => bd (ml τ h1) fun lo h2 => bd (mh τ h2) fun hi h3 => gSl o a lo hi h3
theorem rx_slice {X : Cx} {W : WX} (o : Bool) {a : Expr} {lo hi : Option Expr} {p2 pos : Pos} {ma : E A} {ml mh : E (Option Int)} (ha : RX X W a ma) (hl : RO X W lo ml) (hh : RO X W hi mh) :
    RX X W (.Subscript a (.Slice lo hi none p2) pos) (mSl o ma ml mh) := ⟨pe_imp (pe_slice (sl_list.or (sl_tupA.or sl_str)) ha.pe hl.po hh.po) fun σ H Q q => by
  obtain ⟨Z, B, ρ, τ, h, ok, sl, q⟩ := q
  refine te_bd ok sl q fun x a h1 B1 ρ1 H1 rx ok1 sl1 g1 q1 => ?_
  refine ⟨Z, B1, ρ1, τ, h1, ok1, sl1, q1.bd.imp fun lo h2 B2 ρ2 H2 ok2 g2 q2 => ?_⟩
  refine ⟨Z, B2, ρ2, τ, h2, ok2, sl1.mono g2, q2.bd.imp fun hi h3 B3 ρ3 H3 ok3 g3 q3 => ?_⟩
  exact og_sl ok3 (rx.mono (g2.trans g3)) q3⟩
end Tq

/-! Tq4: tests, conditional values, built-ins. -/
namespace Tq
open PySem PySem.Spec PyProof.Rows L2

def tT (K : PySem.W.Frag) (W : WX) (m : E Bool) : TT := fun σ H Q => ∃ Z B ρ τ h, Ok K Z B ρ H h ∧ SlOk K B ρ σ τ ∧ Post K Z (fun c d H' => W c d σ H') B ρ (fun b _ B' ρ' H' => Q b H') (m τ h)
structure RT (X : Cx) (W : WX) (e : Expr) (m : E Bool) : Prop where
  pt : PT X e (tT X.K W m)
structure RWt (X : Cx) (W : WX) (e : Expr) (m : E Bool) : Prop where
  pw : PW X e (tT X.K W m)
def truD : D → Option Bool
  | .non => some false | .bl b => some b | .int i => some (i != 0)
  | .str x => if x.length ≤ LIM then some ((x.length : Int) != 0) else none
  | .lst xs => some (!xs.isEmpty) | .tup xs => some (!xs.isEmpty) | .kt xs => some (!xs.isEmpty) | .scr ns => some (!ns.isEmpty)
  | .nd (.dic ks) xs => if xs.length = ks.length then some (!ks.isEmpty) else none
  | _ => none
def truA (h : Hq) : A → Option Bool
  | .d x => truD x
  | .tup ws => some (!ws.isEmpty)
  | .r k => match h[k]? with | some (.lst ws) => some (!ws.isEmpty) | some (.nd (.dic ks) ws) => some (!ks.isEmpty) | _ => none
def mTru (m : E A) : E Bool := fun τ h => bd (m τ h) fun a h1 => match truA h1 a with | some b => some (.ok b h1) | none => none
def mTB (m : E A) : E Bool := fun τ h => bd (m τ h) fun a h1 => match a with | .d (.bl b) => some (.ok b h1) | _ => none
def mNotT (m : E Bool) : E Bool := fun τ h => bd (m τ h) fun b h1 => some (.ok (!b) h1)
def mAndT (ma mb : E Bool) : E Bool := fun τ h => bd (ma τ h) fun b h1 => match b with | true => mb τ h1 | false => some (.ok false h1)
def mOrT (ma mb : E Bool) : E Bool := fun τ h => bd (ma τ h) fun b h1 => match b with | false => mb τ h1 | true => some (.ok true h1)
section
variable {X : Cx} {W : WX} {e a b c : Expr} {es rest : List Expr} {m ma mb mc : E A} {t ta tb : E Bool} {pos : Pos}
theorem zip_empty {κ : Type} : ∀ {ks : List κ} {vs : List V}, ks.length = vs.length → (ks.zip vs).isEmpty = ks.isEmpty
  | [], _, _ => rfl
  | _ :: _, [], h => by simp at h
  | _ :: _, _ :: _, _ => rfl
theorem tru_rp {K : PySem.W.Frag} {H : Hp} {v : V} {d : D} {k : Bool} (r : Rp K H v d) (h : truD d = some k) : TruV K v H k := by
  cases r with
  | non => cases h; rfl
  | bl b => cases h; rfl
  | int i => cases h; rfl
  | str x =>
    have h : (if x.length ≤ LIM then some ((x.length : Int) != 0) else none) = some k := h
    split at h
    · rename_i hl
      cases h
      exact ⟨by rw [← lim_eq]; exact hl, rfl⟩
    · cases h
  | tup h1 r1 =>
    cases h
    refine .inr (.inl ⟨_, sqt_of h1, ?_⟩)
    cases r1 <;> rfl
  | kt h1 r1 =>
    cases h
    refine .inr (.inl ⟨_, h1, ?_⟩)
    cases r1 <;> rfl
  | lst h1 r1 =>
    cases h
    refine .inl ⟨_, SqL.of h1, ?_⟩
    cases r1 <;> rfl
  | scr h1 =>
    rename_i a ns
    cases h
    refine .inl ⟨_, h1, ?_⟩
    cases ns <;> rfl
  | fn _ => cases h
  | nd h1 r1 =>
    cases h1 with
    | dic e1 e2 =>
      rename_i ks
      have h : (if _ then some (!ks.isEmpty) else none) = some k := h
      split at h
      · cases h
        exact .inr (.inr ⟨_, e1, by rw [zip_empty e2]⟩)
      · cases h
    | dit => cases h
    | ins => cases h
theorem tru_ra {K : PySem.W.Frag} {Z B H : Hp} {ρ : Nat → Option Addr} {h : Hq} {v : V} {a : A} {k : Bool} (ok : Ok K Z B ρ H h) (r : RA K B ρ v a) (e : truA h a = some k) : TruV K v H k := by
  unfold truA at e
  split at e
  · exact tru_rp ((ra_d r).mono ok.ex) e
  · cases e
    cases r with
    | tup h1 r1 =>
      refine .inr (.inl ⟨_, sqt_of (ok.ex _ _ h1), ?_⟩)
      cases r1 <;> rfl
  · split at e
    · rename_i ws e1
      cases e
      cases r with
      | r hr =>
        obtain ⟨p, h1, h2⟩ := ok.ce _ _ e1
        rw [hr] at h1
        cases h1
        cases h2 with
        | lst q1 q2 q3 q4 =>
          refine .inl ⟨_, SqL.of q1, ?_⟩
          cases q2 <;> rfl
    · rename_i ks ws e1
      cases e
      cases r with
      | r hr =>
        obtain ⟨p, h1, h2⟩ := ok.ce _ _ e1
        rw [hr] at h1
        cases h1
        cases h2 with
        | nd q1 q2 q3 =>
          cases q1 with
          | dic e1 e2 => exact .inr (.inr ⟨_, e1, by rw [zip_empty e2]⟩)
    · cases e
theorem rt_truth (ha : RX X W a m) (he : ∀ whole, isTrue a X.env whole = (do let v ← whole; standAt a.pos; holding [v] (truthy v)) := by exact fun _ => rfl) : RT X W a (mTru m) := ⟨pt_imp (pt_truth ha.pe he) fun σ H Q q => by
  obtain ⟨Z, B, ρ, τ, h, ok, sl, q⟩ := q
  refine te_bd ok sl q fun x a h1 B1 ρ1 H1 rx ok1 sl1 g1 q1 => ?_
  split at q1
  · rename_i k e
    exact ⟨k, tru_ra ok1 rx e, q1.now ok1⟩
  · exact q1.elim⟩
theorem rt_cmp {op : CmpOp} {g : G2} {r : R2} (ho : OpR X (compareOp op) r) (og : Op2 X.K r g) (ha : RX X W a ma) (hb : RX X W b mb) (hm : behindInMarks op b = false) : RT X W (.Compare a [op] [b] pos) (mTB (mBin g ma mb)) := ⟨pt_imp (pt_cmpR ho ha.pe hb.pe hm) fun σ H Q q => by
  obtain ⟨Z, B, ρ, τ, h, ok, sl, q⟩ := q
  have q2 := q.bd
  unfold mBin at q2
  exact te_bd ok sl q2 fun x a h1 B1 ρ1 H1 rx ok1 sl1 g1 q1 => te_bd ok1 sl1 q1 fun y b h2 B2 ρ2 H2 ry ok2 sl2 g2 q2 => og Z B2 ρ2 H2 h2 x y a b _ _ ok2 (rx.mono g2) ry (q2.imp fun w h3 B3 ρ3 H3 ok3 g3 q3 v rv => by
    split at q3
    · exact ⟨_, rp_bl (ra_d rv), q3.now ok3⟩
    · exact q3.elim)⟩
/-- a value that is True or False, as a test -/
theorem rt_val (ha : RX X W a m) (he : ∀ whole, isTrue a X.env whole = (do let v ← whole; standAt a.pos; holding [v] (truthy v)) := by exact fun _ => rfl) : RT X W a (mTru m) := rt_truth ha he
theorem rt_no : RT X W e mNo := ⟨⟨fun pins s σ H Q I q => by
  obtain ⟨_, _, _, _, _, _, _, q⟩ := q
  exact q.elim⟩⟩
theorem rt_not (h : RT X W a t) : RT X W (.UnaryOp .Not a pos) (mNotT t) := ⟨pt_imp (pt_not h.pt) fun σ H Q q => by
  obtain ⟨Z, B, ρ, τ, h, ok, sl, q⟩ := q
  exact ⟨Z, B, ρ, τ, h, ok, sl, q.bd.imp fun b h1 B1 ρ1 H1 ok1 g1 q1 => q1.now ok1⟩⟩
theorem RWt.rt (h : RWt X W e t) : RT X W e t := ⟨h.pw.pt⟩
theorem rw_and1 (h : RT X W a t) : RWt X W (.BoolOp .And [a] pos) t := ⟨pw_and1 h.pt⟩
theorem rw_or1 (h : RT X W a t) : RWt X W (.BoolOp .Or [a] pos) t := ⟨pw_or1 h.pt⟩
theorem rw_and (ha : RT X W a ta) (hb : RWt X W (.BoolOp .And (b :: rest) pos) tb) : RWt X W (.BoolOp .And (a :: b :: rest) pos) (mAndT ta tb) := ⟨pw_imp (pw_and ha.pt hb.pw) fun σ H Q q => by
  obtain ⟨Z, B, ρ, τ, h, ok, sl, q⟩ := q
  refine ⟨Z, B, ρ, τ, h, ok, sl, q.bd.imp fun b h1 B1 ρ1 H1 ok1 g1 q1 => ?_⟩
  cases b with
  | true => exact iteT ⟨Z, B1, ρ1, τ, h1, ok1, sl.mono g1, q1⟩
  | false => exact iteF (q1.now ok1)⟩
theorem rw_or (ha : RT X W a ta) (hb : RWt X W (.BoolOp .Or (b :: rest) pos) tb) : RWt X W (.BoolOp .Or (a :: b :: rest) pos) (mOrT ta tb) := ⟨pw_imp (pw_or ha.pt hb.pw) fun σ H Q q => by
  obtain ⟨Z, B, ρ, τ, h, ok, sl, q⟩ := q
  refine ⟨Z, B, ρ, τ, h, ok, sl, q.bd.imp fun b h1 B1 ρ1 H1 ok1 g1 q1 => ?_⟩
  cases b with
  | true => exact iteT (q1.now ok1)
  | false => exact iteF ⟨Z, B1, ρ1, τ, h1, ok1, sl.mono g1, q1⟩⟩

/-! ### and, or, not as values; a if t else b -/
def mAndV (ma mb : E A) : E A := fun τ h => bd (ma τ h) fun a h1 => match a with | .d (.bl true) => mb τ h1 | .d (.bl false) => some (.ok (.d (.bl false)) h1) | _ => none
def mOrV (ma mb : E A) : E A := fun τ h => bd (ma τ h) fun a h1 => match a with | .d (.bl false) => mb τ h1 | .d (.bl true) => some (.ok (.d (.bl true)) h1) | _ => none
def mNotV (ma : E A) : E A := fun τ h => bd (ma τ h) fun a h1 => match a with | .d (.bl b) => some (.ok (.d (.bl (!b))) h1) | _ => none
def mIfE (t : E Bool) (ma mb : E A) : E A := fun τ h => bd (t τ h) fun b h1 => match b with | true => ma τ h1 | false => mb τ h1
theorem rx_if (hc : RT X W c t) (ha : RX X W a ma) (hb : RX X W b mb) : RX X W (.IfExp c a b pos) (mIfE t ma mb) := ⟨pe_imp (pe_ifExp hc.pt ha.pe hb.pe) fun σ H Q q => by
  obtain ⟨Z, B, ρ, τ, h, ok, sl, q⟩ := q
  refine ⟨Z, B, ρ, τ, h, ok, sl, q.bd.imp fun b h1 B1 ρ1 H1 ok1 g1 q1 => ?_⟩
  cases b with
  | true => exact iteT ⟨Z, B1, ρ1, τ, h1, ok1, sl.mono g1, q1⟩
  | false => exact iteF ⟨Z, B1, ρ1, τ, h1, ok1, sl.mono g1, q1⟩⟩
theorem rx_one {op} (h : RX X W a m) : RX X W (.BoolOp op [a] pos) m := ⟨pe_one h.pe⟩
theorem rx_and (ha : RX X W a ma) (hb : RX X W (.BoolOp .And (b :: rest) pos) mb) : RX X W (.BoolOp .And (a :: b :: rest) pos) (mAndV ma mb) := ⟨pe_imp (pe_and ha.pe hb.pe) fun σ H Q q => by
  obtain ⟨Z, B, ρ, τ, h, ok, sl, q⟩ := q
  refine te_bd ok sl q fun x a h1 B1 ρ1 H1 rx ok1 sl1 g1 q1 => ?_
  split at q1
  · exact ⟨true, rp_bl (ra_d rx), iteT ⟨Z, B1, ρ1, τ, h1, ok1, sl1, q1⟩⟩
  · exact ⟨false, rp_bl (ra_d rx), iteF (q1.now ok1 _ (.d (.bl false)))⟩
  · exact q1.elim⟩
theorem rx_or (ha : RX X W a ma) (hb : RX X W (.BoolOp .Or (b :: rest) pos) mb) : RX X W (.BoolOp .Or (a :: b :: rest) pos) (mOrV ma mb) := ⟨pe_imp (L2.pe_or ha.pe hb.pe) fun σ H Q q => by
  obtain ⟨Z, B, ρ, τ, h, ok, sl, q⟩ := q
  refine te_bd ok sl q fun x a h1 B1 ρ1 H1 rx ok1 sl1 g1 q1 => ?_
  split at q1
  · exact ⟨false, rp_bl (ra_d rx), iteF ⟨Z, B1, ρ1, τ, h1, ok1, sl1, q1⟩⟩
  · exact ⟨true, rp_bl (ra_d rx), iteT (q1.now ok1 _ (.d (.bl true)))⟩
  · exact q1.elim⟩
theorem rx_not (ha : RX X W a ma) : RX X W (.UnaryOp .Not a pos) (mNotV ma) := ⟨pe_imp (pe_not ha.pe) fun σ H Q q => by
  obtain ⟨Z, B, ρ, τ, h, ok, sl, q⟩ := q
  refine te_bd ok sl q fun x a h1 B1 ρ1 H1 rx ok1 sl1 g1 q1 => ?_
  split at q1
  · exact ⟨_, rp_bl (ra_d rx), q1.now ok1 _ (.d (.bl _))⟩
  · exact q1.elim⟩
/-- a < b < c -/
def mChain (g1 g2 : G2) (ma mb mc : E A) : E A := fun τ h => bd (ma τ h) fun a h1 => bd (mb τ h1) fun b h2 => bd (g1 a b h2) fun k h3 => match k with
  | .d (.bl true) => bd (mc τ h3) fun c h4 => g2 b c h4
  | .d (.bl false) => some (.ok (.d (.bl false)) h3)
  | _ => none

/-! ### calls of built-ins -/
theorem rx_b1 {id : String} {x : Str} {r : List V → Hp → VK → Prop} {g : G1} {px : Pos} (hc : CallR X (.builtin id) r) (og : Op1 X.K (fun x H Q => r [x] H Q) g) (ha : RX X W a ma) (hm : X.mg x = none) (hv : bootBuiltins x = some (.builtin id) := by decide +kernel) (hg : Gl X x := by rfl)
    (hn : x ≠ "__name__" := by decide) (hdb : (x == ("__debug__" : Str)) = false := by decide) (he : starEach [a] X.env = (false, eval a X.env) :: starEach [] X.env := by rfl) : RX X W (.Call (.Name x px) [a] [] pos) (mUn g ma) :=
  rx_op1 ha og fun h1 => pe_callB hc hg hm hv (pa_cons h1 pa_nil he) hn hdb he
theorem rx_t1 {T : String} {x : Str} {r : List V → Hp → VK → Prop} {g : G1} {px : Pos} (hc : CallR X (.type T) r) (og : Op1 X.K (fun x H Q => r [x] H Q) g) (ha : RX X W a ma) (hm : X.mg x = none) (hv : bootBuiltins x = some (.type T) := by decide +kernel) (hg : Gl X x := by rfl)
    (hn : x ≠ "__name__" := by decide) (hdb : (x == ("__debug__" : Str)) = false := by decide) (he : starEach [a] X.env = (false, eval a X.env) :: starEach [] X.env := by rfl) : RX X W (.Call (.Name x px) [a] [] pos) (mUn g ma) :=
  rx_op1 ha og fun h1 => pe_callTy hc hg hm hv (pa_cons h1 pa_nil he) hn hdb he
theorem rx_b2 {id : String} {x : Str} {r : List V → Hp → VK → Prop} {g : G2} {px : Pos} (hc : CallR X (.builtin id) r) (og : Op2 X.K (fun x y H Q => r [x, y] H Q) g) (ha : RX X W a ma) (hb : RX X W b mb) (hm : X.mg x = none) (hv : bootBuiltins x = some (.builtin id) := by decide +kernel) (hg : Gl X x := by rfl)
    (hn : x ≠ "__name__" := by decide) (hdb : (x == ("__debug__" : Str)) = false := by decide) (he : starEach [a, b] X.env = (false, eval a X.env) :: starEach [b] X.env := by rfl) (he2 : starEach [b] X.env = (false, eval b X.env) :: starEach [] X.env := by rfl) (hpl : (backTo pos (starEach [b] X.env)).any (·.1) = false := by rfl) : RX X W (.Call (.Name x px) [a, b] [] pos) (mBin g ma mb) :=
  rx_op2 ha hb og fun h1 h2 => pe_callB hc hg hm hv (pa_cons h1 (pa_cons h2 pa_nil he2) he) hn hdb he hpl
/-- len -/
def lenA (h : Hq) : A → Option Nat
  | .d (.str x) => if x.length ≤ LIM then some x.length else none
  | .d (.scr ns) => some ns.length
  | .d (.kt ds) => some ds.length
  | a => match tupOf a with
    | some ws => some ws.length
    | none => match lstOf h a with | some ws => some ws.length | none => none
def gLen : G1 := fun a h => match lenA h a with | some n => some (.ok (.d (.int (n : Nat))) h) | none => none
theorem og_len {K : PySem.W.Frag} : Op1 K (fun x H Q => ∃ x' n, [x] = [x'] ∧ LenV K x' H n ∧ Q (.int n) H) gLen := by
  intro Z B ρ H h x a W Q ok rx q
  unfold gLen at q
  split at q
  · rename_i n e
    refine ⟨x, n, rfl, ?_, q.now ok _ (.d (.int _))⟩
    unfold lenA at e
    split at e
    · split at e
      · cases e
        cases ra_str rx
        exact ⟨by rw [← lim_eq]; assumption, rfl⟩
      · cases e
    · cases e
      cases ra_d rx with
      | scr h1 => exact .inl ⟨_, ok.ex.seq h1, (List.length_map ..).symm⟩
    · cases e
      cases ra_d rx with
      | kt h1 r1 => exact .inr ⟨_, sqt_mono ok.ex h1, r1.length.symm⟩
    · split at e
      · rename_i ws e1
        cases e
        obtain ⟨p, vs, rfl, h1, r1⟩ := tupOf_ra rx e1
        exact .inr ⟨_, sqt_of (ok.ex _ _ h1), r1.length.symm⟩
      · split at e
        · rename_i ws e1
          cases e
          obtain ⟨p, vs, rfl, h1, r1⟩ := lstOf_ra ok rx e1
          exact .inl ⟨_, SqL.of h1, r1.length.symm⟩
        · cases e
  · exact q.elim
/-- int of an int, of a bool -/
def gInt : G1 := fun a h => match a with
  | .d (.int i) => some (.ok (.d (.int i)) h)
  | .d (.bl b) => some (.ok (.d (.int (if b then 1 else 0))) h)
  | _ => none
theorem og_int {K : PySem.W.Frag} : Op1 K (fun x H Q => (∃ i, [x] = [.int i] ∧ Q (.int i) H) ∨ ∃ k, [x] = [.bl k] ∧ Q (.int (if k then 1 else 0)) H) gInt := by
  intro Z B ρ H h x a W Q ok rx q
  unfold gInt at q
  split at q
  · cases ra_int rx
    exact .inl ⟨_, rfl, q.now ok _ (.d (.int _))⟩
  · cases rp_bl (ra_d rx)
    exact .inr ⟨_, rfl, q.now ok _ (.d (.int _))⟩
  · exact q.elim
def gAbs : G1 := fun a h => match a with
  | .d (.int i) => some (.ok (.d (.int (if i < 0 then -i else i))) h)
  | _ => none
theorem og_abs {K : PySem.W.Frag} : Op1 K (fun x H Q => ∃ i, [x] = [.int i] ∧ Q (.int (if i < 0 then -i else i)) H) gAbs := by
  intro Z B ρ H h x a W Q ok rx q
  unfold gAbs at q
  split at q
  · cases ra_int rx
    exact ⟨_, rfl, q.now ok _ (.d (.int _))⟩
  · exact q.elim
def gMax2 : G2 := fun a b h => match a, b with
  | .d (.int i), .d (.int j) => some (.ok (.d (.int (if j > i then j else i))) h)
  | _, _ => none
theorem og_max2 {K : PySem.W.Frag} : Op2 K (fun x y H Q => ∃ i j, [x, y] = [.int i, .int j] ∧ Q (.int (if j > i then j else i)) H) gMax2 := by
  intro Z B ρ H h x y a b W Q ok rx ry q
  unfold gMax2 at q
  split at q
  · cases ra_int rx
    cases ra_int ry
    exact ⟨_, _, rfl, q.now ok _ (.d (.int _))⟩
  · exact q.elim
def gMin2 : G2 := fun a b h => match a, b with
  | .d (.int i), .d (.int j) => some (.ok (.d (.int (if j < i then j else i))) h)
  | _, _ => none
theorem og_min2 {K : PySem.W.Frag} : Op2 K (fun x y H Q => ∃ i j, [x, y] = [.int i, .int j] ∧ Q (.int (if j < i then j else i)) H) gMin2 := by
  intro Z B ρ H h x y a b W Q ok rx ry q
  unfold gMin2 at q
  split at q
  · cases ra_int rx
    cases ra_int ry
    exact ⟨_, _, rfl, q.now ok _ (.d (.int _))⟩
  · exact q.elim
/-- tuple(list), tuple(tuple) -/
def gTupOf : G1 := fun a h => match tupOf a with
  | some ws => mkT ws h
  | none => match lstOf h a with | some ws => mkT ws h | none => none
theorem og_tupOf {K : PySem.W.Frag} : Op1 K (fun x H Q => ∃ p ys, [x] = [.ref p] ∧ ((SqL K H p ys ∧ ∀ l, H l = none → Q (.ref l) (upd H l (.tup ys))) ∨ (SqT K H p ys ∧ Q (.ref p) H))) gTupOf := by
  intro Z B ρ H h x a W Q ok rx q
  unfold gTupOf at q
  split at q
  · rename_i ws e1
    obtain ⟨p, vs, rfl, h1, r1⟩ := tupOf_ra rx e1
    exact ⟨_, _, rfl, .inr ⟨sqt_of (ok.ex _ _ h1), mkT_at ok h1 r1 q⟩⟩
  · split at q
    · rename_i ws e1
      obtain ⟨p, vs, rfl, h1, r1⟩ := lstOf_ra ok rx e1
      exact ⟨_, _, rfl, .inl ⟨SqL.of h1, fun l hl => mkT_ok ok r1 q hl⟩⟩
    · exact q.elim
/-- list(list), list(tuple), list(script) -/
def gLstOf (o : Bool) : G1 := fun a h => match a with
  | .d (.scr ns) => mkL o (ns.map fun i => .d (.int i)) h
  | a => match tupOf a with
    | some ws => mkL o ws h
    | none => match lstOf h a with | some ws => mkL o ws h | none => none
theorem ral_ints {K : PySem.W.Frag} {B : Hp} {ρ : Nat → Option Addr} (ns : List Int) : RAL K B ρ (ns.map V.int) (ns.map fun i => A.d (.int i)) := by
  have e := ral_ds (ρ := ρ) (rpl_ints (K := K) (B := B) ns)
  rwa [List.map_map] at e
theorem og_lstOf {K : PySem.W.Frag} {o : Bool} : Op1 K (fun x H Q => ∃ p ys, [x] = [.ref p] ∧ (SqL K H p ys ∨ SqT K H p ys) ∧ ∀ l, H l = none → Q (.ref l) (upd H l (.lst ys))) (gLstOf o) := by
  intro Z B ρ H h x a W Q ok rx q
  unfold gLstOf at q
  split at q
  · rename_i ns
    cases ra_d rx with
    | scr h1 => exact ⟨_, _, rfl, .inl (ok.ex.seq h1), fun l hl => mkL_ok ok (ral_ints ns) q hl⟩
  · split at q
    · rename_i ws e1
      obtain ⟨p, vs, rfl, h1, r1⟩ := tupOf_ra rx e1
      exact ⟨_, _, rfl, .inr (sqt_of (ok.ex _ _ h1)), fun l hl => mkL_ok ok r1 q hl⟩
    · split at q
      · rename_i ws e1
        obtain ⟨p, vs, rfl, h1, r1⟩ := lstOf_ra ok rx e1
        exact ⟨_, _, rfl, .inl (SqL.of h1), fun l hl => mkL_ok ok r1 q hl⟩
      · exact q.elim
/-- str of an int -/
def gStrI : G1 := fun a h => match a with
  | .d (.int i) => if i.natAbs.log2 < 1920 then some (.ok (.d (.str (toString i))) h) else none
  | _ => none
theorem og_strI {K : PySem.W.Frag} : Op1 K (fun x H Q => ∃ i, [x] = [.int i] ∧ i.natAbs.log2 < 1920 ∧ Q (.str (toString i)) H) gStrI := by
  intro Z B ρ H h x a W Q ok rx q
  unfold gStrI at q
  split at q
  · split at q
    · rename_i hl
      cases ra_int rx
      exact ⟨_, rfl, hl, q.now ok _ (.d (.str _))⟩
    · exact q.elim
  · exact q.elim
def gOrd : G1 := fun a h => match a with
  | .d (.str x) => if x.length = 1 then some (.ok (.d (.int (x.cps.getD 0 0 : Nat))) h) else none
  | _ => none
theorem og_ord1 {K : PySem.W.Frag} : Op1 K (fun x H Q => ∃ z, [x] = [.str z] ∧ z.length = 1 ∧ Q (.int (z.cps.getD 0 0 : Nat)) H) gOrd := by
  intro Z B ρ H h x a W Q ok rx q
  unfold gOrd at q
  split at q
  · split at q
    · rename_i hl
      cases ra_str rx
      exact ⟨_, rfl, hl, q.now ok _ (.d (.int _))⟩
    · exact q.elim
  · exact q.elim
def gChr : G1 := fun a h => match a with
  | .d (.int i) => if 0 ≤ i ∧ i ≤ 1114111 then some (.ok (.d (.str ⟨#[i.toNat]⟩)) h) else none
  | _ => none
theorem og_chr {K : PySem.W.Frag} : Op1 K (fun x H Q => ∃ i, [x] = [.int i] ∧ 0 ≤ i ∧ i ≤ 1114111 ∧ Q (.str ⟨#[i.toNat]⟩) H) gChr := by
  intro Z B ρ H h x a W Q ok rx q
  unfold gChr at q
  split at q
  · split at q
    · rename_i hl
      cases ra_int rx
      exact ⟨_, rfl, hl.1, hl.2, q.now ok _ (.d (.str _))⟩
    · exact q.elim
  · exact q.elim

/-! ### sep.join(texts) -/
def strsA : List A → Option (List Str) := mapMn fun a => match a with | .d (.str x) => some x | _ => none
theorem strsA_ra {K : PySem.W.Frag} {B : Hp} {ρ : Nat → Option Addr} : ∀ {vs : List V} {ws : List A} {ys : List Str}, RAL K B ρ vs ws → strsA ws = some ys → vs = ys.map V.str
  | _, _, ys, .nil, h => by cases h; rfl
  | _, w :: r, ys, .cons ra ral, h => by
    unfold strsA mapMn at h
    split at h
    · rename_i b e1
      split at h
      · rename_i bs e2
        cases h
        split at e1
        · cases e1
          rw [strsA_ra ral e2, ra_str ra]
          rfl
        · cases e1
      · cases h
    · cases h
def gJoin : G2 := fun s u h => match s with
  | .d (.str a) => (match (match tupOf u with | some ws => some ws | none => lstOf h u) with
    | some ws => (match strsA ws with
      | some ys => if (ys.map (·.length)).sum + ys.length * a.length ≤ LIM then some (.ok (.d (.str (Txt.join a ys))) h) else none
      | none => none)
    | none => none)
  | _ => none
/-- a method of a built-in type with one argument -/
theorem rx_m1 {T id : String} {name : Str} {apos : Pos} {r : V → List V → Hp → VK → Prop} {g : G2} (pa : PlainAttrs T) (slot : Slot T name id) (hty : typeOf (.builtin id) = pure (.type "method_descriptor")) (hm : MtR X id r)
    (tok : A → Hq → Bool) (hC : ∀ (Z B : Hp) (ρ : Nat → Option Addr) (H : Hp) (h : Hq) (x : V) (a : A), Ok X.K Z B ρ H h → RA X.K B ρ x a → tok a h = true → tyV X.K T x H) (og : Op2 X.K (fun x y H Q => r x [y] H Q) g) (ha : RX X W a ma) (hb : RX X W b mb)
    (hbase : attributeBase a name X.env (eval a X.env) = eval a X.env := by rfl)
    (hfew : ((backTo pos (starEach (b :: []) X.env)).all (fun x => !x.1) && (backToKw pos (keywordEach [] X.env)).all (fun x => x.1.isSome)
      && decide ((b :: []).length + ([] : List Keyword).length + (if ([] : List Keyword).isEmpty then 0 else 1) < 30)) = true := by rfl)
    (hline : (apos.endLine == pos.line) = true := by rfl) (hs : starEach (b :: []) X.env = (false, eval b X.env) :: starEach [] X.env := by rfl) :
    RX X W (.Call (.Attribute a name apos) [b] [] pos) (fun τ h => bd (ma τ h) fun a h1 => if tok a h1 = true then bd (mb τ h1) fun b h2 => g a b h2 else none) := ⟨pe_imp (pe_bm pa slot hty hm ha.pe (pa_cons hb.pe pa_nil hs) hbase hfew hline hs) fun σ H Q q => by
  obtain ⟨Z, B, ρ, τ, h, ok, sl, q⟩ := q
  refine te_bd ok sl q fun x a h1 B1 ρ1 H1 rx ok1 sl1 g1 q1 => ?_
  split at q1
  · rename_i ht
    exact ⟨hC Z B1 ρ1 H1 h1 x a ok1 rx ht, te_bd ok1 sl1 q1 fun y b h2 B2 ρ2 H2 ry ok2 sl2 g2 q2 => og Z B2 ρ2 H2 h2 x y a b _ Q ok2 (rx.mono g2) ry q2⟩
  · exact q1.elim⟩
/-- a method of a built-in type without arguments -/
theorem rx_m0 {T id : String} {name : Str} {apos : Pos} {r : V → List V → Hp → VK → Prop} {g : G1} (pa : PlainAttrs T) (slot : Slot T name id) (hty : typeOf (.builtin id) = pure (.type "method_descriptor")) (hm : MtR X id r)
    (tok : A → Hq → Bool) (hC : ∀ (Z B : Hp) (ρ : Nat → Option Addr) (H : Hp) (h : Hq) (x : V) (a : A), Ok X.K Z B ρ H h → RA X.K B ρ x a → tok a h = true → tyV X.K T x H) (og : Op1 X.K (fun x H Q => r x [] H Q) g) (ha : RX X W a ma)
    (hbase : attributeBase a name X.env (eval a X.env) = eval a X.env := by rfl)
    (hline : (apos.endLine == pos.line) = true := by rfl) :
    RX X W (.Call (.Attribute a name apos) [] [] pos) (fun τ h => bd (ma τ h) fun a h1 => if tok a h1 = true then g a h1 else none) := ⟨pe_imp (pe_bm0 pa slot hty hm ha.pe hbase hline) fun σ H Q q => by
  obtain ⟨Z, B, ρ, τ, h, ok, sl, q⟩ := q
  refine te_bd ok sl q fun x a h1 B1 ρ1 H1 rx ok1 sl1 g1 q1 => ?_
  split at q1
  · rename_i ht
    exact ⟨hC Z B1 ρ1 H1 h1 x a ok1 rx ht, og Z B1 ρ1 H1 h1 x a _ Q ok1 rx q1⟩
  · exact q1.elim⟩
def tokS : A → Hq → Bool := fun a _ => match a with | .d (.str _) => true | _ => false
def tokL : A → Hq → Bool := fun a h => (lstOf h a).isSome
theorem tokS_ty {K : PySem.W.Frag} (Z B : Hp) (ρ : Nat → Option Addr) (H : Hp) (h : Hq) (x : V) (a : A) (ok : Ok K Z B ρ H h) (r : RA K B ρ x a) (e : tokS a h = true) : tyV K "str" x H := by
  unfold tokS at e
  split at e
  · cases ra_str r
    rfl
  · cases e
theorem tokL_ty {K : PySem.W.Frag} (Z B : Hp) (ρ : Nat → Option Addr) (H : Hp) (h : Hq) (x : V) (a : A) (ok : Ok K Z B ρ H h) (r : RA K B ρ x a) (e : tokL a h = true) : tyV K "list" x H := by
  unfold tokL at e
  obtain ⟨ws, e⟩ := Option.isSome_iff_exists.mp e
  obtain ⟨p, vs, rfl, h1, r1⟩ := lstOf_ra ok r e
  exact .inl ⟨rfl, _, SqL.of h1⟩
theorem og_join {K : PySem.W.Frag} : Op2 K (fun x y H Q => ∃ a p, ∃ ys : List Str, x = .str a ∧ [y] = [.ref p] ∧ (SqL K H p (ys.map V.str) ∨ SqT K H p (ys.map V.str)) ∧
      (ys.map (·.length)).sum + ys.length * a.length ≤ 16777216 ∧ Q (.str (Txt.join a ys)) H) gJoin := by
  intro Z B ρ H h x y a b W Q ok rx ry q
  unfold gJoin at q
  split at q
  · rename_i a
    split at q
    · rename_i ws e
      split at q
      · rename_i ys e2
        split at q
        · rename_i hl
          cases ra_str rx
          have z : ∃ p, y = .ref p ∧ (SqL K H p (ys.map V.str) ∨ SqT K H p (ys.map V.str)) := by
            split at e
            · rename_i ws' e1
              cases e
              obtain ⟨p, vs, rfl, h1, r1⟩ := tupOf_ra ry e1
              exact ⟨p, rfl, .inr (by rw [← strsA_ra r1 e2]; exact sqt_of (ok.ex _ _ h1))⟩
            · obtain ⟨p, vs, rfl, h1, r1⟩ := lstOf_ra ok ry e
              exact ⟨p, rfl, .inl (by rw [← strsA_ra r1 e2]; exact SqL.of h1)⟩
          obtain ⟨p, rfl, hp⟩ := z
          exact ⟨a, p, ys, rfl, rfl, hp, hl, q.now ok _ (.d (.str _))⟩
        · exact q.elim
      · exact q.elim
    · exact q.elim
  · exact q.elim
def mM1 (tok : A → Hq → Bool) (g : G2) (ma mb : E A) : E A := fun τ h => bd (ma τ h) fun a h1 => if tok a h1 = true then bd (mb τ h1) fun b h2 => g a b h2 else none
def mM0 (tok : A → Hq → Bool) (g : G1) (ma : E A) : E A := fun τ h => bd (ma τ h) fun a h1 => if tok a h1 = true then g a h1 else none
theorem rx_join {apos : Pos} (ha : RX X W a ma) (hb : RX X W b mb) (hbase : attributeBase a "join" X.env (eval a X.env) = eval a X.env := by rfl)
    (hfew : ((backTo pos (starEach (b :: []) X.env)).all (fun x => !x.1) && (backToKw pos (keywordEach [] X.env)).all (fun x => x.1.isSome)
      && decide ((b :: []).length + ([] : List Keyword).length + (if ([] : List Keyword).isEmpty then 0 else 1) < 30)) = true := by rfl)
    (hline : (apos.endLine == pos.line) = true := by rfl) (hs : starEach (b :: []) X.env = (false, eval b X.env) :: starEach [] X.env := by rfl) : RX X W (.Call (.Attribute a "join" apos) [b] [] pos) (mM1 tokS gJoin ma mb) :=
  rx_m1 F.plainAttrs_str F.slot_str_join F.type_str_join mt_join tokS tokS_ty og_join ha hb hbase hfew hline hs

/-! ### isinstance of built-in classes -/
def tyD : D → Option String
  | .non => some "NoneType" | .bl _ => some "bool" | .int _ => some "int" | .str _ => some "str" | .tup _ => some "tuple" | .kt _ => some "tuple" | .lst _ => some "list" | .scr _ => some "list"
  | .nd (.dic _) _ => some "dict" | .nd (.dit _) _ => some "dict" | _ => none
def tyA (h : Hq) : A → Option String
  | .d x => tyD x
  | .tup _ => some "tuple"
  | .r k => match h[k]? with | some (.lst _) => some "list" | some (.nd (.dic _) _) => some "dict" | some (.nd (.dit _) _) => some "dict" | _ => none
def isiN (T n : String) : Bool := n == T || (n == "bool" && T == "int")
def gIsi (T : String) : G1 := fun a h => match tyA h a with | some n => some (.ok (.d (.bl (isiN T n))) h) | none => none
theorem hd_ty {K : PySem.W.Frag} {H : Hp} {a : Addr} {hd : Hd} {vs : List V} {own : List Addr} (x : HdAt K H a hd vs own) (h : ∀ C fs, hd ≠ .ins C fs) : TyX K H (.ref a) (.type "dict") := by
  cases x with
  | dic h1 _ => exact .base (.dK h1)
  | dit h1 _ => exact .base (.dT h1)
  | ins => exact absurd rfl (h _ _)
theorem sqt_ty {K : PySem.W.Frag} {H : Hp} {a : Addr} {xs : List V} (h : SqT K H a xs) : TyX K H (.ref a) (.type "tuple") := by
  rcases h with (h | ⟨o, h⟩) | ⟨o, its, n, h, hc, _⟩
  · exact .base (.tup h)
  · exact .fTuple h
  · exact .kTuple h hc
theorem sql_ty {K : PySem.W.Frag} {H : Hp} {a : Addr} {xs : List V} (h : SqL K H a xs) : TyX K H (.ref a) (.type "list") := by
  rcases h with (h | ⟨o, h⟩) | ⟨o, its, n, h, hc, _⟩
  · exact .base (.lst h)
  · exact .base (.frz h)
  · exact .kList h hc
theorem tyx_rp {K : PySem.W.Frag} {H : Hp} {v : V} {d : D} {n : String} (r : Rp K H v d) (e : tyD d = some n) : TyX K H v (.type n) ∧ n ∈ ["NoneType", "bool", "int", "str", "tuple", "list", "dict"] := by
  cases r with
  | non => cases e; exact ⟨.base .non, by decide⟩
  | bl b => cases e; exact ⟨.base (.bl b), by decide⟩
  | int i => cases e; exact ⟨.base (.int i), by decide⟩
  | str x => cases e; exact ⟨.base (.str x), by decide⟩
  | tup h r => cases e; exact ⟨sqt_ty (sqt_of h), by decide⟩
  | kt h r => cases e; exact ⟨sqt_ty h, by decide⟩
  | lst h r => cases e; exact ⟨sql_ty (SqL.of h), by decide⟩
  | scr h => cases e; exact ⟨sql_ty h, by decide⟩
  | fn _ => cases e
  | nd h r =>
    rename_i hd _ _ _
    cases hd with
    | dic ks => cases e; exact ⟨hd_ty h (fun _ _ z => by cases z), by decide⟩
    | dit ks => cases e; exact ⟨hd_ty h (fun _ _ z => by cases z), by decide⟩
    | ins C fs => cases e
theorem tyx_ra {K : PySem.W.Frag} {Z B H : Hp} {ρ : Nat → Option Addr} {h : Hq} {v : V} {a : A} {n : String} (ok : Ok K Z B ρ H h) (r : RA K B ρ v a) (e : tyA h a = some n) : TyX K H v (.type n) ∧ n ∈ ["NoneType", "bool", "int", "str", "tuple", "list", "dict"] := by
  unfold tyA at e
  split at e
  · exact tyx_rp ((ra_d r).mono ok.ex) e
  · cases e
    cases r with
    | tup h1 r1 => exact ⟨sqt_ty (sqt_of (ok.ex _ _ h1)), by decide⟩
  · cases r with
    | r hr =>
      split at e
      · rename_i e1
        cases e
        obtain ⟨p, h1, h2⟩ := ok.ce _ _ e1
        rw [hr] at h1
        cases h1
        cases h2 with
        | lst q1 q2 q3 q4 => exact ⟨sql_ty (SqL.of q1), by decide⟩
      · rename_i e1
        cases e
        obtain ⟨p, h1, h2⟩ := ok.ce _ _ e1
        rw [hr] at h1
        cases h1
        cases h2 with
        | nd q1 q2 q3 => exact ⟨hd_ty q1 (fun _ _ z => by cases z), by decide⟩
      · rename_i e1
        cases e
        obtain ⟨p, h1, h2⟩ := ok.ce _ _ e1
        rw [hr] at h1
        cases h1
        cases h2 with
        | nd q1 q2 q3 => exact ⟨hd_ty q1 (fun _ _ z => by cases z), by decide⟩
      · cases e
theorem kit_isiN {K : PySem.W.Frag} {T n : String} (hT : T ∈ ["bool", "int", "str", "tuple", "list", "dict"]) (hn : n ∈ ["NoneType", "bool", "int", "str", "tuple", "list", "dict"]) : PySem.W.kitOne K (.type n) (.type T) = some (isiN T n) := by
  rcases (by simpa using hT : T = "bool" ∨ T = "int" ∨ T = "str" ∨ T = "tuple" ∨ T = "list" ∨ T = "dict") with rfl | rfl | rfl | rfl | rfl | rfl <;>
    rcases (by simpa using hn : n = "NoneType" ∨ n = "bool" ∨ n = "int" ∨ n = "str" ∨ n = "tuple" ∨ n = "list" ∨ n = "dict") with rfl | rfl | rfl | rfl | rfl | rfl | rfl <;> exact kit_ty (by decide +kernel)
theorem og_isi {K : PySem.W.Frag} {T : String} (hT : T ∈ ["bool", "int", "str", "tuple", "list", "dict"]) : Op1 K (fun x H Q => rIsi K [x, .ty T] H Q) (gIsi T) := by
  intro Z B ρ H h x a W Q ok rx q
  unfold gIsi at q
  split at q
  · rename_i n e
    obtain ⟨h1, h2⟩ := tyx_ra ok rx e
    exact ⟨x, .ty T, .type n, .type T, _, rfl, .ty T, h1, kit_isiN hT h2, q.now ok _ (.d (.bl _))⟩
  · exact q.elim
theorem rx_isi {x : Str} {Ts : String} {px py : Pos} (ha : RX X W a ma) (hmi : X.mg "isinstance" = none) (hmT : X.mg x = none) (hv : bootBuiltins x = some (.type Ts) := by decide +kernel) (hT : Ts ∈ ["bool", "int", "str", "tuple", "list", "dict"] := by decide)
    (hgi : Gl X "isinstance" := by rfl) (hg : Gl X x := by rfl) (hn : x ≠ "__name__" := by decide) (hdb : (x == ("__debug__" : Str)) = false := by decide)
    (he : starEach [a, .Name x py] X.env = (false, eval a X.env) :: starEach [.Name x py] X.env := by rfl) (he2 : starEach [.Name x py] X.env = (false, eval (.Name x py) X.env) :: starEach [] X.env := by rfl) (hpl : (backTo pos (starEach [.Name x py] X.env)).any (·.1) = false := by rfl) :
    RX X W (.Call (.Name "isinstance" px) [a, .Name x py] [] pos) (mUn (gIsi Ts) ma) :=
  rx_op1 ha (og_isi hT) fun h1 => pe_callB call_isi hgi hmi (by decide +kernel) (pa_cons h1 (pa_cons (pe_bltn (v := .ty Ts) hg hmT hv rfl hn hdb) pa_nil he2) he) (by decide) (by decide) he hpl
end
end Tq

/-! Tq5: statements, targets, for, while. -/
namespace Tq
open PySem PySem.Spec PyProof.Rows L2

inductive So where
  | nx (τ : Sl) (h : Hq) | bk (τ : Sl) (h : Hq) | ct (τ : Sl) (h : Hq) | rt (w : A) (h : Hq) | ex (x : Xc) (τ : Sl) (h : Hq)
abbrev MS := Sl → Hq → Option So
def PostS (K : PySem.W.Frag) (Z : Hp) (W : WX) (B : Hp) (ρ : Nat → Option Addr) (D : Ends) : Option So → Prop
  | none => False
  | some (.nx τ h) => ∀ σ' B' ρ' H', Ok K Z B' ρ' H' h → SlOk K B' ρ' σ' τ → Gr Z B ρ B' ρ' → D.nx σ' H'
  | some (.bk τ h) => ∀ σ' B' ρ' H', Ok K Z B' ρ' H' h → SlOk K B' ρ' σ' τ → Gr Z B ρ B' ρ' → D.bk σ' H'
  | some (.ct τ h) => ∀ σ' B' ρ' H', Ok K Z B' ρ' H' h → SlOk K B' ρ' σ' τ → Gr Z B ρ B' ρ' → D.ct σ' H'
  | some (.rt w h) => ∀ v B' ρ' H', RA K B' ρ' v w → Ok K Z B' ρ' H' h → Gr Z B ρ B' ρ' → D.rt v H'
  | some (.ex x τ h) => ∀ σ' B' ρ' H' cls d, Ok K Z B' ρ' H' h → SlOk K B' ρ' σ' τ → Gr Z B ρ B' ρ' → XcAt K B' ρ' H' x cls d → W cls d σ' H'
def tS (K : PySem.W.Frag) (W : WX) (m : MS) : TS := fun D σ H => ∃ Z B ρ τ h, Ok K Z B ρ H h ∧ SlOk K B ρ σ τ ∧ PostS K Z W B ρ D (m τ h)
structure RS (X : Cx) (W : WX) (st : Stmt) (m : MS) : Prop where
  ps : PS X st (tS X.K W m)
structure RSs (X : Cx) (W : WX) (st : List Stmt) (m : MS) : Prop where
  ps : PSs X st (tS X.K W m)
def sb {α : Type} (τ : Sl) (r : Option (Rs α)) (k : α → Hq → Option So) : Option So := match r with
  | some (.ok a h) => k a h
  | some (.ex x h) => some (.ex x τ h)
  | none => none
@[simp] theorem sb_ok {α : Type} (τ : Sl) (a : α) (h : Hq) (k : α → Hq → Option So) : sb τ (some (.ok a h)) k = k a h := rfl
@[simp] theorem sb_ex {α : Type} (τ : Sl) (x : Xc) (h : Hq) (k : α → Hq → Option So) : sb τ (some (.ex x h)) k = some (.ex x τ h) := rfl
@[simp] theorem sb_no {α : Type} (τ : Sl) (k : α → Hq → Option So) : sb τ none k = none := rfl
section
variable {α : Type} {K : PySem.W.Frag} {Z B B' H : Hp} {ρ ρ' : Nat → Option Addr} {h : Hq} {σ : L2.St} {τ : Sl} {W : WX} {D D' : Ends} {r : Option So}
theorem PostS.from (q : PostS K Z W B ρ D r) (g : Gr Z B ρ B' ρ') : PostS K Z W B' ρ' D r := by
  match r, q with
  | some (.nx τ h), q => exact fun σ2 B2 ρ2 H2 ok sl g2 => q σ2 B2 ρ2 H2 ok sl (g.trans g2)
  | some (.bk τ h), q => exact fun σ2 B2 ρ2 H2 ok sl g2 => q σ2 B2 ρ2 H2 ok sl (g.trans g2)
  | some (.ct τ h), q => exact fun σ2 B2 ρ2 H2 ok sl g2 => q σ2 B2 ρ2 H2 ok sl (g.trans g2)
  | some (.rt w h), q => exact fun v B2 ρ2 H2 rv ok g2 => q v B2 ρ2 H2 rv ok (g.trans g2)
  | some (.ex x τ h), q => exact fun σ2 B2 ρ2 H2 cls d ok sl g2 x => q σ2 B2 ρ2 H2 cls d ok sl (g.trans g2) x
theorem PostS.sb {r : Option (Rs α)} {k : α → Hq → Option So} (sl : SlOk K B ρ σ τ) (q : PostS K Z W B ρ D (Tq.sb τ r k)) : Post K Z (fun c d H' => W c d σ H') B ρ (fun a h B' ρ' H' => PostS K Z W B' ρ' D (k a h)) r := by
  match r, q with
  | some (.ok a h), q => exact fun B2 ρ2 H2 ok g2 => PostS.from q g2
  | some (.ex x h), q => exact fun B2 ρ2 H2 cls d ok g2 x => q σ B2 ρ2 H2 cls d ok (sl.mono g2) g2 x
theorem ts_bd {m : E A} {k : A → Hq → Option So} {Q : VK} (ok : Ok K Z B ρ H h) (sl : SlOk K B ρ σ τ) (q : PostS K Z W B ρ D (Tq.sb τ (m τ h) k))
    (c : ∀ v w h1 B1 ρ1 H1, RA K B1 ρ1 v w → Ok K Z B1 ρ1 H1 h1 → SlOk K B1 ρ1 σ τ → Gr Z B ρ B1 ρ1 → PostS K Z W B1 ρ1 D (k w h1) → Q v H1) : tE K W m σ H Q :=
  ⟨Z, B, ρ, τ, h, ok, sl, (q.sb sl).imp fun w h1 B1 ρ1 H1 ok1 g1 q1 v r => c v w h1 B1 ρ1 H1 r ok1 (sl.mono g1) g1 q1⟩
theorem PostS.nx1 {D : Ends} (q : PostS K Z W B ρ D (some (.nx τ h))) (ok : Ok K Z B ρ H h) (sl : SlOk K B ρ σ τ) : D.nx σ H := q σ B ρ H ok sl Gr.refl
end

/-! ### m's -/
def mNx : MS := fun τ h => some (.nx τ h)
def mSeq (m1 m2 : MS) : MS := fun τ h => match m1 τ h with | some (.nx τ' h') => m2 τ' h' | r => r
def mIf (t : E Bool) (m1 m2 : MS) : MS := fun τ h => sb τ (t τ h) fun b h1 => match b with | true => m1 τ h1 | false => m2 τ h1
def mSet (i : Nat) (m : E A) : MS := fun τ h => sb τ (m τ h) fun w h1 => some (.nx (τ.set i (some w)) h1)
def mDrop (m : E A) : MS := fun τ h => sb τ (m τ h) fun _ h1 => some (.nx τ h1)
def mRet (m : E A) : MS := fun τ h => sb τ (m τ h) fun w h1 => some (.rt w h1)
def mRetN : MS := fun _ h => some (.rt (.d .non) h)
def mBk : MS := fun τ h => some (.bk τ h)
def mCt : MS := fun τ h => some (.ct τ h)
def mNoS : MS := fun _ _ => none
section
variable {X : Cx} {W : WX} {st : Stmt} {rest b1 b2 : List Stmt} {m m1 m2 : MS} {me : E A} {t : E Bool} {e c : Expr} {pos : Pos}
theorem rs_no : RS X W st mNoS := ⟨⟨fun pins s σ H D I q => by
  obtain ⟨_, _, _, _, _, _, _, q⟩ := q
  exact q.elim⟩⟩
theorem rss_no {st : List Stmt} : RSs X W st mNoS := ⟨⟨fun pins s σ H D I q => by
  obtain ⟨_, _, _, _, _, _, _, q⟩ := q
  exact q.elim⟩⟩
theorem rss_nil : RSs X W [] mNx := ⟨pss_imp pss_nil fun D σ H q => by
  obtain ⟨Z, B, ρ, τ, h, ok, sl, q⟩ := q
  exact q.nx1 ok sl⟩
theorem rss_cons (h1 : RS X W st m1) (h2 : RSs X W rest m2) : RSs X W (st :: rest) (mSeq m1 m2) := ⟨pss_imp (pss_cons h1.ps h2.ps) fun D σ H q => by
  obtain ⟨Z, B, ρ, τ, h, ok, sl, q⟩ := q
  refine ⟨Z, B, ρ, τ, h, ok, sl, ?_⟩
  unfold mSeq at q
  split at q
  · rename_i τ1 h1 e1
    rw [e1]
    exact fun σ' B' ρ' H' ok' sl' g => ⟨Z, B', ρ', τ1, h1, ok', sl', q.from g⟩
  · rename_i hn
    revert q hn
    cases m1 τ h with
    | none => exact fun _ q => q.elim
    | some r =>
      cases r with
      | nx τ1 h1 => exact fun hn _ => (hn _ _ rfl).elim
      | bk _ _ => exact fun _ q => q
      | ct _ _ => exact fun _ q => q
      | rt _ _ => exact fun _ q => q
      | ex _ _ _ => exact fun _ q => q⟩
theorem rss_one (h1 : RS X W st m1) : RSs X W [st] m1 := ⟨pss_one h1.ps⟩
theorem rs_pass : RS X W (.Pass pos) mNx := ⟨ps_imp ps_pass fun D σ H q => by
  obtain ⟨Z, B, ρ, τ, h, ok, sl, q⟩ := q
  exact q.nx1 ok sl⟩
theorem rs_break : RS X W (.Break pos) mBk := ⟨ps_imp ps_break fun D σ H q => by
  obtain ⟨Z, B, ρ, τ, h, ok, sl, q⟩ := q
  exact q σ B ρ H ok sl Gr.refl⟩
theorem rs_cont : RS X W (.Continue pos) mCt := ⟨ps_imp ps_continue fun D σ H q => by
  obtain ⟨Z, B, ρ, τ, h, ok, sl, q⟩ := q
  exact q σ B ρ H ok sl Gr.refl⟩
theorem rs_doc {x j pos'} : RS X W (.Expr (.Constant (.str x) j pos) pos') mNx := ⟨ps_imp ps_doc fun D σ H q => by
  obtain ⟨Z, B, ρ, τ, h, ok, sl, q⟩ := q
  exact q.nx1 ok sl⟩
theorem rs_if (hc : RT X W c t) (ha : RSs X W b1 m1) (hb : RSs X W b2 m2) : RS X W (.If c b1 b2 pos) (mIf t m1 m2) := ⟨ps_imp (ps_if hc.pt ha.ps hb.ps) fun D σ H q => by
  obtain ⟨Z, B, ρ, τ, h, ok, sl, q⟩ := q
  refine ⟨Z, B, ρ, τ, h, ok, sl, (q.sb sl).imp fun b h1 B1 ρ1 H1 ok1 g1 q1 => ?_⟩
  cases b with
  | true => exact iteT ⟨Z, B1, ρ1, τ, h1, ok1, sl.mono g1, q1⟩
  | false => exact iteF ⟨Z, B1, ρ1, τ, h1, ok1, sl.mono g1, q1⟩⟩
theorem rs_set {i : Nat} {x : Str} {pos' : Pos} (hN : X.N.Nodup) (he : RX X W e me) (hi : X.N[i]? = some x := by rfl) (hx : Loc X.env.scope x := by first | exact .inl rfl | exact .inr rfl) (hs : swapsWith e (some (.Name x pos')) pos.line X.env = pure false := by rfl)
    (hf : X.fn x = true ∨ X.env.scope.names.lookup x = some .local := by first | exact .inl rfl | exact .inr rfl | assumption) : RS X W (.Assign [.Name x pos'] e pos) (mSet i me) := ⟨ps_imp (ps_set hN hi hx he.pe hs hf) fun D σ H q => by
  obtain ⟨Z, B, ρ, τ, h, ok, sl, q⟩ := q
  exact ts_bd ok sl q fun v w h1 B1 ρ1 H1 rv ok1 sl1 g1 q1 => q1.nx1 ok1 (sl1.put rv)⟩
theorem rs_drop (he : RX X W e me) (hs : swapsWith e none pos.line X.env = pure false := by rfl) : RS X W (.Expr e pos) (mDrop me) := ⟨ps_imp (ps_expr he.pe hs) fun D σ H q => by
  obtain ⟨Z, B, ρ, τ, h, ok, sl, q⟩ := q
  exact ts_bd ok sl q fun v w h1 B1 ρ1 H1 rv ok1 sl1 g1 q1 => q1.nx1 ok1 sl1⟩
theorem rs_ret (he : RX X W e me) : RS X W (.Return (some e) pos) (mRet me) := ⟨ps_imp (ps_ret he.pe) fun D σ H q => by
  obtain ⟨Z, B, ρ, τ, h, ok, sl, q⟩ := q
  exact ts_bd ok sl q fun v w h1 B1 ρ1 H1 rv ok1 sl1 g1 q1 => q1 v B1 ρ1 H1 rv ok1 Gr.refl⟩
theorem rs_retN : RS X W (.Return none pos) mRetN := ⟨ps_imp ps_retN fun D σ H q => by
  obtain ⟨Z, B, ρ, τ, h, ok, sl, q⟩ := q
  exact q .non B ρ H (.d .non) ok Gr.refl⟩

/-! ### targets -/
def Apart (vs : List Nat) (σ σ' : L2.St) : Prop := σ'.length = σ.length ∧ ∀ j, j ∉ vs → σ'[j]? = σ[j]?
theorem Apart.refl {vs : List Nat} {σ : L2.St} : Apart vs σ σ := ⟨rfl, fun _ _ => rfl⟩
theorem Apart.trans {vs : List Nat} {σ σ1 σ2 : L2.St} (a : Apart vs σ σ1) (b : Apart vs σ1 σ2) : Apart vs σ σ2 := ⟨b.1.trans a.1, fun j h => (b.2 j h).trans (a.2 j h)⟩
theorem Apart.set {vs : List Nat} {σ : L2.St} {i : Nat} {v : Option V} (h : i ∈ vs) : Apart vs σ (σ.set i v) := ⟨List.length_set .., fun j hj => List.getElem?_set_ne fun e => hj (by rw [← e]; exact h)⟩
structure RG (X : Cx) (vs : List Nat) (tg : Expr) (mg : A → Sl → Hq → Option Sl) : Prop where
  pg : PG X tg fun v σ H Q => ∃ Z B ρ w τ τ' h, Ok X.K Z B ρ H h ∧ SlOk X.K B ρ σ τ ∧ RA X.K B ρ v w ∧ mg w τ h = some τ' ∧ ∀ σ', SlOk X.K B ρ σ' τ' → Apart vs σ σ' → Q σ' H
def mgName (i : Nat) : A → Sl → Hq → Option Sl := fun w τ _ => some (τ.set i (some w))
theorem pg_imp {X : Cx} {e : Expr} {t t' : TG} (h : PG X e t) (i : ∀ v σ H Q, t' v σ H Q → t v σ H Q) : PG X e t' := ⟨fun pins s σ H v u Q I r q => h.run pins s σ H v u Q I r (i _ _ _ _ q)⟩
theorem pg_or {X : Cx} {e : Expr} {t t' : TG} (h : PG X e t) (h' : PG X e t') : PG X e fun v σ H Q => t v σ H Q ∨ t' v σ H Q := ⟨fun pins s σ H v u Q I r q => q.elim (h.run pins s σ H v u Q I r) (h'.run pins s σ H v u Q I r)⟩
theorem pgs_imp {X : Cx} {es : List Expr} {t t' : TGs} (h : PGs X es t) (i : ∀ v σ H Q, t' v σ H Q → t v σ H Q) : PGs X es t' := ⟨fun pins s σ H v u Q I r q => h.run pins s σ H v u Q I r (i _ _ _ _ q)⟩
theorem rg_name {vs : List Nat} {i : Nat} {x : Str} (hN : X.N.Nodup) (hm : i ∈ vs := by decide) (hi : X.N[i]? = some x := by rfl) (hx : Loc X.env.scope x := by first | exact .inl rfl | exact .inr rfl) (hf : X.fn x = true ∨ X.env.scope.names.lookup x = some .local := by first | exact .inl rfl | exact .inr rfl | assumption) :
    RG X vs (.Name x pos) (mgName i) := ⟨pg_imp (pg_name hN hi hx hf) fun v σ H Q q => by
  obtain ⟨Z, B, ρ, w, τ, τ', h, ok, sl, r, e, q⟩ := q
  cases e
  exact q _ (sl.put r) (Apart.set hm)⟩
structure RGs (X : Cx) (is : List Nat) (tgs : List Expr) (mg : List A → Sl → Hq → Option Sl) : Prop where
  pg : PGs X tgs fun vs σ H Q => ∃ Z B ρ ws τ τ' h, Ok X.K Z B ρ H h ∧ SlOk X.K B ρ σ τ ∧ RAL X.K B ρ vs ws ∧ mg ws τ h = some τ' ∧ ∀ σ', SlOk X.K B ρ σ' τ' → Apart is σ σ' → Q σ' H
def mgNil : List A → Sl → Hq → Option Sl := fun ws τ _ => match ws with | [] => some τ | _ => none
def mgCons (g : A → Sl → Hq → Option Sl) (gs : List A → Sl → Hq → Option Sl) : List A → Sl → Hq → Option Sl := fun ws τ h => match ws with
  | w :: r => (match g w τ h with | some τ1 => gs r τ1 h | none => none)
  | [] => none
/-- a, b = a tuple or a list of n -/
def mgTup (n : Nat) (gs : List A → Sl → Hq → Option Sl) : A → Sl → Hq → Option Sl := fun w τ h => match tupOf w with
  | some ws => if ws.length = n then gs ws τ h else none
  | none => match lstOf h w with
    | some ws => if ws.length = n then gs ws τ h else none
    | none => none
theorem rgs_nil {is : List Nat} : RGs X is [] mgNil := ⟨pgs_imp pgs_nil fun vs σ H Q q => by
  obtain ⟨Z, B, ρ, ws, τ, τ', h, ok, sl, r, e, q⟩ := q
  cases r with
  | nil => cases e; exact ⟨rfl, q σ sl Apart.refl⟩
  | cons _ _ => cases e⟩
theorem rgs_cons {is : List Nat} {es : List Expr} {g : A → Sl → Hq → Option Sl} {gs : List A → Sl → Hq → Option Sl} (h1 : RG X is e g) (h2 : RGs X is es gs)
    (hs : (assignEach (e :: es) X.env).map (·.2) = assign e X.env :: (assignEach es X.env).map (·.2) := by rfl) : RGs X is (e :: es) (mgCons g gs) := ⟨pgs_imp (pgs_cons h1.pg h2.pg hs) fun vs σ H Q q => by
  obtain ⟨Z, B, ρ, ws, τ, τ', h, ok, sl, r, e, q⟩ := q
  cases r with
  | nil => cases e
  | cons r rr =>
    unfold mgCons at e
    split at e
    · rename_i w r1 e0
      cases e0
      split at e
      · rename_i τ1 e1
        exact ⟨_, _, rfl, Z, B, ρ, _, τ, τ1, h, ok, sl, r, e1, fun σ1 sl1 a1 => ⟨Z, B, ρ, _, τ1, τ', h, ok, sl1, rr, e, fun σ2 sl2 a2 => q σ2 sl2 (a1.trans a2)⟩⟩
      · cases e
    · cases e⟩
theorem rg_tup {is : List Nat} {es : List Expr} {k : Nat} {gs : List A → Sl → Hq → Option Sl} (hc : X.calm = true) (h : RGs X is es gs) (n : Nat)
    (hn : (assignEach es X.env).length = n := by rfl) (hst : (assignEach es X.env).findIdx? (·.1) = none := by rfl) : RG X is (.Tuple es k pos) (mgTup n gs) := ⟨pg_imp (pg_or (pg_tup hc h.pg hn hst) (pg_lst hc h.pg hn hst)) fun v σ H Q q => by
  obtain ⟨Z, B, ρ, w, τ, τ', h, ok, sl, r, e, q⟩ := q
  unfold mgTup at e
  split at e
  · rename_i ws e1
    split at e
    · rename_i hl
      obtain ⟨p, vs, rfl, h1, r1⟩ := tupOf_ra r e1
      exact .inl ⟨p, vs, rfl, sqt_of (ok.ex _ _ h1), by rw [r1.length]; exact hl, Z, B, ρ, ws, τ, τ', h, ok, sl, r1, e, q⟩
    · cases e
  · split at e
    · rename_i ws e1
      split at e
      · rename_i hl
        obtain ⟨p, vs, rfl, h1, r1⟩ := lstOf_ra ok r e1
        exact .inr ⟨p, vs, rfl, SqL.of h1, by rw [r1.length]; exact hl, Z, B, ρ, ws, τ, τ', h, ok, sl, r1, e, q⟩
      · cases e
    · cases e⟩
def mAsg (g : A → Sl → Hq → Option Sl) (m : E A) : MS := fun τ h => sb τ (m τ h) fun w h1 => match g w τ h1 with | some τ1 => some (.nx τ1 h1) | none => none
theorem rs_asg {is : List Nat} {tg : Expr} {g : A → Sl → Hq → Option Sl} (he : RX X W e me) (hg : RG X is tg g) (hs : swapsWithSole [tg] e pos.line X.env = pure false := by rfl) (hw : swappedStores [tg] e X.env = pure none := by rfl)
    (h1 : (assignEach [tg] X.env).map (·.2) = [assign tg X.env] := by rfl) : RS X W (.Assign [tg] e pos) (mAsg g me) := ⟨ps_imp (ps_asg he.pe hg.pg hs hw h1) fun D σ H q => by
  obtain ⟨Z, B, ρ, τ, h, ok, sl, q⟩ := q
  refine ts_bd ok sl q fun v w h1 B1 ρ1 H1 rv ok1 sl1 g1 q1 => ?_
  split at q1
  · rename_i τ1 e1
    exact ⟨Z, B1, ρ1, w, τ, τ1, h1, ok1, sl1, rv, e1, fun σ' sl' _ => q1.nx1 ok1 sl'⟩
  · exact q1.elim⟩

/-! ### name op= e -/
def mAug (i : Nat) (g : G2) (m : E A) : MS := fun τ h => match τ[i]? with
  | some (some a) => sb τ (m τ h) fun b h1 => sb τ (g a b h1) fun w h2 => some (.nx (τ.set i (some w)) h2)
  | _ => none
theorem rs_aug {i : Nat} {x : Str} {op : Operator} {r : R2} {g : G2} {pos' : Pos} (hN : X.N.Nodup) (ho : OpR X (inplaceOp op) r) (og : Op2 X.K r g) (he : RX X W e me) (hi : X.N[i]? = some x := by rfl) (hx : Loc X.env.scope x := by first | exact .inl rfl | exact .inr rfl)
    (hf : X.fn x = true ∨ X.env.scope.names.lookup x = some .local := by first | exact .inl rfl | exact .inr rfl | assumption) : RS X W (.AugAssign (.Name x pos') op e pos) (mAug i g me) := ⟨ps_imp (ps_aug hN hi hx he.pe ho hf) fun D σ H q => by
  obtain ⟨Z, B, ρ, τ, h, ok, sl, q⟩ := q
  unfold mAug at q
  split at q
  · rename_i a e0
    obtain ⟨v0, h1, h2⟩ := sl.at_ _ _ e0
    refine ⟨v0, h1, ts_bd ok sl q fun v w h1 B1 ρ1 H1 rv ok1 sl1 g1 q1 => ?_⟩
    refine og Z B1 ρ1 H1 h1 v0 v a w _ _ ok1 (h2.mono g1) rv ((q1.sb sl1).imp fun u h3 B3 ρ3 H3 ok3 g3 q3 z rz => ?_)
    exact q3.nx1 ok3 ((sl1.mono g3).put rz)
  · exact q.elim⟩
theorem iop_addA {X : Cx} : OpR X (inplaceOp .Add) (fun x y H Q => rI0 (fun i j => .int (i + j)) x y H Q ∨ (∃ i j, x = .str i ∧ y = .str j ∧ i.length + j.length ≤ sizeLine ∧ Q (.str (i ++ j)) H)) := iop_add.or iop_add_str
def gIAdd : G2 := fun a b h => match a, b with
  | .d (.int i), .d (.int j) => some (.ok (.d (.int (i + j))) h)
  | .d (.str s), .d (.str t) => if s.length + t.length ≤ LIM then some (.ok (.d (.str (s ++ t))) h) else none
  | _, _ => none
theorem og_iadd {K : PySem.W.Frag} : Op2 K (fun x y H Q => rI0 (fun i j => .int (i + j)) x y H Q ∨ (∃ i j, x = .str i ∧ y = .str j ∧ i.length + j.length ≤ sizeLine ∧ Q (.str (i ++ j)) H)) gIAdd := by
  intro Z B ρ H h x y a b W Q ok rx ry q
  unfold gIAdd at q
  split at q
  · exact .inl ⟨_, _, ra_int rx, ra_int ry, q.now ok _ (.d (.int _))⟩
  · split at q
    · rename_i hl
      exact .inr ⟨_, _, ra_str rx, ra_str ry, by rw [← lim_eq]; exact hl, q.now ok _ (.d (.str _))⟩
    · exact q.elim
  · exact q.elim
theorem og_isub {K : PySem.W.Frag} : Op2 K (rI0 fun i j => .int (i - j)) gSub := og_sub
end

/-! ### what is walked -/
/-- by place: stuck, over, or the next -/
abbrev Nxt := Nat → Hq → Option (Option A)
abbrev NZ : Hp := fun _ => none
theorem Gr.wk {Z B B' : Hp} {ρ ρ' : Nat → Option Addr} (g : Gr Z B ρ B' ρ') : Gr NZ B ρ B' ρ' := ⟨g.bb, g.rr, fun _ _ _ => rfl⟩
def Walk (K : PySem.W.Frag) (B : Hp) (ρ : Nat → Option Addr) (J : It) (nx : Nxt) : Prop := ∀ (Z B2 : Hp) (ρ2 : Nat → Option Addr) (H2 : Hp) (h2 : Hq) (i : Nat), Ok K Z B2 ρ2 H2 h2 → Gr NZ B ρ B2 ρ2 →
  (nx i h2 = some none → J.stop i H2) ∧ ∀ w, nx i h2 = some (some w) → J.go i H2 ∧ ∀ x H', J.yld i H2 x H' → ∃ B3, RA K B3 ρ2 x w ∧ Ok K Z B3 ρ2 H' h2 ∧ Gr Z B2 ρ2 B3 ρ2
/-- data, places 0 .. -/
def nxL (ws : List A) : Nxt := fun i _ => some ws[i]?
/-- a cell, as it is then -/
def nxC (k : Nat) : Nxt := fun i h => match h[k]? with | some (.lst ws) => some ws[i]? | _ => none
structure RI (X : Cx) (W : WX) (tg iter : Expr) (m : E Nxt) : Prop where
  pi : PI X tg iter fun σ H R => ∃ Z B ρ τ h, Ok X.K Z B ρ H h ∧ SlOk X.K B ρ σ τ ∧ Post X.K Z (fun c d H' => W c d σ H') B ρ (fun nx _ B' ρ' H' => ∀ J, Walk X.K B' ρ' J nx → R J H') (m τ h)
theorem pi_imp {X : Cx} {tg e : Expr} {t t' : TI} (h : PI X tg e t) (i : ∀ σ H R, t' σ H R → t σ H R) : PI X tg e t' := ⟨fun pins s σ H R I q => h.run pins s σ H R I (i _ _ _ q)⟩
theorem pi_or {X : Cx} {tg e : Expr} {t t' : TI} (h : PI X tg e t) (h' : PI X tg e t') : PI X tg e fun σ H R => t σ H R ∨ t' σ H R := ⟨fun pins s σ H R I q => q.elim (h.run pins s σ H R I) (h'.run pins s σ H R I)⟩
/-- what stands to be walked -/
def itemsA : A → Option Nxt
  | .d (.lst xs) => some (nxL (xs.map A.d)) | .d (.tup xs) => some (nxL (xs.map A.d)) | .d (.kt xs) => some (nxL (xs.map A.d)) | .d (.scr ns) => some (nxL (ns.map fun i => .d (.int i)))
  | .d (.str x) => some (nxL (x.cps.toList.map fun c => .d (.str ⟨#[c]⟩)))
  | .tup ws => some (nxL ws)
  | .r k => some (nxC k)
  | _ => none
def mItems (m : E A) : E Nxt := fun τ h => bd (m τ h) fun a h1 => match a with
  | .r k => (match h1[k]? with | some (.lst _) => some (.ok (nxC k) h1) | _ => none)
  | a => match itemsA a with | some nx => some (.ok nx h1) | none => none
def rangeA (lo : Int) (n : Nat) : List A := (List.range n).map fun i => .d (.int (lo + (i : Nat)))
def mRange1 (m : E A) : E Nxt := fun τ h => bd (m τ h) fun a h1 => match a with
  | .d (.int j) => if -(2 ^ 62) ≤ j ∧ j < 2 ^ 62 then some (.ok (nxL (rangeA 0 j.toNat)) h1) else none
  | _ => none
def mRange2 (ma mb : E A) : E Nxt := fun τ h => bd (ma τ h) fun a h1 => bd (mb τ h1) fun b h2 => match a, b with
  | .d (.int i), .d (.int j) => if -(2 ^ 62) ≤ i ∧ i < 2 ^ 62 ∧ -(2 ^ 62) ≤ j ∧ j < 2 ^ 62 then some (.ok (nxL (rangeA i (j - i).toNat)) h2) else none
  | _, _ => none
section
variable {X : Cx} {W : WX} {tg iter e a b : Expr} {m ma mb : E A} {mi : E Nxt} {pos : Pos}
theorem walk_seq {K : PySem.W.Frag} {B : Hp} {ρ : Nat → Option Addr} {J : It} {vs : List V} {ws : List A} (r : RAL K B ρ vs ws)
    (hstop : ∀ Z B2 ρ2 H2 h2 i, Ok K Z B2 ρ2 H2 h2 → Gr NZ B ρ B2 ρ2 → vs.length ≤ i → J.stop i H2) (hgo : ∀ Z B2 ρ2 H2 h2 i v, Ok K Z B2 ρ2 H2 h2 → Gr NZ B ρ B2 ρ2 → vs[i]? = some v → J.go i H2 ∧ ∀ x H', J.yld i H2 x H' → x = v ∧ H' = H2) : Walk K B ρ J (nxL ws) := by
  intro Z B2 ρ2 H2 h2 i ok2 g2
  refine ⟨fun e => hstop Z B2 ρ2 H2 h2 i ok2 g2 ?_, fun w e => ?_⟩
  · have e : ws[i]? = none := Option.some.inj e
    rw [r.length]
    exact List.getElem?_eq_none_iff.mp e
  · have e : ws[i]? = some w := Option.some.inj e
    obtain ⟨v, h1, h2'⟩ := r.get e
    obtain ⟨k1, k2⟩ := hgo Z B2 ρ2 H2 h2 i v ok2 g2 h1
    refine ⟨k1, fun x H' y => ?_⟩
    obtain ⟨rfl, rfl⟩ := k2 x H' y
    exact ⟨B2, h2'.mono g2, ok2, Gr.refl⟩
theorem walk_list {K : PySem.W.Frag} {B : Hp} {ρ : Nat → Option Addr} {a : Addr} {vs : List V} {ws : List A} (h : SqL K B a vs) (r : RAL K B ρ vs ws) : Walk K B ρ (Itl K a) (nxL ws) :=
  walk_seq r (fun Z B2 ρ2 H2 h2 i ok2 g2 hl => ⟨vs, ok2.ex.seq (g2.bb.seq h), hl⟩) fun Z B2 ρ2 H2 h2 i v ok2 g2 hv => by
    have hq : SqL K H2 a vs := ok2.ex.seq (g2.bb.seq h)
    refine ⟨⟨vs, v, hq, hv⟩, fun x H' y => ?_⟩
    obtain ⟨rfl, y⟩ := y
    exact ⟨Option.some.inj ((y vs hq).symm.trans hv), rfl⟩
theorem walk_tup {K : PySem.W.Frag} {B : Hp} {ρ : Nat → Option Addr} {a : Addr} {vs : List V} {ws : List A} (h : SqT K B a vs) (r : RAL K B ρ vs ws) : Walk K B ρ (Itt K a) (nxL ws) :=
  walk_seq r (fun Z B2 ρ2 H2 h2 i ok2 g2 hl => ⟨vs, sqt_mono ok2.ex (sqt_mono g2.bb h), hl⟩) fun Z B2 ρ2 H2 h2 i v ok2 g2 hv => by
    have hq : SqT K H2 a vs := sqt_mono ok2.ex (sqt_mono g2.bb h)
    refine ⟨⟨vs, v, hq, hv⟩, fun x H' y => ?_⟩
    obtain ⟨rfl, y⟩ := y
    exact ⟨Option.some.inj ((y vs hq).symm.trans hv), rfl⟩
theorem walk_cell {K : PySem.W.Frag} {B : Hp} {ρ : Nat → Option Addr} {k : Nat} {a : Addr} (hr : ρ k = some a) : Walk K B ρ (Itl K a) (nxC k) := by
  intro Z B2 ρ2 H2 h2 i ok2 g2
  have at_ : ∀ ws, h2[k]? = some (.lst ws) → ∃ vs, H2 a = some (.lst vs) ∧ RAL K B2 ρ2 vs ws := fun ws e => by
    obtain ⟨p, h1, h3⟩ := ok2.ce _ _ e
    rw [g2.rr _ _ hr] at h1
    cases h1
    cases h3 with
    | lst q1 q2 q3 q4 => exact ⟨_, q1, q2⟩
  refine ⟨fun e => ?_, fun w e => ?_⟩
  · unfold nxC at e
    split at e
    · rename_i ws e1
      obtain ⟨vs, h1, h3⟩ := at_ ws e1
      have e : ws[i]? = none := Option.some.inj e
      exact ⟨vs, SqL.of h1, by rw [h3.length]; exact List.getElem?_eq_none_iff.mp e⟩
    · cases e
  · unfold nxC at e
    split at e
    · rename_i ws e1
      obtain ⟨vs, h1, h3⟩ := at_ ws e1
      have e : ws[i]? = some w := Option.some.inj e
      obtain ⟨v, h4, h5⟩ := h3.get e
      refine ⟨⟨vs, v, SqL.of h1, h4⟩, fun x H' y => ?_⟩
      obtain ⟨rfl, y⟩ := y
      have : x = v := Option.some.inj ((y vs (SqL.of h1)).symm.trans h4)
      subst this
      exact ⟨B2, h5, ok2, Gr.refl⟩
    · cases e
theorem walk_range {K : PySem.W.Frag} {B : Hp} {ρ : Nat → Option Addr} {lo : Int} {n : Nat} : Walk K B ρ (Itr lo n) (nxL (rangeA lo n)) := by
  have hl : (rangeA lo n).length = n := by unfold rangeA; rw [List.length_map, List.length_range]
  intro Z B2 ρ2 H2 h2 i ok2 g2
  refine ⟨fun e => ?_, fun w e => ?_⟩
  · have e : (rangeA lo n)[i]? = none := Option.some.inj e
    have := List.getElem?_eq_none_iff.mp e
    rw [hl] at this
    exact this
  · have e : (rangeA lo n)[i]? = some w := Option.some.inj e
    have hi : i < n := by
      rw [← hl]
      exact (List.getElem?_eq_some_iff.mp e).1
    refine ⟨hi, fun x H' y => ?_⟩
    obtain ⟨rfl, rfl⟩ := y
    unfold rangeA at e
    rw [List.getElem?_map, List.getElem?_range hi] at e
    cases e
    exact ⟨B2, .d (.int _), ok2, Gr.refl⟩
theorem walk_str {K : PySem.W.Frag} {B : Hp} {ρ : Nat → Option Addr} {x : Str} : Walk K B ρ (Its x) (nxL (x.cps.toList.map fun c => .d (.str ⟨#[c]⟩))) := by
  intro Z B2 ρ2 H2 h2 i ok2 g2
  refine ⟨fun e => ?_, fun w e => ?_⟩
  · have e : (x.cps.toList.map fun c => A.d (.str ⟨#[c]⟩))[i]? = none := Option.some.inj e
    have := List.getElem?_eq_none_iff.mp e
    show x.cps.size ≤ i
    simpa using this
  · have e : (x.cps.toList.map fun c => A.d (.str ⟨#[c]⟩))[i]? = some w := Option.some.inj e
    have hi : i < x.cps.size := by
      have z := (List.getElem?_eq_some_iff.mp e).1
      simpa using z
    refine ⟨hi, fun v H' y => ?_⟩
    obtain ⟨rfl, c, h1, rfl⟩ := y
    rw [List.getElem?_map, Array.getElem?_toList, h1] at e
    cases e
    exact ⟨B2, .d (.str _), ok2, Gr.refl⟩
/-- a list, a tuple, the script, a text, a cell -/
theorem ri_items (he : RX X W e m) : RI X W tg e (mItems m) := ⟨pi_imp (pi_or (pi_list he.pe) (pi_or (pi_tup he.pe) (pi_str he.pe))) fun σ H R q => by
  obtain ⟨Z, B, ρ, τ, h, ok, sl, q⟩ := q
  have dec : ∀ (r : Option (Rs A)), Post X.K Z (fun c d H' => W c d σ H') B ρ (fun nx _ B' ρ' H' => ∀ J, Walk X.K B' ρ' J nx → R J H') (bd r fun a h1 => match a with
      | .r k => (match h1[k]? with | some (.lst _) => some (.ok (nxC k) h1) | _ => none)
      | a => match itemsA a with | some nx => some (.ok nx h1) | none => none) →
      Post X.K Z (fun c d H' => W c d σ H') B ρ (fun w _ B' ρ' H' => ∀ v, RA X.K B' ρ' v w → ∃ a, v = .ref a ∧ (∃ xs, SqL X.K H' a xs) ∧ R (Itl X.K a) H') r ∨
      Post X.K Z (fun c d H' => W c d σ H') B ρ (fun w _ B' ρ' H' => ∀ v, RA X.K B' ρ' v w → ∃ a, v = .ref a ∧ (∃ xs, SqT X.K H' a xs) ∧ R (Itt X.K a) H') r ∨
      Post X.K Z (fun c d H' => W c d σ H') B ρ (fun w _ B' ρ' H' => ∀ v, RA X.K B' ρ' v w → ∃ x, v = .str x ∧ R (Its x) H') r := by
    intro r q
    match r, q with
    | some (.ex x h), q => exact .inl q
    | some (.ok a h1), q =>
      cases a with
      | r k =>
        refine .inl fun B1 ρ1 H1 ok1 g1 v rv => ?_
        have q : Post X.K Z (fun c d H' => W c d σ H') B ρ (fun nx _ B' ρ' H' => ∀ J, Walk X.K B' ρ' J nx → R J H') (match h1[k]? with | some (.lst _) => some (.ok (nxC k) h1) | _ => none) := q
        split at q
        · rename_i ws e1
          cases rv with
          | r hr =>
            obtain ⟨p, h2, h3⟩ := ok1.ce _ _ e1
            rw [hr] at h2
            cases h2
            cases h3 with
            | lst q1 q2 q3 q4 => exact ⟨_, rfl, ⟨_, SqL.of q1⟩, q B1 ρ1 H1 ok1 g1 _ (walk_cell hr)⟩
        · exact q.elim
      | tup ws =>
        refine .inr (.inl fun B1 ρ1 H1 ok1 g1 v rv => ?_)
        cases rv with
        | tup ht r1 => exact ⟨_, rfl, ⟨_, sqt_of (ok1.ex _ _ ht)⟩, q B1 ρ1 H1 ok1 g1 _ (walk_tup (sqt_of ht) r1)⟩
      | d x =>
        cases x with
        | lst xs =>
          refine .inl fun B1 ρ1 H1 ok1 g1 v rv => ?_
          cases ra_d rv with
          | lst h2 r1 => exact ⟨_, rfl, ⟨_, SqL.of (ok1.ex _ _ h2)⟩, q B1 ρ1 H1 ok1 g1 _ (walk_list (SqL.of h2) (ral_ds r1))⟩
        | scr ns =>
          refine .inl fun B1 ρ1 H1 ok1 g1 v rv => ?_
          cases ra_d rv with
          | scr h2 => exact ⟨_, rfl, ⟨_, ok1.ex.seq h2⟩, q B1 ρ1 H1 ok1 g1 _ (walk_list h2 (ral_ints ns))⟩
        | tup xs =>
          refine .inr (.inl fun B1 ρ1 H1 ok1 g1 v rv => ?_)
          cases ra_d rv with
          | tup h2 r1 => exact ⟨_, rfl, ⟨_, sqt_of (ok1.ex _ _ h2)⟩, q B1 ρ1 H1 ok1 g1 _ (walk_tup (sqt_of h2) (ral_ds r1))⟩
        | kt xs =>
          refine .inr (.inl fun B1 ρ1 H1 ok1 g1 v rv => ?_)
          cases ra_d rv with
          | kt h2 r1 => exact ⟨_, rfl, ⟨_, sqt_mono ok1.ex h2⟩, q B1 ρ1 H1 ok1 g1 _ (walk_tup h2 (ral_ds r1))⟩
        | str x =>
          refine .inr (.inr fun B1 ρ1 H1 ok1 g1 v rv => ?_)
          cases ra_str rv
          exact ⟨x, rfl, q B1 ρ1 H1 ok1 g1 _ walk_str⟩
        | non => exact q.elim
        | bl _ => exact q.elim
        | int _ => exact q.elim
        | fn _ => exact q.elim
        | nd _ _ => exact q.elim
  have q : Post X.K Z (fun c d H' => W c d σ H') B ρ (fun nx _ B' ρ' H' => ∀ J, Walk X.K B' ρ' J nx → R J H') (bd (m τ h) fun a h1 => match a with
      | .r k => (match h1[k]? with | some (.lst _) => some (.ok (nxC k) h1) | _ => none)
      | a => match itemsA a with | some nx => some (.ok nx h1) | none => none) := q
  rcases dec (m τ h) q with q | q | q
  · exact .inl ⟨Z, B, ρ, τ, h, ok, sl, q⟩
  · exact .inr (.inl ⟨Z, B, ρ, τ, h, ok, sl, q⟩)
  · exact .inr (.inr ⟨Z, B, ρ, τ, h, ok, sl, q⟩)⟩
theorem ri_range1 {px : Pos} (he : RX X W a m) (hm : X.mg "range" = none) (hg : Gl X "range" := by rfl) (hs : starEach [a] X.env = [(false, eval a X.env)] := by rfl) : RI X W tg (.Call (.Name "range" px) [a] [] pos) (mRange1 m) := ⟨pi_imp (pi_range1 hg hm (pa_cons he.pe pa_nil hs) hs) fun σ H R q => by
  obtain ⟨Z, B, ρ, τ, h, ok, sl, q⟩ := q
  refine te_bd ok sl q fun x a h1 B1 ρ1 H1 rx ok1 sl1 g1 q1 => ?_
  split at q1
  · split at q1
    · rename_i j hj
      cases ra_int rx
      exact ⟨j, rfl, hj.1, hj.2, q1.now ok1 _ walk_range⟩
    · exact q1.elim
  · exact q1.elim⟩
theorem ri_range2 {px : Pos} (ha : RX X W a ma) (hb : RX X W b mb) (hm : X.mg "range" = none) (hg : Gl X "range" := by rfl) (hs : starEach [a, b] X.env = [(false, eval a X.env), (false, eval b X.env)] := by rfl) (hs2 : starEach [b] X.env = [(false, eval b X.env)] := by rfl) :
    RI X W tg (.Call (.Name "range" px) [a, b] [] pos) (mRange2 ma mb) := ⟨pi_imp (pi_range2 hg hm (pa_cons ha.pe (pa_cons hb.pe pa_nil hs2) (by rw [hs, hs2])) hs hs2) fun σ H R q => by
  obtain ⟨Z, B, ρ, τ, h, ok, sl, q⟩ := q
  refine te_bd ok sl q fun x a h1 B1 ρ1 H1 rx ok1 sl1 g1 q1 => te_bd ok1 sl1 q1 fun y b h2 B2 ρ2 H2 ry ok2 sl2 g2 q2 => ?_
  split at q2
  · split at q2
    · rename_i i j hj
      cases ra_int rx
      cases ra_int ry
      exact ⟨i, j, rfl, hj, q2.now ok2 _ walk_range⟩
    · exact q2.elim
  · exact q2.elim⟩

/-! ### for -/
/-- f: turns left -/
def forM (nx : Nxt) (g : A → Sl → Hq → Option Sl) (mb : MS) : Nat → Nat → MS
  | 0, _, _, _ => none
  | f + 1, i, τ, h => match nx i h with
    | some none => some (.nx τ h)
    | some (some w) => (match g w τ h with
      | some τ1 => (match mb τ1 h with
        | some (.nx τ2 h2) => forM nx g mb f (i + 1) τ2 h2
        | some (.ct τ2 h2) => forM nx g mb f (i + 1) τ2 h2
        | some (.bk τ2 h2) => some (.nx τ2 h2)
        | r => r)
      | none => none)
    | none => none
abbrev FU : Nat := 16777217
def mFor (mi : E Nxt) (g : A → Sl → Hq → Option Sl) (mb : MS) : MS := fun τ h => sb τ (mi τ h) fun nx h1 => forM nx g mb FU 0 τ h1
variable {g : A → Sl → Hq → Option Sl} {mbd : MS} {body : List Stmt} {c : Expr} {t : E Bool}
theorem rs_for {is : List Nat} (hp : PassesOwn (model X.prog X.w) X.A X.env X.xe) (hc : X.calm = true) (hi : RI X W tg iter mi) (hg : RG X is tg g) (hb : RSs X W body mbd) (hs : ∀ x, foldedSetIterable iter X.env x = pure x := by intro _; rfl) : RS X W (.For tg iter body [] pos) (mFor mi g mbd) := ⟨ps_imp (ps_for hp hc hi.pi hg.pg hb.ps hs) fun D σ H q => by
  obtain ⟨Z, B, ρ, τ, h, ok, sl, q⟩ := q
  refine ⟨Z, B, ρ, τ, h, ok, sl, (q.sb sl).imp fun nx h1 B1 ρ1 H1 ok1 g1 q1 J wk => ?_⟩
  refine ⟨fun i m σ' H' => ∃ B' ρ' τ' h', Ok X.K Z B' ρ' H' h' ∧ SlOk X.K B' ρ' σ' τ' ∧ Gr Z B1 ρ1 B' ρ' ∧ PostS X.K Z W B' ρ' D (forM nx g mbd m i τ' h'), ⟨FU, B1, ρ1, τ, h1, ok1, sl.mono g1, Gr.refl, q1⟩, ?_⟩
  rintro i m σ2 H2 ⟨B2, ρ2, τ2, h2, ok2, sl2, g2, post⟩
  obtain ⟨stop, go⟩ := wk Z B2 ρ2 H2 h2 i ok2 g2.wk
  cases m with
  | zero => exact post.elim
  | succ m =>
    unfold forM at post
    split at post
    · rename_i e1
      exact .inl ⟨stop e1, post.nx1 ok2 sl2⟩
    · rename_i w e1
      obtain ⟨k1, k2⟩ := go w e1
      refine .inr ⟨k1, fun σ' H' => ∃ B' ρ' τ' h', Ok X.K Z B' ρ' H' h' ∧ SlOk X.K B' ρ' σ' τ' ∧ Gr Z B1 ρ1 B' ρ' ∧ PostS X.K Z W B' ρ' D (forM nx g mbd m (i + 1) τ' h'), fun σ' H' n => ⟨m, Nat.lt_succ_self m, n⟩, fun x H3 y => ?_⟩
      obtain ⟨B3, rx, ok3, g3⟩ := k2 x H3 y
      split at post
      · rename_i τ3 e3
        refine ⟨Z, B3, ρ2, w, τ2, τ3, h2, ok3, sl2.mono g3, rx, e3, fun σ4 sl4 _ => ?_⟩
        refine ⟨Z, B3, ρ2, τ3, h2, ok3, sl4, ?_⟩
        have post := post.from g3
        have g13 := g2.trans g3
        revert post
        cases mbd τ3 h2 with
        | none => exact fun h => h
        | some r =>
          cases r with
          | nx τ4 h4 => exact fun post σ5 B5 ρ5 H5 ok5 sl5 g5 => ⟨B5, ρ5, τ4, h4, ok5, sl5, g13.trans g5, post.from g5⟩
          | ct τ4 h4 => exact fun post σ5 B5 ρ5 H5 ok5 sl5 g5 => ⟨B5, ρ5, τ4, h4, ok5, sl5, g13.trans g5, post.from g5⟩
          | bk τ4 h4 => exact fun post => post
          | rt w h4 => exact fun post => post
          | ex x τ4 h4 => exact fun post => post
      · exact post.elim
    · exact post.elim⟩

/-! ### while: n turns at most -/
def mWhile (t : E Bool) (mb : MS) : Nat → MS
  | 0, _, _ => none
  | n + 1, τ, h => sb τ (t τ h) fun b h1 => match b with
    | false => some (.nx τ h1)
    | true => match mb τ h1 with
      | some (.nx τ2 h2) => mWhile t mb n τ2 h2
      | some (.ct τ2 h2) => mWhile t mb n τ2 h2
      | some (.bk τ2 h2) => some (.nx τ2 h2)
      | r => r
theorem rs_while (n : Nat) (hp : PassesOwn (model X.prog X.w) X.A X.env X.xe) (hc : RT X W c t) (hb : RSs X W body mbd) : RS X W (.While c body [] pos) (mWhile t mbd n) := ⟨ps_imp (ps_while hp hc.pt hb.ps) fun D σ H q => by
  refine ⟨fun m σ' H' => ∃ Z B' ρ' τ' h', Ok X.K Z B' ρ' H' h' ∧ SlOk X.K B' ρ' σ' τ' ∧ PostS X.K Z W B' ρ' D (mWhile t mbd m τ' h'), ⟨n, q⟩, ?_⟩
  rintro m σ2 H2 ⟨Z, B2, ρ2, τ2, h2, ok2, sl2, post⟩
  refine ⟨Z, B2, ρ2, τ2, h2, ok2, sl2, ?_⟩
  cases m with
  | zero => exact post.elim
  | succ m =>
    unfold mWhile at post
    refine (post.sb sl2).imp fun b h3 B3 ρ3 H3 ok3 g3 q3 => ?_
    cases b with
    | false => exact iteF (q3.nx1 ok3 (sl2.mono g3))
    | true =>
      refine iteT ⟨fun σ' H' => ∃ Z B' ρ' τ' h', Ok X.K Z B' ρ' H' h' ∧ SlOk X.K B' ρ' σ' τ' ∧ PostS X.K Z W B' ρ' D (mWhile t mbd m τ' h'), fun σ' H' h => ⟨m, Nat.lt_succ_self m, h⟩, Z, B3, ρ3, τ2, h3, ok3, sl2.mono g3, ?_⟩
      revert q3
      show PostS X.K Z W B3 ρ3 D (match mbd τ2 h3 with
        | some (.nx τ2 h2) => mWhile t mbd m τ2 h2
        | some (.ct τ2 h2) => mWhile t mbd m τ2 h2
        | some (.bk τ2 h2) => some (.nx τ2 h2)
        | r => r) → _
      cases mbd τ2 h3 with
      | none => exact fun h => h
      | some r =>
        cases r with
        | nx τ4 h4 => exact fun post σ5 B5 ρ5 H5 ok5 sl5 g5 => ⟨Z, B5, ρ5, τ4, h4, ok5, sl5, post.from g5⟩
        | ct τ4 h4 => exact fun post σ5 B5 ρ5 H5 ok5 sl5 g5 => ⟨Z, B5, ρ5, τ4, h4, ok5, sl5, post.from g5⟩
        | bk τ4 h4 => exact fun post => post
        | rt w h4 => exact fun post => post
        | ex x τ4 h4 => exact fun post => post⟩
end
end Tq

/-! Tq6: comprehensions. -/
namespace Tq
open PySem PySem.Spec PyProof.Rows L2

def wipeT (τ : Sl) : List Nat → Sl
  | [] => τ
  | v :: vs => (wipeT τ vs).set v none
theorem wipeT_length (τ : Sl) : ∀ vs : List Nat, (wipeT τ vs).length = τ.length
  | [] => rfl
  | v :: vs => by unfold wipeT; rw [List.length_set, wipeT_length τ vs]
theorem wipe_get (σ : L2.St) : ∀ (vs : List Nat) (i : Nat), (L2.wipe σ vs)[i]? = if i ∈ vs ∧ i < σ.length then some none else σ[i]?
  | [], i => by simp [L2.wipe]
  | v :: vs, i => by
    unfold L2.wipe
    rw [List.getElem?_set, wipe_get σ vs i, L2.wipe_length]
    by_cases e : v = i
    · subst e
      by_cases hl : v < σ.length
      · simp [hl]
      · simp [hl]
    · rw [if_neg e]
      simp [List.mem_cons, Ne.symm e]
theorem wipeT_get (τ : Sl) : ∀ (vs : List Nat) (i : Nat), (wipeT τ vs)[i]? = if i ∈ vs ∧ i < τ.length then some none else τ[i]?
  | [], i => by simp [wipeT]
  | v :: vs, i => by
    unfold wipeT
    rw [List.getElem?_set, wipeT_get τ vs i, wipeT_length]
    by_cases e : v = i
    · subst e
      by_cases hl : v < τ.length
      · simp [hl]
      · simp [hl]
    · rw [if_neg e]
      simp [List.mem_cons, Ne.symm e]
theorem wipe_apart {σ1 σ2 : L2.St} {vs : List Nat} (h : Apart vs σ1 σ2) : L2.wipe σ2 vs = L2.wipe σ1 vs := by
  apply List.ext_getElem?
  intro i
  rw [wipe_get, wipe_get, h.1]
  by_cases z : i ∈ vs
  · by_cases hl : i < σ1.length
    · rw [if_pos ⟨z, hl⟩, if_pos ⟨z, hl⟩]
    · have h1 := h.1
      rw [if_neg fun y => hl y.2, if_neg fun y => hl y.2, List.getElem?_eq_none (by omega : σ2.length ≤ i), List.getElem?_eq_none (by omega : σ1.length ≤ i)]
  · rw [if_neg fun y => z y.1, if_neg fun y => z y.1, h.2 i z]
theorem wipe_wipe (σ : L2.St) (vs : List Nat) : L2.wipe (L2.wipe σ vs) vs = L2.wipe σ vs := by
  apply List.ext_getElem?
  intro i
  rw [wipe_get, wipe_get, L2.wipe_length]
  by_cases z : i ∈ vs ∧ i < σ.length
  · rw [if_pos z]
    try rw [if_pos z]
  · rw [if_neg z]
    try rw [if_neg z]
theorem SlOk.wipe {K : PySem.W.Frag} {B : Hp} {ρ : Nat → Option Addr} {σ : L2.St} {τ : Sl} (s : SlOk K B ρ σ τ) (vs : List Nat) : SlOk K B ρ (L2.wipe σ vs) (wipeT τ vs) := by
  refine ⟨by rw [L2.wipe_length, wipeT_length]; exact s.ln, fun i w e => ?_⟩
  rw [wipeT_get] at e
  split at e
  · cases e
  · rename_i hn
    rw [wipe_get, if_neg (by rw [s.ln]; exact hn)]
    exact s.at_ i w e

/-! ### an object of the reading's own, that stands aside -/
section
variable {K : PySem.W.Frag} {Z B H : Hp} {ρ : Nat → Option Addr} {h : Hq} {q : Addr} {o o2 : HO}
theorem CeAt.zs {Z2 : Hp} {a : Addr} {c : O} (x : CeAt K Z B H ρ a c) (hz : ∀ b, Z b = none → H b ≠ none → Z2 b = none) (ha : H a ≠ none) : CeAt K Z2 B H ρ a c := by
  cases x with
  | lst e1 e2 e3 e4 => exact .lst e1 e2 e3 (hz _ e4 ha)
  | nd e1 e2 e3 => exact .nd e1 e2 fun b hb => ⟨(e3 b hb).1, hz b (e3 b hb).2 (e1.own_or.2.2.1 b hb)⟩
  | dead e => exact .dead (hz _ e ha)
/-- a new object stands aside -/
theorem Ok.aside (ok : Ok K Z B ρ H h) (hq : H q = none) : Ok K (upd Z q o) B ρ (upd H q o) h := by
  have ok2 := ok.grow (H' := upd H q o) fun b u e => by rw [upd_ne (ne_of_none e hq)]; exact e
  refine ⟨ok2.ex, fun b u e => ?_, fun k c e => ?_, ok2.nj, ok2.al, ok2.up⟩
  · by_cases z : b = q
    · subst z; rw [upd_same] at e ⊢; exact e
    · rw [upd_ne z] at e; exact ok2.zz b u e
  · obtain ⟨a, h1, h2⟩ := ok.ce k c e
    have ha := ok.al k a h1
    obtain ⟨a', h1', h3⟩ := ok2.ce k c e
    rw [h1] at h1'
    cases h1'
    refine ⟨a, h1, ?_⟩
    have n : a ≠ q := fun z => ha (by rw [z]; exact hq)
    cases h2 with
    | lst e1 e2 e3 e4 => exact .lst (by rw [upd_ne n]; exact e1) e2 e3 (by rw [upd_ne n]; exact e4)
    | nd e1 e2 e3 =>
      have nb : ∀ b ∈ _, b ≠ q := fun b hb z => e1.own_or.2.2.1 b hb (by rw [z]; exact hq)
      exact .nd (e1.to fun b hb u e => by rw [upd_ne (nb b hb)]; exact e) e2 fun b hb => ⟨(e3 b hb).1, by rw [upd_ne (nb b hb)]; exact (e3 b hb).2⟩
    | dead e1 => exact .dead (by rw [upd_ne n]; exact e1)
/-- it turns -/
theorem Ok.turn (ok : Ok K (upd Z q o) B ρ H h) (hb : B q = none) (hz : Z q = none) : Ok K (upd Z q o2) B ρ (upd H q o2) h := by
  have hq : H q = some o := ok.zz q o upd_same
  refine ⟨fun b u e => by rw [upd_ne (ne_of_none e hb)]; exact ok.ex b u e, fun b u e => ?_, fun k c e => ?_, ok.nj, fun k a e => ?_, ok.up⟩
  · by_cases z : b = q
    · subst z; rw [upd_same] at e ⊢; exact e
    · rw [upd_ne z] at e ⊢
      exact ok.zz b u (by rw [upd_ne z]; exact e)
  · obtain ⟨a, h1, h2⟩ := ok.ce k c e
    refine ⟨a, h1, ?_⟩
    have ne : ∀ {b : Addr}, upd Z q o b = none → b ≠ q ∧ Z b = none := fun {b} e => by
      have z : b ≠ q := fun z => by rw [z, upd_same] at e; cases e
      rw [upd_ne z] at e
      exact ⟨z, e⟩
    cases h2 with
    | lst e1 e2 e3 e4 => exact .lst (by rw [upd_ne (ne e4).1]; exact e1) e2 e3 (by rw [upd_ne (ne e4).1]; exact (ne e4).2)
    | nd e1 e2 e3 =>
      exact .nd (e1.to fun b hb u e => by rw [upd_ne (ne (e3 b hb).2).1]; exact e) e2 fun b hb => ⟨(e3 b hb).1, by rw [upd_ne (ne (e3 b hb).2).1]; exact (ne (e3 b hb).2).2⟩
    | dead e1 => exact .dead (by rw [upd_ne (ne e1).1]; exact (ne e1).2)
  · by_cases z : a = q
    · subst z; rw [upd_same]; simp
    · rw [upd_ne z]; exact ok.al k a e
theorem Gr.aside {B' : Hp} {ρ' : Nat → Option Addr} (g : Gr (upd Z q o) B ρ B' ρ') (hz : Z q = none) : Gr Z B ρ B' ρ' := ⟨g.bb, g.rr, fun a e e' => by
  have z := g.fz a e e'
  by_cases y : a = q
  · subst y; exact hz
  · rwa [upd_ne y] at z⟩
theorem Ok.bare (ok : Ok K (upd Z q o) B ρ H h) (hz : Z q = none) : Ok K Z B ρ H h := ⟨ok.ex, fun b u e => ok.zz b u (by rw [upd_ne (ne_of_none e hz)]; exact e), fun k c e => by
  obtain ⟨a, h1, h2⟩ := ok.ce k c e
  refine ⟨a, h1, h2.zs (fun b e _ => ?_) (ok.al k a h1)⟩
  by_cases z : b = q
  · rw [z]; exact hz
  · rwa [upd_ne z] at e, ok.nj, ok.al, ok.up⟩
/-- it becomes a cell, or data -/
theorem Ok.adopt {W : XK} {Q : VK} {vs : List V} {ws : List A} {o : Bool} (ok : Ok K (upd Z q (.lst vs)) B ρ H h) (hb : B q = none) (hz : Z q = none) (r : RAL K B ρ vs ws) (p : Post K Z W B ρ (fun w _ B' ρ' H' => ∀ v, RA K B' ρ' v w → Q v H') (mkL o ws h)) : Q (.ref q) H := by
  have hq : H q = some (.lst vs) := ok.zz q _ upd_same
  have fresh : ∀ k a, ρ k = some a → a ≠ q := fun k a e z => by
    have hk : k < h.length := by
      apply Classical.byContradiction
      intro y
      rw [ok.up k (by omega)] at e
      cases e
    obtain ⟨c, hc⟩ : ∃ c, h[k]? = some c := ⟨_, List.getElem?_eq_getElem hk⟩
    obtain ⟨a', h1, h2⟩ := ok.ce k c hc
    rw [e] at h1
    cases h1
    have key : upd Z q (.lst vs) a = none := by
      cases h2 with
      | lst _ _ _ e4 => exact e4
      | nd e1 _ e3 => exact (e3 _ e1.own_or.1).2
      | dead e4 => exact e4
    rw [z, upd_same] at key
    cases key
  have ok0 := ok.bare hz
  have own_ne : ∀ (k : Nat) (c : O) (a : Addr), h[k]? = some c → ρ k = some a → CeAt K Z (upd B q (.lst vs)) H ρ a c ∧ CeAt K Z B H ρ a c := fun k c a e ea => by
    obtain ⟨a', h1, h2⟩ := ok.ce k c e
    rw [ea] at h1
    cases h1
    have ne : ∀ {b : Addr}, upd Z q (.lst vs) b = none → b ≠ q ∧ Z b = none := fun {b} e => by
      have z : b ≠ q := fun z => by rw [z, upd_same] at e; cases e
      rw [upd_ne z] at e
      exact ⟨z, e⟩
    have gg : Gr Z B ρ (upd B q (.lst vs)) ρ := ⟨fun a u e => by rw [upd_ne (ne_of_none e hb)]; exact e, fun _ _ e => e, fun a e e' => by
      by_cases z : a = q
      · rw [z]; exact hz
      · rw [upd_ne z] at e'; exact absurd e e'⟩
    cases h2 with
    | lst e1 e2 e3 e4 => exact ⟨.lst e1 (e2.mono gg) (by rw [upd_ne (ne e4).1]; exact e3) (ne e4).2, .lst e1 e2 e3 (ne e4).2⟩
    | nd e1 e2 e3 => exact ⟨.nd e1 (e2.mono gg) fun b hb => ⟨by rw [upd_ne (ne (e3 b hb).2).1]; exact (e3 b hb).1, (ne (e3 b hb).2).2⟩, .nd e1 e2 fun b hb => ⟨(e3 b hb).1, (ne (e3 b hb).2).2⟩⟩
    | dead e1 => exact ⟨.dead (ne e1).2, .dead (ne e1).2⟩
  unfold mkL at p
  split at p
  · split at p
    · have gg : Gr Z B ρ B (fun k => if k = h.length then some q else ρ k) := ⟨fun _ _ e => e, fun k a e => by
        have : k ≠ h.length := fun z => by rw [ok.up k (by omega)] at e; cases e
        show (if k = h.length then some q else ρ k) = some a
        rw [if_neg this]; exact e, fun a e e' => absurd e e'⟩
      refine p B (fun k => if k = h.length then some q else ρ k) H ⟨ok0.ex, ok0.zz, fun k c e => ?_, fun i j a e1 e2 => ?_, fun k a e => ?_, fun k e => ?_⟩ gg (.ref q) (.r (if_pos rfl))
      · by_cases z : k = h.length
        · subst z
          rw [List.getElem?_append_right (by omega), Nat.sub_self] at e
          cases e
          exact ⟨q, if_pos rfl, .lst hq (r.mono gg) hb hz⟩
        · have hk : k < h.length := by
            have := (List.getElem?_eq_some_iff.mp e).1
            rw [List.length_append, List.length_singleton] at this
            omega
          rw [List.getElem?_append_left hk] at e
          obtain ⟨a, h1, _⟩ := ok.ce k c e
          refine ⟨a, gg.rr k a h1, ?_⟩
          cases (own_ne k c a e h1).2 with
          | lst e1 e2 e3 e4 => exact .lst e1 (e2.mono gg) e3 e4
          | nd e1 e2 e3 => exact .nd e1 (e2.mono gg) e3
          | dead e1 => exact .dead e1
      · have e1 : (if i = h.length then some q else ρ i) = some a := e1
        have e2 : (if j = h.length then some q else ρ j) = some a := e2
        split at e1 <;> split at e2
        · omega
        · cases e1; exact absurd rfl (fresh _ _ e2)
        · cases e2; exact absurd rfl (fresh _ _ e1)
        · exact ok.nj i j a e1 e2
      · have e : (if k = h.length then some q else ρ k) = some a := e
        split at e
        · cases e; rw [hq]; simp
        · exact ok.al k a e
      · rw [List.length_append, List.length_singleton] at e
        show (if k = h.length then some q else ρ k) = none
        rw [if_neg (by omega)]
        exact ok.up k (by omega)
    · cases e : allD ws with
      | none => rw [e] at p; exact p.elim
      | some ds =>
        rw [e] at p
        cases allD_of e
        have gg : Gr Z B ρ (upd B q (.lst vs)) ρ := ⟨fun a u e => by rw [upd_ne (ne_of_none e hb)]; exact e, fun _ _ e => e, fun a e e' => by
          by_cases z : a = q
          · rw [z]; exact hz
          · rw [upd_ne z] at e'; exact absurd e e'⟩
        refine p (upd B q (.lst vs)) ρ H ⟨fun b u e => ?_, ok0.zz, fun k c e => ?_, ok.nj, ok.al, ok.up⟩ gg (.ref q) (.d (.lst upd_same ((ral_rpl r).mono gg.bb)))
        · by_cases z : b = q
          · subst z; rw [upd_same] at e; rw [hq]; exact e
          · rw [upd_ne z] at e; exact ok.ex b u e
        · obtain ⟨a, h1, _⟩ := ok.ce k c e
          exact ⟨a, h1, (own_ne k c a e h1).1⟩
  · exact p.elim
end

/-! ### comprehensions -/
def compM (nx : Nxt) (g : A → Sl → Hq → Option Sl) (mt : E Bool) (me : E A) (τw : Sl) : Nat → Nat → Hq → Option (List A × Hq)
  | 0, _, _ => none
  | f + 1, i, h => match nx i h with
    | some none => some ([], h)
    | some (some w) => (match g w τw h with
      | some τ1 => (match mt τ1 h with
        | some (.ok true h1) => (match me τ1 h1 with
          | some (.ok a h2) => (match compM nx g mt me τw f (i + 1) h2 with | some (r, h3) => some (a :: r, h3) | none => none)
          | _ => none)
        | some (.ok false h1) => compM nx g mt me τw f (i + 1) h1
        | _ => none)
      | none => none)
    | none => none
def mYes : E Bool := fun _ h => some (.ok true h)
def mLC (o : Bool) (mi : E Nxt) (g : A → Sl → Hq → Option Sl) (mt : E Bool) (me : E A) (vs : List Nat) : E A := fun τ h => bd (mi τ h) fun nx h1 => match compM nx g mt me (wipeT τ vs) FU 0 h1 with
  | some (ws, h2) => if ws.length ≤ LIM then mkL o ws h2 else none
  | none => none
structure RTs (X : Cx) (W : WX) (ifs : List Expr) (m : E Bool) : Prop where
  pt : PTs X ifs (tT X.K W m)
theorem pts_imp {X : Cx} {e : List Expr} {t t' : TT} (h : PTs X e t) (i : ∀ σ H Q, t' σ H Q → t σ H Q) : PTs X e t' := ⟨fun pins s σ H Q I q => h.run pins s σ H Q I (i _ _ _ q)⟩
theorem rts_nil {X : Cx} {W : WX} : RTs X W [] mYes := ⟨pts_imp pts_nil fun σ H Q q => by
  obtain ⟨Z, B, ρ, τ, h, ok, sl, q⟩ := q
  exact q.now ok⟩
theorem rts_one {X : Cx} {W : WX} {c : Expr} {m : E Bool} (h : RT X W c m) : RTs X W [c] m := ⟨pts_one h.pt⟩
abbrev W0 : WX := fun _ _ _ _ => False
/-- what stays true in the making of the list -/
theorem lc_reads {X : Cx} {vs : List Nat} {g : A → Sl → Hq → Option Sl} {mt : E Bool} {me : E A} {gg : TG} {tt : TT} {te : TE} {o : Bool}
    (hgg : ∀ v σ H Q, (∃ Z B ρ w τ τ' h, Ok X.K Z B ρ H h ∧ SlOk X.K B ρ σ τ ∧ RA X.K B ρ v w ∧ g w τ h = some τ' ∧ ∀ σ', SlOk X.K B ρ σ' τ' → Apart vs σ σ' → Q σ' H) → gg v σ H Q)
    (htt : ∀ σ H Q, tT X.K W0 mt σ H Q → tt σ H Q) (hte : ∀ σ H Q, tE X.K W0 me σ H Q → te σ H Q)
    {σ : L2.St} {Z B1 H1 : Hp} {ρ1 : Nat → Option Addr} {h1 h2 : Hq} {τ : Sl} {nx : Nxt} {J : It} {ws : List A} {Q : VK} {W : XK} (ok1 : Ok X.K Z B1 ρ1 H1 h1) (sl1 : SlOk X.K B1 ρ1 σ τ) (wk : Walk X.K B1 ρ1 J nx)
    (e : compM nx g mt me (wipeT τ vs) FU 0 h1 = some (ws, h2)) (hl : ws.length ≤ LIM) (k : Post X.K Z W B1 ρ1 (fun w _ B' ρ' H' => ∀ v, RA X.K B' ρ' v w → Q v H') (mkL o ws h2)) :
    ∀ D, H1 D = none → ∃ Wv : Nat → Nat → Hp → Prop, (∃ m, Wv 0 m (upd H1 D (.lst []))) ∧ ∀ i m H, Wv i m H →
  (J.stop i H ∧ Q (.ref D) H) ∨ (J.go i H ∧ ∃ Nx : Hp → Prop, (∀ H', Nx H' → ∃ m', m' < m ∧ Wv (i + 1) m' H') ∧ ∀ x H', J.yld i H x H' → gg x (L2.wipe σ vs) H' fun σ2 H2 => L2.wipe σ2 vs = L2.wipe σ vs ∧ tt σ2 H2 fun b H3 =>
    if b = true then te σ2 H3 fun y H4 => ∃ acc, H4 D = some (.lst acc) ∧ acc.length < sizeLine ∧ Nx (upd H4 D (.lst (acc ++ [y]))) else Nx H3) := by
  intro D hD
  have hzD : Z D = none := by
    cases z : Z D with
    | none => rfl
    | some u => rw [ok1.zz D u z] at hD; cases hD
  have hbD : B1 D = none := by
    cases z : B1 D with
    | none => rfl
    | some u => rw [ok1.ex D u z] at hD; cases hD
  refine ⟨fun i m H' => ∃ B' ρ' h' acc as rest, Ok X.K (upd Z D (.lst acc)) B' ρ' H' h' ∧ Gr Z B1 ρ1 B' ρ' ∧ B' D = none ∧ RAL X.K B' ρ' acc as ∧
      compM nx g mt me (wipeT τ vs) m i h' = some (rest, h2) ∧ ws = as ++ rest,
    ⟨FU, B1, ρ1, h1, [], [], ws, ok1.aside hD, Gr.refl, hbD, .nil, e, rfl⟩, ?_⟩
  rintro i m H2 ⟨B2, ρ2, h', acc, as, rest, ok2, g2, hb2, ra, ec, ew⟩
  cases m with
  | zero => cases ec
  | succ m =>
    obtain ⟨stop, go⟩ := wk _ B2 ρ2 H2 h' i ok2 g2.wk
    unfold compM at ec
    split at ec
    · rename_i e1
      cases ec
      rw [List.append_nil] at ew
      subst ew
      exact .inl ⟨stop e1, ok2.adopt hb2 hzD ra (k.from g2)⟩
    · rename_i w e1
      obtain ⟨k1, k2⟩ := go w e1
      refine .inr ⟨k1, fun H' => ∃ B' ρ' h' acc as rest, Ok X.K (upd Z D (.lst acc)) B' ρ' H' h' ∧ Gr Z B1 ρ1 B' ρ' ∧ B' D = none ∧ RAL X.K B' ρ' acc as ∧
        compM nx g mt me (wipeT τ vs) m (i + 1) h' = some (rest, h2) ∧ ws = as ++ rest, fun H' q => ⟨m, Nat.lt_succ_self m, q⟩, fun x H3 y => ?_⟩
      obtain ⟨B3, rx, ok3, g3⟩ := k2 x H3 y
      have keep : ∀ {B' : Hp} {ρ' : Nat → Option Addr} {Ba : Hp} {ρa : Nat → Option Addr}, Ba D = none → Gr (upd Z D (.lst acc)) Ba ρa B' ρ' → B' D = none := fun {B' ρ' Ba ρa} hn g => by
        cases z : B' D with
        | none => rfl
        | some u =>
          have := g.fz D hn (by rw [z]; simp)
          rw [upd_same] at this
          cases this
      have hb3 := keep hb2 g3
      have g13 := g2.trans (g3.aside hzD)
      split at ec
      · rename_i τ3 e3
        refine hgg _ _ _ _ ⟨_, B3, ρ2, w, wipeT τ vs, τ3, h', ok3, (sl1.mono g13).wipe vs, rx, e3, fun σ4 sl4 a4 => ⟨(wipe_apart a4).trans (wipe_wipe σ vs), htt _ _ _ ⟨_, B3, ρ2, τ3, h', ok3, sl4, ?_⟩⟩⟩
        split at ec
        · rename_i h5 e5
          rw [e5]
          intro B5 ρ5 H5 ok5 g5
          refine iteT (hte _ _ _ ⟨_, B5, ρ5, τ3, h5, ok5, sl4.mono g5, ?_⟩)
          have hb5 := keep hb3 g5
          split at ec
          · rename_i a h6 e6
            rw [e6]
            intro B6 ρ6 H6 ok6 g6 v rv
            have hb6 := keep hb5 g6
            split at ec
            · rename_i r h7 e7
              cases ec
              have g36 := (g5.trans g6).aside hzD
              refine ⟨acc, ok6.zz D _ upd_same, ?_, B6, ρ6, h6, acc ++ [v], as ++ [a], r, ok6.turn hb6 hzD, g13.trans g36, hb6, (ra.mono ((g3.aside hzD).trans g36)).append (.cons rv .nil), e7, by rw [ew, List.append_assoc]; rfl⟩
              rw [ra.length, ← lim_eq]
              rw [ew, List.length_append, List.length_cons] at hl
              omega
            · cases ec
          · cases ec
        · rename_i h5 e5
          rw [e5]
          intro B5 ρ5 H5 ok5 g5
          exact iteF ⟨B5, ρ5, h5, acc, as, rest, ok5, g13.trans (g5.aside hzD), keep hb3 g5, ra.mono ((g3.aside hzD).trans (g5.aside hzD)), ec, ew⟩
        · cases ec
      · cases ec
    · cases ec
section
variable {X : Cx} {W : WX} {tg iter elt : Expr} {ifs : List Expr} {scope : Scope} {mi : E Nxt} {g : A → Sl → Hq → Option Sl} {mt : E Bool} {me : E A} {pos : Pos}
theorem rx_lc (o : Bool) (hc : X.calm = true) (hN : X.N.Nodup) (own : List (Str × Nat)) (hi : RI X W tg iter mi)
    (hg : ∀ (s : Shared) (H : Hp) (C : Addr) (cl : List (Str × Addr)) (fp : List Addr), RG (X.blk s H scope (compEnvC scope cl C X.env) fp) (own.map (·.2)) tg g) (ht : ∀ (s : Shared) (H : Hp) (C : Addr) (cl : List (Str × Addr)) (fp : List Addr), RTs (X.blk s H scope (compEnvC scope cl C X.env) fp) W0 ifs mt)
    (he : ∀ (s : Shared) (H : Hp) (C : Addr) (cl : List (Str × Addr)) (fp : List Addr), RX (X.blk s H scope (compEnvC scope cl C X.env) fp) W0 elt me) (ok : BlkOk X.N X.env.scope scope own)
    (hs : ∀ x, foldedSetIterable iter X.env x = pure x := by intro _; rfl) : RX X W (.ListComp elt [⟨tg, iter, ifs, 0⟩] scope pos) (mLC o mi g mt me (own.map (·.2))) := ⟨pe_imp (pe_lc hc hN hi.pi ok (g := fun v σ H Q => ∃ Z B ρ w τ τ' h, Ok X.K Z B ρ H h ∧ SlOk X.K B ρ σ τ ∧ RA X.K B ρ v w ∧ g w τ h = some τ' ∧ ∀ σ', SlOk X.K B ρ σ' τ' → Apart (own.map (·.2)) σ σ' → Q σ' H) (tt := tT X.K W0 mt) (te := tE X.K W0 me)
    (fun s H C cl fp => (hg s H C cl fp).pg) (fun s H C cl fp => (ht s H C cl fp).pt) (fun s H C cl fp => (he s H C cl fp).pe) hs) fun σ H Q q => by
  obtain ⟨Z, B, ρ, τ, h, okk, sl, q⟩ := q
  unfold mLC at q
  refine ⟨Z, B, ρ, τ, h, okk, sl, q.bd.imp fun nx h1 B1 ρ1 H1 ok1 g1 q1 J wk => ?_⟩
  split at q1
  · rename_i ws h2 e1
    split at q1
    · rename_i hl
      exact lc_reads (X := X) (fun _ _ _ _ h => h) (fun _ _ _ h => h) (fun _ _ _ h => h) ok1 (sl.mono g1) wk e1 hl q1
    · exact q1.elim
  · exact q1.elim⟩
theorem rs_setLc (o : Bool) {i : Nat} {y : Str} {py spos : Pos} (hc : X.calm = true) (hN : X.N.Nodup) (own : List (Str × Nat)) (hi : RI X W tg iter mi)
    (hg : ∀ (s : Shared) (H : Hp) (C : Addr) (cl : List (Str × Addr)) (fp : List Addr), RG (X.blk s H scope (compEnvC scope cl C X.env) fp) (own.map (·.2)) tg g) (ht : ∀ (s : Shared) (H : Hp) (C : Addr) (cl : List (Str × Addr)) (fp : List Addr), RTs (X.blk s H scope (compEnvC scope cl C X.env) fp) W0 ifs mt)
    (he : ∀ (s : Shared) (H : Hp) (C : Addr) (cl : List (Str × Addr)) (fp : List Addr), RX (X.blk s H scope (compEnvC scope cl C X.env) fp) W0 elt me) (ok : BlkOk X.N X.env.scope scope own)
    (hsw : swapsWith (.ListComp elt [⟨tg, iter, ifs, 0⟩] scope pos) (some (.Name y py)) spos.line X.env = pure true) (hy : X.N[i]? = some y := by rfl) (hyl : X.env.scope.names.lookup y = some .local := by rfl)
    (hs : ∀ x, foldedSetIterable iter X.env x = pure x := by intro _; rfl) : RS X W (.Assign [.Name y py] (.ListComp elt [⟨tg, iter, ifs, 0⟩] scope pos) spos) (mSet i (mLC o mi g mt me (own.map (·.2)))) := ⟨ps_imp (ps_setLc hc hN hy hyl hsw hi.pi ok (g := fun v σ H Q => ∃ Z B ρ w τ τ' h, Ok X.K Z B ρ H h ∧ SlOk X.K B ρ σ τ ∧ RA X.K B ρ v w ∧ g w τ h = some τ' ∧ ∀ σ', SlOk X.K B ρ σ' τ' → Apart (own.map (·.2)) σ σ' → Q σ' H) (tt := tT X.K W0 mt) (te := tE X.K W0 me)
    (fun s H C cl fp => (hg s H C cl fp).pg) (fun s H C cl fp => (ht s H C cl fp).pt) (fun s H C cl fp => (he s H C cl fp).pe) hs) fun D σ H q => by
  obtain ⟨Z, B, ρ, τ, h, okk, sl, q⟩ := q
  have q2 := q.sb sl
  unfold mLC at q2
  refine ⟨Z, B, ρ, τ, h, okk, sl, q2.bd.imp fun nx h1 B1 ρ1 H1 ok1 g1 q1 J wk => ?_⟩
  split at q1
  · rename_i ws h2 e1
    split at q1
    · rename_i hl
      refine lc_reads (X := X) (Q := fun x H1 => gName i x σ H1 D.nx) (fun _ _ _ _ h => h) (fun _ _ _ h => h) (fun _ _ _ h => h) ok1 (sl.mono g1) wk e1 hl (q1.imp fun w h3 B3 ρ3 H3 ok3 g3 q3 v rv => ?_)
      exact q3.nx1 ok3 (((sl.mono g1).mono g3).put rv)
    · exact q1.elim
  · exact q1.elim⟩
end
end Tq

/-! Tq7: cells that turn: lists, fields, dicts. -/
namespace Tq
open PySem PySem.Spec PyProof.Rows L2
theorem ps_or {X : Cx} {e : Stmt} {t t' : TS} (h : PS X e t) (h' : PS X e t') : PS X e fun D σ H => t D σ H ∨ t' D σ H := ⟨fun pins s σ H D I q => q.elim (h.run pins s σ H D I) (h'.run pins s σ H D I)⟩
section
variable {K : PySem.W.Frag} {Z B H : Hp} {ρ : Nat → Option Addr} {h : Hq} {v : V} {k : Nat} {ws : List A}
theorem cell_lst (ok : Ok K Z B ρ H h) (r : RA K B ρ v (.r k)) (e : h[k]? = some (.lst ws)) : ∃ a vs, v = .ref a ∧ ρ k = some a ∧ H a = some (.lst vs) ∧ RAL K B ρ vs ws ∧
    ∀ vs' ws', RAL K B ρ vs' ws' → Ok K Z B ρ (upd H a (.lst vs')) (h.set k (.lst ws')) := by
  cases r with
  | r hr =>
    obtain ⟨a, h1, h2⟩ := ok.ce _ _ e
    rw [hr] at h1
    cases h1
    cases h2 with
    | lst q1 q2 q3 q4 => exact ⟨_, _, rfl, hr, q1, q2, fun vs' ws' r' => ok.mut e hr (fun z y => by rw [q1] at y; cases y) q3 q4 (.lst upd_same r' q3 q4)⟩
end
/-! ### list methods -/
def gApp : G2 := fun a w h => match a with
  | .r k => (match h[k]? with | some (.lst ws) => if ws.length < LIM then some (.ok (.d .non) (h.set k (.lst (ws ++ [w])))) else none | _ => none)
  | _ => none
theorem og_app {K : PySem.W.Frag} : Op2 K (fun x y H Q => rAppend x [y] H Q) gApp := by
  intro Z B ρ H h x y a b W Q ok rx ry q
  unfold gApp at q
  split at q
  · split at q
    · rename_i ws e
      split at q
      · rename_i hl
        obtain ⟨p, vs, rfl, hr, h1, r1, up⟩ := cell_lst ok rx e
        exact ⟨p, vs, y, rfl, rfl, h1, by rw [r1.length, ← lim_eq]; exact hl, q.now (up _ _ (r1.append (.cons ry .nil))) |> fun z => q B ρ _ (up _ _ (r1.append (.cons ry .nil))) Gr.refl _ (.d .non)⟩
      · exact q.elim
    · exact q.elim
  · exact q.elim
def gExt : G2 := fun a w h => match a with
  | .r k => (match h[k]? with
    | some (.lst ws) => (match lstOf h w with
      | some us => if ws.length + us.length ≤ LIM then some (.ok (.d .non) (h.set k (.lst (ws ++ us)))) else none
      | none => none)
    | _ => none)
  | _ => none
theorem og_ext {K : PySem.W.Frag} : Op2 K (fun x y H Q => rExtend x [y] H Q) gExt := by
  intro Z B ρ H h x y a b W Q ok rx ry q
  unfold gExt at q
  split at q
  · split at q
    · rename_i ws e
      split at q
      · rename_i us e2
        split at q
        · rename_i hl
          obtain ⟨p, vs, rfl, hr, h1, r1, up⟩ := cell_lst ok rx e
          obtain ⟨p', zs, rfl, h2, r2⟩ := lstOf_ra ok ry e2
          exact ⟨p, p', vs, zs, rfl, rfl, h1, h2, by rw [r1.length, r2.length, ← lim_eq]; exact hl, q B ρ _ (up _ _ (r1.append r2)) Gr.refl _ (.d .non)⟩
        · exact q.elim
      · exact q.elim
    · exact q.elim
  · exact q.elim
def gRev : G1 := fun a h => match a with
  | .r k => (match h[k]? with | some (.lst ws) => some (.ok (.d .non) (h.set k (.lst ws.reverse))) | _ => none)
  | _ => none
theorem og_rev {K : PySem.W.Frag} : Op1 K (fun x H Q => rReverse x [] H Q) gRev := by
  intro Z B ρ H h x a W Q ok rx q
  unfold gRev at q
  split at q
  · split at q
    · rename_i ws e
      obtain ⟨p, vs, rfl, hr, h1, r1, up⟩ := cell_lst ok rx e
      exact ⟨p, vs, rfl, rfl, h1, q B ρ _ (up _ _ r1.reverse) Gr.refl _ (.d .non)⟩
    · exact q.elim
  · exact q.elim
def gPop : G1 := fun a h => match a with
  | .r k => (match h[k]? with | some (.lst ws) => (match ws[ws.length - 1]? with | some w => some (.ok w (h.set k (.lst ws.dropLast))) | none => none) | _ => none)
  | _ => none
theorem RAL.dropLast {K : PySem.W.Frag} {B : Hp} {ρ : Nat → Option Addr} {vs : List V} {ws : List A} (r : RAL K B ρ vs ws) : RAL K B ρ vs.dropLast ws.dropLast := by
  rw [List.dropLast_eq_take, List.dropLast_eq_take, r.length]
  exact r.take _
theorem og_pop {K : PySem.W.Frag} : Op1 K (fun x H Q => rPop x [] H Q) gPop := by
  intro Z B ρ H h x a W Q ok rx q
  unfold gPop at q
  split at q
  · split at q
    · rename_i ws e
      split at q
      · rename_i w e2
        obtain ⟨p, vs, rfl, hr, h1, r1, up⟩ := cell_lst ok rx e
        obtain ⟨v, h2, r2⟩ := r1.get e2
        exact ⟨p, vs, v, rfl, rfl, h1, by rw [r1.length]; exact h2, q B ρ _ (up _ _ r1.dropLast) Gr.refl _ r2⟩
      · exact q.elim
    · exact q.elim
  · exact q.elim
section
variable {X : Cx} {W : WX} {a b : Expr} {ma mb : E A} {pos apos : Pos}
theorem rx_append (ha : RX X W a ma) (hb : RX X W b mb) (hbase : attributeBase a "append" X.env (eval a X.env) = eval a X.env := by rfl)
    (hfew : ((backTo pos (starEach (b :: []) X.env)).all (fun x => !x.1) && (backToKw pos (keywordEach [] X.env)).all (fun x => x.1.isSome)
      && decide ((b :: []).length + ([] : List Keyword).length + (if ([] : List Keyword).isEmpty then 0 else 1) < 30)) = true := by rfl)
    (hline : (apos.endLine == pos.line) = true := by rfl) (hs : starEach (b :: []) X.env = (false, eval b X.env) :: starEach [] X.env := by rfl) : RX X W (.Call (.Attribute a "append" apos) [b] [] pos) (mM1 tokL gApp ma mb) :=
  rx_m1 F.plainAttrs_list F.slot_list_append F.type_list_append mt_append tokL tokL_ty og_app ha hb hbase hfew hline hs
theorem rx_extend (ha : RX X W a ma) (hb : RX X W b mb) (hbase : attributeBase a "extend" X.env (eval a X.env) = eval a X.env := by rfl)
    (hfew : ((backTo pos (starEach (b :: []) X.env)).all (fun x => !x.1) && (backToKw pos (keywordEach [] X.env)).all (fun x => x.1.isSome)
      && decide ((b :: []).length + ([] : List Keyword).length + (if ([] : List Keyword).isEmpty then 0 else 1) < 30)) = true := by rfl)
    (hline : (apos.endLine == pos.line) = true := by rfl) (hs : starEach (b :: []) X.env = (false, eval b X.env) :: starEach [] X.env := by rfl) : RX X W (.Call (.Attribute a "extend" apos) [b] [] pos) (mM1 tokL gExt ma mb) :=
  rx_m1 F.plainAttrs_list F.slot_list_extend F.type_list_extend mt_extend tokL tokL_ty og_ext ha hb hbase hfew hline hs
theorem rx_reverse (ha : RX X W a ma) (hbase : attributeBase a "reverse" X.env (eval a X.env) = eval a X.env := by rfl) (hline : (apos.endLine == pos.line) = true := by rfl) : RX X W (.Call (.Attribute a "reverse" apos) [] [] pos) (mM0 tokL gRev ma) :=
  rx_m0 F.plainAttrs_list F.slot_list_reverse F.type_list_reverse mt_reverse tokL tokL_ty og_rev ha hbase hline
theorem rx_pop0 (ha : RX X W a ma) (hbase : attributeBase a "pop" X.env (eval a X.env) = eval a X.env := by rfl) (hline : (apos.endLine == pos.line) = true := by rfl) : RX X W (.Call (.Attribute a "pop" apos) [] [] pos) (mM0 tokL gPop ma) :=
  rx_m0 F.plainAttrs_list F.slot_list_pop F.type_list_pop mt_pop tokL tokL_ty og_pop ha hbase hline
end

/-! ### keys, parts by keys -/
def keyD : D → Option Key
  | .int i => some (.inl i)
  | .str x => some (.inr x)
  | _ => none
def keysD : List D → Option (List Key)
  | [] => some []
  | d :: r => match keyD d, keysD r with | some k, some ks => some (k :: ks) | _, _ => none
def keyA : A → Option Key
  | .d d => keyD d
  | _ => none
def keyT : A → Option (List Key)
  | .d (.tup ds) => keysD ds
  | _ => none
theorem keyD_rp {K : PySem.W.Frag} {B : Hp} {v : V} {d : D} {k : Key} (r : Rp K B v d) (h : keyD d = some k) : v = kV k := by
  cases r <;> first | (cases h; rfl) | cases h
theorem keysD_rp {K : PySem.W.Frag} {B : Hp} : ∀ {vs : List V} {ds : List D} {ks : List Key}, RpL K B vs ds → keysD ds = some ks → vs = ks.map kV
  | _, _, _, .nil, h => by cases h; rfl
  | _, d :: r, ks, .cons w wl, h => by
    unfold keysD at h
    split at h
    · rename_i k ks' h1 h2
      cases h
      rw [keyD_rp w h1, keysD_rp wl h2]
      rfl
    · cases h
section
variable {κ α : Type} [DecidableEq κ]
def dGet (k : κ) : List κ → List α → Option α
  | k' :: ks, s :: ss => if k' = k then some s else dGet k ks ss
  | _, _ => none
def dPut (k : κ) (s : α) : List κ → List α → List κ × List α
  | k' :: ks, s' :: ss => if k' = k then (k' :: ks, s :: ss) else ((k' :: (dPut k s ks ss).1), (s' :: (dPut k s ks ss).2))
  | ks, _ => if ks = [] then ([k], [s]) else (ks, [])
end
section
variable {κ : Type} [DecidableEq κ] {K : PySem.W.Frag} {B : Hp} {ρ : Nat → Option Addr}
theorem dGet_ok {k : κ} : ∀ {ks : List κ} {vs : List V} {ws : List A}, RAL K B ρ vs ws → ks.length = vs.length →
    (dGet k ks ws = none → valV (ks.zip vs) k = none) ∧ ∀ w, dGet k ks ws = some w → ∃ v, valV (ks.zip vs) k = some v ∧ RA K B ρ v w
  | [], _, _, r, _ => ⟨fun _ => by simp [valV], fun w h => by cases r <;> cases h⟩
  | k' :: ks, _, _, .nil, e => by simp at e
  | k' :: ks, _, _, .cons (v := v) (vs := vr) (w := s) (ws := sr) w wl, e => by
    have ih := dGet_ok (k := k) (ks := ks) wl (by simpa using e)
    by_cases z : k' = k
    · refine ⟨fun h => ?_, fun x h => ⟨v, ?_, ?_⟩⟩
      · simp [dGet, z] at h
      · rw [List.zip_cons_cons]; exact valV_pos z
      · simp [dGet, z] at h
        subst h
        exact w
    · have e1 : dGet k (k' :: ks) (s :: sr) = dGet k ks sr := by simp [dGet, z]
      have e2 : valV ((k' :: ks).zip (v :: vr)) k = valV (ks.zip vr) k := by rw [List.zip_cons_cons]; exact valV_neg z
      rw [e1, e2]
      exact ih
/-- the pairs with k: v, by place -/
def putZ (k : κ) (v : V) : List (κ × V) → List (κ × V)
  | [] => [(k, v)]
  | (k', x) :: r => if k' = k then (k', v) :: r else (k', x) :: putZ k v r
theorem map_other {k : κ} {v : V} : ∀ {l : List (κ × V)}, (∀ p ∈ l, p.1 ≠ k) → l.map (fun kv => if kv.1 = k then (kv.1, v) else kv) = l
  | [], _ => rfl
  | p :: r, h => by
    rw [List.map_cons, if_neg (h p (List.mem_cons_self ..)), map_other fun q hq => h q (List.mem_cons_of_mem _ hq)]
theorem putK_eq {k : κ} {v : V} : ∀ {l : List (κ × V)}, (l.map (·.1)).Nodup → putK l k v = putZ k v l
  | [], _ => by simp [putK, putZ]
  | (k', x) :: r, nd => by
    have nd : (k' :: r.map (·.1)).Nodup := nd
    obtain ⟨n1, n2⟩ := List.nodup_cons.mp nd
    have ih := putK_eq (k := k) (v := v) n2
    unfold putZ
    by_cases z : k' = k
    · subst z
      rw [if_pos rfl]
      unfold putK
      have : ((k', x) :: r).any (fun kv => decide (kv.1 = k')) = true := by simp
      rw [if_pos this, List.map_cons, if_pos rfl, map_other fun p hp e => n1 (by rw [← e]; exact List.mem_map_of_mem hp)]
    · rw [if_neg z]
      unfold putK at ih ⊢
      have e1 : ((k', x) :: r).any (fun kv => decide (kv.1 = k)) = r.any (fun kv => decide (kv.1 = k)) := by simp [z]
      rw [e1]
      by_cases y : r.any (fun kv => decide (kv.1 = k)) = true
      · rw [if_pos y] at ih ⊢
        rw [List.map_cons, if_neg z, ih]
      · rw [if_neg y] at ih ⊢
        rw [List.cons_append, ih]
theorem dPut_ok {k : κ} {v : V} {w : A} (rv : RA K B ρ v w) : ∀ {ks : List κ} {vs : List V} {ws : List A}, RAL K B ρ vs ws → ks.length = vs.length →
    ∃ vs', putZ k v (ks.zip vs) = (dPut k w ks ws).1.zip vs' ∧ (dPut k w ks ws).1.length = vs'.length ∧ RAL K B ρ vs' (dPut k w ks ws).2 ∧ (dPut k w ks ws).1 = if k ∈ ks then ks else ks ++ [k]
  | [], _, _, r, e => by
    cases r with
    | nil => exact ⟨[v], by simp [dPut, putZ], by simp [dPut], by simpa [dPut] using RAL.cons rv .nil, by simp [dPut]⟩
    | cons _ _ => simp at e
  | k' :: ks, _, _, .nil, e => by simp at e
  | k' :: ks, _, _, .cons (v := u) (vs := vr) (w := s) (ws := sr) w0 wl, e => by
    obtain ⟨vs', h1, h2, h3, h4⟩ := dPut_ok (k := k) rv (ks := ks) wl (by simpa using e)
    by_cases z : k' = k
    · refine ⟨v :: vr, ?_, ?_, ?_, ?_⟩
      · simp [dPut, putZ, z]
      · simp [dPut, z]; simpa using e
      · simp only [dPut, if_pos z]; exact .cons rv wl
      · simp [dPut, z]
    · refine ⟨u :: vs', ?_, ?_, ?_, ?_⟩
      · simp only [dPut, if_neg z, List.zip_cons_cons, putZ]
        rw [h1]
      · simp [dPut, z, h2]
      · simp only [dPut, if_neg z]; exact .cons w0 h3
      · simp only [dPut, if_neg z, List.mem_cons, Ne.symm z, false_or]
        rw [h4]
        by_cases y : k ∈ ks
        · rw [if_pos y, if_pos y]
        · rw [if_neg y, if_neg y]; rfl
end
/-- what is at a key; none: the value has no such reading; some none: nothing is there -/
def hGet (hd : Hd) (ws : List A) (kd : A) : Option (Option A) := match hd with
  | .dic ks => (keyA kd).map fun k => dGet k ks ws
  | .dit ks => (keyT kd).map fun k => dGet k ks ws
  | .ins _ _ => none
def hPut (hd : Hd) (ws : List A) (kd w : A) : Option (Hd × List A) := match hd with
  | .dic ks => if ks.Nodup ∧ ks.length < LIM then (keyA kd).map fun k => (.dic (dPut k w ks ws).1, (dPut k w ks ws).2) else none
  | .dit ks => if ks.Nodup ∧ ks.length < LIM then (keyT kd).map fun k => (.dit (dPut k w ks ws).1, (dPut k w ks ws).2) else none
  | .ins _ _ => none
/-- a dict, whatever it is in -/
def dicOf (h : Hq) : A → Option (Hd × List A)
  | .d (.nd hd xs) => some (hd, xs.map A.d)
  | .r k => match h[k]? with | some (.nd hd ws) => some (hd, ws) | _ => none
  | _ => none
section
variable {K : PySem.W.Frag} {Z B H : Hp} {ρ : Nat → Option Addr} {h : Hq} {x y v : V} {a kd w : A} {hd : Hd} {ws : List A}
theorem dicOf_ra (ok : Ok K Z B ρ H h) (r : RA K B ρ x a) (e : dicOf h a = some (hd, ws)) : ∃ p vs own, x = .ref p ∧ HdAt K H p hd vs own ∧ RAL K B ρ vs ws := by
  unfold dicOf at e
  split at e
  · cases e
    cases ra_d r with
    | nd h1 r1 => exact ⟨_, _, _, rfl, h1.to fun b _ u z => ok.ex b u z, ral_ds r1⟩
  · split at e
    · rename_i e1
      cases e
      cases r with
      | r hr =>
        obtain ⟨p, h1, h2⟩ := ok.ce _ _ e1
        rw [hr] at h1
        cases h1
        cases h2 with
        | nd q1 q2 q3 => exact ⟨_, _, _, rfl, q1, q2⟩
    · cases e
  · cases e
theorem hGet_isD {p : Addr} {vs : List V} {own : List Addr} {o : Option A} (x : HdAt K H p hd vs own) (e : hGet hd ws kd = some o) : IsD H p := by
  cases x with
  | dic h1 _ => exact .inl ⟨_, .inl h1⟩
  | dit h1 _ => exact .inr ⟨_, .inl h1⟩
  | ins => cases e
theorem hGet_ok {p : Addr} {vs : List V} {own : List Addr} {o : Option A} (ok : Ok K Z B ρ H h) (x : HdAt K H p hd vs own) (r : RAL K B ρ vs ws) (ry : RA K B ρ y kd) (e : hGet hd ws kd = some o) :
    (o = none → DGet H p y none) ∧ ∀ w, o = some w → ∃ v, DGet H p y (some v) ∧ RA K B ρ v w := by
  cases x with
  | dic h1 h2 =>
    obtain ⟨k, hk, rfl⟩ := Option.map_eq_some_iff.mp e
    have hy : y = kV k := by
      unfold keyA at hk
      split at hk
      · exact keyD_rp (ra_d ry) hk
      · cases hk
    subst hy
    obtain ⟨g1, g2⟩ := dGet_ok (k := k) r h2
    refine ⟨fun z => ?_, fun w z => ?_⟩
    · rw [← g1 z]; exact .k h1
    · obtain ⟨v, q1, q2⟩ := g2 w z
      exact ⟨v, by rw [← q1]; exact .k h1, q2⟩
  | dit h1 h2 =>
    obtain ⟨k, hk, rfl⟩ := Option.map_eq_some_iff.mp e
    have hy : ∃ b, y = .ref b ∧ H b = some (.tup (k.map kV)) := by
      unfold keyT at hk
      split at hk
      · cases ra_d ry with
        | tup q1 q2 => exact ⟨_, rfl, by rw [ok.ex _ _ q1, keysD_rp q2 hk]⟩
      · cases hk
    obtain ⟨b, rfl, hb⟩ := hy
    obtain ⟨g1, g2⟩ := dGet_ok (k := k) r h2
    refine ⟨fun z => ?_, fun w z => ?_⟩
    · rw [← g1 z]; exact .t h1 hb
    · obtain ⟨v, q1, q2⟩ := g2 w z
      exact ⟨v, by rw [← q1]; exact .t h1 hb, q2⟩
  | ins => cases e
theorem map_fst_zip {κ : Type} : ∀ {ks : List κ} {vs : List V}, ks.length = vs.length → (ks.zip vs).map (·.1) = ks
  | [], _, _ => rfl
  | _ :: _, [], e => by simp at e
  | k :: ks, v :: vs, e => by rw [List.zip_cons_cons, List.map_cons, map_fst_zip (by simpa using e)]
theorem hPut_ok {p : Addr} {vs : List V} {own : List Addr} {hd' : Hd} {ws' : List A} (ok : Ok K Z B ρ H h) (x : HdAt K H p hd vs own) (r : RAL K B ρ vs ws) (ry : RA K B ρ y kd) (rv : RA K B ρ v w) (e : hPut hd ws kd w = some (hd', ws')) :
    ∃ (o : HO) (vs' : List V), DPut H p y v (upd H p o) ∧ own = [p] ∧ HdAt K (upd H p o) p hd' vs' own ∧ RAL K B ρ vs' ws' := by
  cases x with
  | dic h1 h2 =>
    unfold hPut at e
    dsimp only at e
    split at e
    · rename_i hn
      obtain ⟨k, hk, e⟩ := Option.map_eq_some_iff.mp e
      cases e
      have hy : y = kV k := by
        unfold keyA at hk
        split at hk
        · exact keyD_rp (ra_d ry) hk
        · cases hk
      subst hy
      obtain ⟨vs', q1, q2, q3, _⟩ := dPut_ok (k := k) rv r h2
      refine ⟨_, vs', .k h1 (by rw [List.length_zip, ← h2, Nat.min_self, ← lim_eq]; exact hn.2), rfl, .dic ?_ q2, q3⟩
      rw [upd_same, putK_eq (by rw [map_fst_zip h2]; exact hn.1), q1]
    · cases e
  | dit h1 h2 =>
    unfold hPut at e
    dsimp only at e
    split at e
    · rename_i hn
      obtain ⟨k, hk, e⟩ := Option.map_eq_some_iff.mp e
      cases e
      have hy : ∃ b, y = .ref b ∧ H b = some (.tup (k.map kV)) := by
        unfold keyT at hk
        split at hk
        · cases ra_d ry with
          | tup q1 q2 => exact ⟨_, rfl, by rw [ok.ex _ _ q1, keysD_rp q2 hk]⟩
        · cases hk
      obtain ⟨b, rfl, hb⟩ := hy
      obtain ⟨vs', q1, q2, q3, _⟩ := dPut_ok (k := k) rv r h2
      refine ⟨_, vs', .t h1 hb (by rw [List.length_zip, ← h2, Nat.min_self, ← lim_eq]; exact hn.2), rfl, .dit ?_ q2, q3⟩
      rw [upd_same, putK_eq (by rw [map_fst_zip h2]; exact hn.1), q1]
    · cases e
  | ins => cases e
/-- a cell with parts turns, its own dict stays -/
theorem cell_nd (ok : Ok K Z B ρ H h) {k : Nat} (r : RA K B ρ v (.r k)) (e : h[k]? = some (.nd hd ws)) : ∃ a vs own, v = .ref a ∧ ρ k = some a ∧ HdAt K H a hd vs own ∧ RAL K B ρ vs ws ∧
    ∀ o hd' vs' ws', HdAt K (upd H a o) a hd' vs' own → RAL K B ρ vs' ws' → Ok K Z B ρ (upd H a o) (h.set k (.nd hd' ws')) := by
  cases r with
  | r hr =>
    obtain ⟨a, h1, h2⟩ := ok.ce _ _ e
    rw [hr] at h1
    cases h1
    cases h2 with
    | nd q1 q2 q3 => exact ⟨_, _, _, rfl, hr, q1, q2, fun o hd' vs' ws' x' r' => ok.mut e hr q1.own_or.2.2.2.2 (q3 _ q1.own_or.1).1 (q3 _ q1.own_or.1).2 (.nd x' r' q3)⟩
end

/-! ### xs[i], d[k] -/
def gGetD : G2 := fun a kd h => match dicOf h a with
  | some (hd, ws) => (match hGet hd ws kd with | some (some w) => some (.ok w h) | _ => none)
  | none => none
def gGet : G2 := fun a kd h => if (dicOf h a).isSome then gGetD a kd h else gIx a kd h
section
variable {X : Cx} {W : WX} {a b : Expr} {ma mb : E A} {pos : Pos}
/-- of a list, a tuple, a text, a dict -/
theorem rx_sub (hu : X.A.units + 1 < cLine) (ha : RX X W a ma) (hb : RX X W b mb) (hs : PlainIx b := by exact fun _ _ => rfl) (hs2 : NoSl b := by exact fun _ _ => rfl) : RX X W (.Subscript a b pos) (mBin gGet ma mb) := ⟨pe_imp (pe_or (pe_ix ix_seq ha.pe hb.pe hs) (pe_dget hu ha.pe hb.pe hs2)) fun σ H Q q => by
  obtain ⟨Z, B, ρ, τ, h, ok, sl, q⟩ := q
  unfold mBin at q
  have dec : ∀ (r : Option (Rs A)), Post X.K Z (fun c d H' => W c d σ H') B ρ (fun w _ B' ρ' H' => ∀ v, RA X.K B' ρ' v w → Q v H') (bd r fun a h1 => bd (mb τ h1) fun b h2 => gGet a b h2) →
      Post X.K Z (fun c d H' => W c d σ H') B ρ (fun w _ B' ρ' H' => ∀ v, RA X.K B' ρ' v w → tE X.K W mb σ H' fun y H2 => rIx X.K v y H2 Q) r ∨
      Post X.K Z (fun c d H' => W c d σ H') B ρ (fun w _ B' ρ' H' => ∀ v, RA X.K B' ρ' v w → tE X.K W mb σ H' fun y H2 => ∃ a v', v = .ref a ∧ DGet H2 a y (some v') ∧ Q v' H2) r := by
    intro r q
    match r, q with
    | some (.ex x h), q => exact .inl q
    | some (.ok a h1), q =>
      have q : Post X.K Z (fun c d H' => W c d σ H') B ρ (fun w _ B' ρ' H' => ∀ v, RA X.K B' ρ' v w → Q v H') (bd (mb τ h1) fun b h2 => gGet a b h2) := q
      -- what the other evaluation says
      have dec2 : ∀ (r2 : Option (Rs A)), Post X.K Z (fun c d H' => W c d σ H') B ρ (fun w _ B' ρ' H' => ∀ v, RA X.K B' ρ' v w → Q v H') (bd r2 fun b h2 => gGet a b h2) →
          (∀ b h2, r2 = some (.ok b h2) → dicOf h2 a = none) ∨ ∃ b h2 hw, r2 = some (.ok b h2) ∧ dicOf h2 a = some hw := by
        intro r2 _
        match r2 with
        | none => exact .inl fun _ _ e => by cases e
        | some (.ex _ _) => exact .inl fun _ _ e => by cases e
        | some (.ok b h2) =>
          cases e : dicOf h2 a with
          | none => exact .inl fun _ _ z => by cases z; exact e
          | some hw => exact .inr ⟨b, h2, hw, rfl, e⟩
      rcases dec2 (mb τ h1) q with hn | ⟨b, h2, hw, e1, e2⟩
      · refine .inl fun B1 ρ1 H1 ok1 g1 v rv => ⟨Z, B1, ρ1, τ, h1, ok1, sl.mono g1, ?_⟩
        have q := (q.from g1).bd
        revert q hn
        cases mb τ h1 with
        | none => exact fun _ q => q
        | some r2 =>
          cases r2 with
          | ex _ _ => exact fun _ q => q
          | ok b h2 =>
            intro hn q B2 ρ2 H2 ok2 g2 y ry
            have q : Post X.K Z (fun c d H' => W c d σ H') B2 ρ2 (fun w _ B' ρ' H' => ∀ v, RA X.K B' ρ' v w → Q v H') (gGet a b h2) := q B2 ρ2 H2 ok2 g2
            unfold gGet at q
            rw [hn b h2 rfl] at q
            exact og_ix Z B2 ρ2 H2 h2 v y a b _ Q ok2 (rv.mono g2) ry q
      · refine .inr fun B1 ρ1 H1 ok1 g1 v rv => ⟨Z, B1, ρ1, τ, h1, ok1, sl.mono g1, ?_⟩
        have q := (q.from g1).bd
        rw [e1] at q ⊢
        intro B2 ρ2 H2 ok2 g2 y ry
        have q : Post X.K Z (fun c d H' => W c d σ H') B2 ρ2 (fun w _ B' ρ' H' => ∀ v, RA X.K B' ρ' v w → Q v H') (gGet a b h2) := q B2 ρ2 H2 ok2 g2
        unfold gGet at q
        rw [e2] at q
        have q : Post X.K Z (fun c d H' => W c d σ H') B2 ρ2 (fun w _ B' ρ' H' => ∀ v, RA X.K B' ρ' v w → Q v H') (gGetD a b h2) := q
        unfold gGetD at q
        rw [e2] at q
        obtain ⟨hd, ws⟩ := hw
        dsimp only at q
        split at q
        · rename_i w e3
          obtain ⟨p, vs, own, rfl, x1, r1⟩ := dicOf_ra ok2 (rv.mono g2) e2
          obtain ⟨v', g, rv'⟩ := (hGet_ok ok2 x1 r1 ry e3).2 w rfl
          exact ⟨p, v', rfl, g, q.now ok2 _ rv'⟩
        · exact q.elim
  rcases dec (ma τ h) q with q | q
  · exact .inl ⟨Z, B, ρ, τ, h, ok, sl, q⟩
  · exact .inr ⟨Z, B, ρ, τ, h, ok, sl, q⟩⟩
end
/-! ### a[i] = v, d[k] = v -/
def putA (a kd w : A) (h : Hq) : Option Hq := match a with
  | .r k => (match h[k]? with
    | some (.lst ws) => (match kd with
      | .d (.int i) => (match ixN ws.length i with | some n => some (h.set k (.lst (ws.set n w))) | none => none)
      | _ => none)
    | some (.nd hd ws) => (match hPut hd ws kd w with | some (hd', ws') => some (h.set k (.nd hd' ws')) | none => none)
    | _ => none)
  | _ => none
def isLst (h : Hq) : A → Bool
  | .r k => match h[k]? with | some (.lst _) => true | _ => false
  | _ => false
/-- value, object, index -/
def mSetI (lst : Bool) (mo mi mv : E A) : MS := fun τ h => sb τ (mv τ h) fun w h1 => sb τ (mo τ h1) fun a h2 => sb τ (mi τ h2) fun kd h3 => if isLst h3 a = lst then (match putA a kd w h3 with | some h4 => some (.nx τ h4) | none => none) else none
section
variable {X : Cx} {W : WX} {o i e : Expr} {mo mi mv : E A} {pos tpos : Pos}
theorem rs_setL (ho : RX X W o mo) (hi : RX X W i mi) (hv : RX X W e mv) (hs : swapsWithSole [.Subscript o i tpos] e pos.line X.env = pure false := by rfl) (hw : swappedStores [.Subscript o i tpos] e X.env = pure none := by rfl)
    (h1 : (assignEach [.Subscript o i tpos] X.env).map (·.2) = [assign (.Subscript o i tpos) X.env] := by rfl)
    (ha : ∀ v, assign (.Subscript o i tpos) X.env v = (do
      let ov ← holding [v] (eval o X.env)
      let iv ← holding [v, ov] (eval i X.env)
      standAt tpos
      holding [v, ov, iv] (setItem ov iv v)
      release [v, ov, iv] []) := by intro _; rfl) : RS X W (.Assign [.Subscript o i tpos] e pos) (mSetI true mo mi mv) := ⟨ps_imp (ps_asg hv.pe (pg_sub ho.pe hi.pe set_list ha) hs hw h1) fun D σ H q => by
  obtain ⟨Z, B, ρ, τ, h, ok, sl, q⟩ := q
  refine ts_bd ok sl q fun v w h1 B1 ρ1 H1 rv ok1 sl1 g1 q1 => ts_bd ok1 sl1 q1 fun x a h2 B2 ρ2 H2 rx ok2 sl2 g2 q2 => ts_bd ok2 sl2 q2 fun y kd h3 B3 ρ3 H3 ry ok3 sl3 g3 q3 => ?_
  split at q3
  · rename_i hl
    split at q3
    · rename_i h4 e4
      unfold isLst at hl
      split at hl
      · split at hl
        · rename_i k ws e5
          unfold putA at e4
          dsimp only at e4
          rw [e5] at e4
          dsimp only at e4
          split at e4
          · rename_i j
            split at e4
            · rename_i n e6
              cases e4
              cases ra_int ry
              obtain ⟨p, vs, rfl, hr, h1', r1, up⟩ := cell_lst ok3 (rx.mono g3) e5
              exact ⟨p, vs, j, n, rfl, rfl, h1', by rw [r1.length]; exact e6, q3.nx1 (up _ _ (r1.set n (rv.mono (g2.trans g3)))) sl3⟩
            · cases e4
          · cases e4
        · cases hl
      · cases hl
    · exact q3.elim
  · exact q3.elim⟩
theorem rs_setD (hu : X.A.units + 1 < cLine) (ho : RX X W o mo) (hi : RX X W i mi) (hv : RX X W e mv) (hs : swapsWith e (some (.Subscript o i tpos)) pos.line X.env = pure false := by rfl) : RS X W (.Assign [.Subscript o i tpos] e pos) (mSetI false mo mi mv) := ⟨ps_imp (ps_dput hu ho.pe hi.pe hv.pe hs) fun D σ H q => by
  obtain ⟨Z, B, ρ, τ, h, ok, sl, q⟩ := q
  refine ts_bd ok sl q fun v w h1 B1 ρ1 H1 rv ok1 sl1 g1 q1 => ts_bd ok1 sl1 q1 fun x a h2 B2 ρ2 H2 rx ok2 sl2 g2 q2 => ts_bd ok2 sl2 q2 fun y kd h3 B3 ρ3 H3 ry ok3 sl3 g3 q3 => ?_
  split at q3
  · rename_i hl
    split at q3
    · rename_i h4 e4
      unfold putA at e4
      split at e4
      · rename_i k
        split at e4
        · rename_i ws e5
          unfold isLst at hl
          dsimp only at hl
          rw [e5] at hl
          cases hl
        · rename_i hd ws e5
          split at e4
          · rename_i hd' ws' e6
            cases e4
            obtain ⟨p, vs, own, rfl, hr, x1, r1, up⟩ := cell_nd ok3 (rx.mono g3) e5
            obtain ⟨o', vs', d1, d2, d3, d4⟩ := hPut_ok ok3 x1 r1 ry (rv.mono (g2.trans g3)) e6
            exact ⟨p, _, rfl, d1, q3.nx1 (up _ _ _ _ d3 d4) sl3⟩
          · cases e4
        · cases e4
      · cases e4
    · exact q3.elim
  · exact q3.elim⟩
/-- o[i] op= e: object, index, what is there, value -/
def mAugI (lst : Bool) (g : G2) (mo mi mv : E A) : MS := fun τ h => sb τ (mo τ h) fun a h1 => sb τ (mi τ h1) fun kd h2 => sb τ (if lst = true then (if isLst h2 a = true then gIx a kd h2 else none) else gGetD a kd h2) fun u h2' => sb τ (mv τ h2') fun w h3 => sb τ (g u w h3) fun z h4 =>
  if isLst h4 a = lst then (match putA a kd z h4 with | some h5 => some (.nx τ h5) | none => none) else none
theorem get_list : ∀ (pins : List (Addr × Obj)) (s : Shared) (σ : L2.St) (H : Hp) (o i : V) (ov iv : Value) (Q : VK), Inv X pins σ H s → RelV o ov → RelV i iv → rIxL X.K o i H Q →
    wpAny (model X.prog X.w) X.A (getItem ov iv) (EP X pins σ Q) X.xe s := by
  intro pins s σ H x y v u Q I rx ry h
  obtain ⟨p, xs, i, z, rfl, rfl, hq, he, q⟩ := h
  cases rx
  obtain ⟨t, rfl⟩ := ry
  obtain ⟨its, r, pl, hz⟩ := I.list hq
  obtain ⟨j, h1, h2, h3, h4, h5⟩ := atI_get he
  obtain ⟨w, ew, rw'⟩ := r.get h2
  have hl := r.length
  have hn := line63
  have fin : EP X pins σ Q w s := ⟨z, H, I, rw', q⟩
  by_cases h0 : 0 ≤ i
  · have hj : i.toNat = j := by
      rw [seqIndex_of h0 h5] at h1
      exact Option.some.inj h1
    exact wpAny_getItem_list pl.isList h0 (by omega) (by rw [hj]; simpa using ew) fin
  · have hj : (i + (its.toArray.size : Int)).toNat = j := by
      rw [seqIndex_neg (by omega) h4] at h1
      rw [List.size_toArray, ← hl]
      exact Option.some.inj h1
    exact wpAny_getItem_list_neg pl.isList (by omega) (by rw [List.size_toArray] <;> omega) (by omega) (by rw [hj]; simpa using ew) fin
theorem rs_augL {op : Operator} {r : R2} {g : G2} (hop : OpR X (inplaceOp op) r) (og : Op2 X.K r g) (ho : RX X W o mo) (hi : RX X W i mi) (hv : RX X W e mv)
    (ha : ∀ ov iv new, augStore i ov iv new = (do holding [new, ov, iv] (setItem ov iv new); release [new, ov, iv] []; pure .next) := by intros; rfl) : RS X W (.AugAssign (.Subscript o i tpos) op e pos) (mAugI true g mo mi mv) := ⟨ps_imp (ps_augS ho.pe hi.pe get_list hv.pe hop set_list ha) fun D σ H q => by
  obtain ⟨Z, B, ρ, τ, h, ok, sl, q⟩ := q
  refine ts_bd ok sl q fun x a h1 B1 ρ1 H1 rx ok1 sl1 g1 q1 => ts_bd ok1 sl1 q1 fun y kd h2 B2 ρ2 H2 ry ok2 sl2 g2 q2 => ?_
  rw [if_pos rfl] at q2
  split at q2
  · rename_i hl2
    have rx2 := rx.mono g2
    unfold isLst at hl2
    split at hl2
    · rename_i k
      split at hl2
      · rename_i ws e5
        obtain ⟨p, vs, rfl, hr, h1', r1, up⟩ := cell_lst ok2 rx2 e5
        have tn : tupOf (.r k) = none := rfl
        have ln : lstOf h2 (.r k) = some ws := by unfold lstOf; dsimp only; rw [e5]
        unfold gIx at q2
        split at q2
        · rename_i j
          dsimp only at q2
          rw [tn, ln] at q2
          dsimp only at q2
          cases e6 : atI ws j with
          | none => rw [e6] at q2; exact q2.elim
          | some u =>
            rw [e6] at q2
            cases ra_int ry
            obtain ⟨n, e4, e5'⟩ := atI_some e6
            obtain ⟨v0, e7, r2⟩ := r1.get e5'
            refine ⟨p, vs, j, v0, rfl, rfl, SqL.of h1', atI_of r1.length e4 e7, ts_bd ok2 sl2 q2 fun v w h3 B3 ρ3 H3 rv ok3 sl3 g3 q3 => ?_⟩
            refine og Z B3 ρ3 H3 h3 v0 v u w _ _ ok3 (r2.mono g3) rv ((q3.sb sl3).imp fun z h4 B4 ρ4 H4 ok4 g4 q4 zv rz => ?_)
            split at q4
            · rename_i hl4
              split at q4
              · rename_i h5 e8
                unfold isLst at hl4
                dsimp only at hl4
                split at hl4
                · rename_i ws4 e9
                  unfold putA at e8
                  dsimp only at e8
                  rw [e9] at e8
                  dsimp only at e8
                  split at e8
                  · rename_i n4 e10
                    cases e8
                    obtain ⟨p4, vs4, ep, hr4, h4', r4, up4⟩ := cell_lst ok4 (rx2.mono (g3.trans g4)) e9
                    cases ep
                    exact ⟨p, vs4, j, n4, rfl, rfl, h4', by rw [r4.length]; exact e10, q4.nx1 (up4 _ _ (r4.set n4 rz)) (sl3.mono g4)⟩
                  · cases e8
                · cases hl4
              · exact q4.elim
            · exact q4.elim
        · exact q2.elim
      · cases hl2
    · cases hl2
  · exact q2.elim⟩
theorem rs_augD {op : Operator} {r : R2} {g : G2} (hu : X.A.units + 1 < cLine) (hop : OpR X (inplaceOp op) r) (og : Op2 X.K r g) (ho : RX X W o mo) (hi : RX X W i mi) (hv : RX X W e mv)
    (ha : ∀ ov iv new, augStore i ov iv new = (do holding [new, ov, iv] (setItem ov iv new); release [new, ov, iv] []; pure .next) := by intro _ _ _; rfl) : RS X W (.AugAssign (.Subscript o i tpos) op e pos) (mAugI false g mo mi mv) := ⟨ps_imp (ps_daug hu ho.pe hi.pe hv.pe (fun pins s σ H x y u v Q I rx ry h => hop pins s σ H x y u v Q I rx ry h) ha) fun D σ H q => by
  obtain ⟨Z, B, ρ, τ, h, ok, sl, q⟩ := q
  refine ts_bd ok sl q fun x a h1 B1 ρ1 H1 rx ok1 sl1 g1 q1 => ts_bd ok1 sl1 q1 fun y kd h2 B2 ρ2 H2 ry ok2 sl2 g2 q2 => ?_
  rw [if_neg (by simp)] at q2
  · unfold gGetD at q2
    split at q2
    · rename_i hd ws e5
      split at q2
      · rename_i u e6
        obtain ⟨p, vs, own, rfl, x1, r1⟩ := dicOf_ra ok2 (rx.mono g2) e5
        obtain ⟨v0, gg, r2⟩ := (hGet_ok ok2 x1 r1 ry e6).2 u rfl
        refine ⟨p, v0, rfl, gg, ts_bd ok2 sl2 q2 fun v w h3 B3 ρ3 H3 rv ok3 sl3 g3 q3 => ?_⟩
        refine og Z B3 ρ3 H3 h3 v0 v u w _ _ ok3 (r2.mono g3) rv ((q3.sb sl3).imp fun z h4 B4 ρ4 H4 ok4 g4 q4 zv rz => ?_)
        split at q4
        · rename_i hl4
          split at q4
          · rename_i h5 e8
            unfold putA at e8
            split at e8
            · rename_i k
              split at e8
              · rename_i ws4 e9
                unfold isLst at hl4
                dsimp only at hl4
                rw [e9] at hl4
                cases hl4
              · rename_i hd4 ws4 e9
                split at e8
                · rename_i hd' ws' e10
                  cases e8
                  obtain ⟨p4, vs4, own4, ep, hr4, x4, r4, up4⟩ := cell_nd ok4 (rx.mono (g2.trans (g3.trans g4))) e9
                  cases ep
                  obtain ⟨o', vs', d1, d2, d3, d4⟩ := hPut_ok ok4 x4 r4 (ry.mono (g3.trans g4)) rz e10
                  exact ⟨_, d1, q4.nx1 (up4 _ _ _ _ d3 d4) (sl3.mono g4)⟩
                · cases e8
              · cases e8
            · cases e8
          · exact q4.elim
        · exact q4.elim
      · exact q2.elim
    · exact q2.elim⟩
end
end Tq

/-! Tq8: fields, instances, calls, defs. -/
namespace Tq
open PySem PySem.Spec PyProof.Rows L2

/-! ### fields -/
/-- classes of the text: the names of their instances' fields -/
abbrev FTab := List (Str × List Str)
def fOk (T : FTab) (C f : Str) : Bool := T.any fun p => decide (p.1 = C) && decide (f ∈ p.2)
structure ClsT (K : PySem.W.Frag) (T : FTab) : Prop where
  at_ : ∀ C f, fOk T C f = true → ∃ ca, glAt K C = some ca ∧ Cls K ca ∧ NoAttr K ca f
theorem clsT_nil {K : PySem.W.Frag} : ClsT K [] := ⟨fun _ _ h => by cases h⟩
theorem clsT_cons {K : PySem.W.Frag} {C : Str} {fs : List Str} {ca : Addr} {T : FTab} (h0 : glAt K C = some ca) (h1 : Cls K ca) (h2 : ∀ f ∈ fs, NoAttr K ca f) (h3 : ClsT K T) : ClsT K ((C, fs) :: T) := ⟨fun D f h => by
  unfold fOk at h
  rw [List.any_cons, Bool.or_eq_true] at h
  rcases h with h | h
  · rw [Bool.and_eq_true] at h
    have e : C = D := of_decide_eq_true h.1
    subst e
    exact ⟨ca, h0, h1, h2 f (of_decide_eq_true h.2)⟩
  · exact h3.at_ D f h⟩
def fGet (f : Str) : List Str → List A → Option A
  | g :: fs, w :: ws => if g = f then some w else fGet f fs ws
  | _, _ => none
def fPut (f : Str) (w : A) : List Str → List A → List Str × List A
  | g :: fs, u :: ws => if g = f then (g :: fs, w :: ws) else (g :: (fPut f w fs ws).1, u :: (fPut f w fs ws).2)
  | fs, _ => if fs = [] then ([f], [w]) else (fs, [])
section
variable {K : PySem.W.Frag} {B : Hp} {ρ : Nat → Option Addr}
theorem fGet_ok {f : Str} : ∀ {fs : List Str} {vs : List V} {ws : List A} {w : A}, RAL K B ρ vs ws → fGet f fs ws = some w → ∃ v, (fs.zip vs).lookup f = some v ∧ RA K B ρ v w
  | [], _, _, _, r, h => by cases r <;> cases h
  | g :: fs, _, _, _, .nil, h => by cases h
  | g :: fs, _, _, w, .cons (v := v) r rl, h => by
    unfold fGet at h
    split at h
    · rename_i e
      cases h
      subst e
      exact ⟨v, by simp, r⟩
    · rename_i e
      obtain ⟨u, h1, h2⟩ := fGet_ok (fs := fs) rl h
      refine ⟨u, ?_, h2⟩
      rw [List.zip_cons_cons, List.lookup_cons]
      have : (f == g) = false := by simpa using Ne.symm e
      rw [this]
      exact h1
theorem fPut_ok {f : Str} {v : V} {w : A} (rv : RA K B ρ v w) : ∀ {fs : List Str} {vs : List V} {ws : List A}, RAL K B ρ vs ws → fs.length = vs.length →
    ∃ vs', putF f v (fs.zip vs) = (fPut f w fs ws).1.zip vs' ∧ (fPut f w fs ws).1.length = vs'.length ∧ RAL K B ρ vs' (fPut f w fs ws).2
  | [], _, _, r, e => by
    cases r with
    | nil => exact ⟨[v], by simp [fPut, putF], by simp [fPut], by simpa [fPut] using RAL.cons rv .nil⟩
    | cons _ _ => simp at e
  | g :: fs, _, _, .nil, e => by simp at e
  | g :: fs, _, _, .cons (v := u) (vs := vr) (w := s) (ws := sr) w0 wl, e => by
    obtain ⟨vs', h1, h2, h3⟩ := fPut_ok (f := f) rv (fs := fs) wl (by simpa using e)
    by_cases z : g = f
    · refine ⟨v :: vr, ?_, ?_, ?_⟩
      · simp [fPut, putF, z]
      · simp [fPut, z]; simpa using e
      · simp only [fPut, if_pos z]; exact .cons rv wl
    · refine ⟨u :: vs', ?_, ?_, ?_⟩
      · simp only [fPut, if_neg z, List.zip_cons_cons, putF]
        rw [h1]
      · simp [fPut, z, h2]
      · simp only [fPut, if_neg z]; exact .cons w0 h3
end
def gFld (T : FTab) (f : Str) : G1 := fun a h => match dicOf h a with
  | some (.ins C fs, ws) => if fOk T C f = true then (match fGet f fs ws with | some w => some (.ok w h) | none => none) else none
  | _ => none
/-- o.f = e: value, object -/
def mSetF (T : FTab) (f : Str) (mo mv : E A) : MS := fun τ h => sb τ (mv τ h) fun w h1 => sb τ (mo τ h1) fun a h2 => match a with
  | .r k => (match h2[k]? with
    | some (.nd (.ins C fs) ws) => if fOk T C f = true ∧ fs.length < 1000 then some (.nx τ (h2.set k (.nd (.ins C (fPut f w fs ws).1) (fPut f w fs ws).2))) else none
    | _ => none)
  | _ => none
/-- o.f op= e: object, what is there, value -/
def mAugF (T : FTab) (f : Str) (g : G2) (mo mv : E A) : MS := fun τ h => sb τ (mo τ h) fun a h1 => sb τ (gFld T f a h1) fun u h1' => sb τ (mv τ h1') fun w h2 => sb τ (g u w h2) fun z h3 => match a with
  | .r k => (match h1[k]?, h3[k]? with
    | some (.nd (.ins C _) _), some (.nd (.ins C' fs) ws) => if C = C' ∧ fOk T C f = true ∧ fs.length < 1000 then some (.nx τ (h3.set k (.nd (.ins C (fPut f z fs ws).1) (fPut f z fs ws).2))) else none
    | _, _ => none)
  | _ => none
theorem zip_len {κ : Type} {fs : List κ} {vs : List V} (h : fs.length = vs.length) : (fs.zip vs).length = fs.length := by rw [List.length_zip, h, Nat.min_self]
section
variable {X : Cx} {W : WX} {T : FTab} {o e : Expr} {mo mv : E A} {f : Str} {pos pos' tpos : Pos}
theorem rx_fld (hT : ClsT X.K T) (ho : RX X W o mo) (hb : attributeBase o f X.env (eval o X.env) = eval o X.env := by rfl) : RX X W (.Attribute o f pos) (mUn (gFld T f) mo) := ⟨pe_imp (pe_fld ho.pe hb) fun σ H Q q => by
  obtain ⟨Z, B, ρ, τ, h, ok, sl, q⟩ := q
  refine te_bd ok sl q fun x a h1 B1 ρ1 H1 rx ok1 sl1 g1 q1 => ?_
  unfold gFld at q1
  split at q1
  · rename_i C fs ws e1
    split at q1
    · rename_i hf
      split at q1
      · rename_i w e2
        obtain ⟨ca, c1, c2, c3⟩ := hT.at_ C f hf
        obtain ⟨p, vs, own, rfl, x1, r1⟩ := dicOf_ra ok1 rx e1
        cases x1 with
        | ins i0 i1 i2 i3 =>
          rw [c1] at i0
          cases i0
          obtain ⟨v, k1, k2⟩ := fGet_ok r1 e2
          exact ⟨p, ca, _, _, v, rfl, i1, c2, c3, k1, q1.now ok1 _ k2⟩
      · exact q1.elim
    · exact q1.elim
  · exact q1.elim⟩
theorem rs_setF (hT : ClsT X.K T) (ho : RX X W o mo) (hv : RX X W e mv) (hs : swapsWith e (some (.Attribute o f pos')) pos.line X.env = pure false := by rfl) : RS X W (.Assign [.Attribute o f pos'] e pos) (mSetF T f mo mv) := ⟨ps_imp (ps_fld ho.pe hv.pe hs) fun D σ H q => by
  obtain ⟨Z, B, ρ, τ, h, ok, sl, q⟩ := q
  refine ts_bd ok sl q fun v w h1 B1 ρ1 H1 rv ok1 sl1 g1 q1 => ts_bd ok1 sl1 q1 fun x a h2 B2 ρ2 H2 rx ok2 sl2 g2 q2 => ?_
  split at q2
  · rename_i k
    split at q2
    · rename_i C fs ws e1
      split at q2
      · rename_i hf
        obtain ⟨ca, c1, c2, c3⟩ := hT.at_ C f hf.1
        obtain ⟨p, vs, own, rfl, hr, x1, r1, up⟩ := cell_nd ok2 rx e1
        cases x1 with
        | ins i0 i1 i2 i3 =>
          rw [c1] at i0
          cases i0
          obtain ⟨vs', d1, d2, d3⟩ := fPut_ok (f := f) (rv.mono g2) r1 i3
          refine ⟨p, ca, _, _, rfl, i1, c2, c3, by rw [zip_len i3]; exact hf.2, q2.nx1 (up _ _ vs' _ ?_ d3) sl2⟩
          exact .ins c1 (by rw [upd_same, d1]) (by rw [upd_ne fun z => by rw [z, i1] at i2; cases i2]; exact i2) d2
      · exact q2.elim
    · exact q2.elim
  · exact q2.elim⟩
theorem rs_augF {op : Operator} {r : R2} {g : G2} (hT : ClsT X.K T) (hop : OpR X (inplaceOp op) r) (og : Op2 X.K r g) (ho : RX X W o mo) (hv : RX X W e mv) : RS X W (.AugAssign (.Attribute o f tpos) op e pos) (mAugF T f g mo mv) := ⟨ps_imp (ps_fldaug ho.pe hv.pe (fun pins s σ H x y u v Q I rx ry h => hop pins s σ H x y u v Q I rx ry h)) fun D σ H q => by
  obtain ⟨Z, B, ρ, τ, h, ok, sl, q⟩ := q
  refine ts_bd ok sl q fun x a h1 B1 ρ1 H1 rx ok1 sl1 g1 q1 => ?_
  unfold gFld at q1
  split at q1
  · rename_i C fs ws e1
    split at q1
    · rename_i hf
      split at q1
      · rename_i u e2
        obtain ⟨ca, c1, c2, c3⟩ := hT.at_ C f hf
        obtain ⟨p, vs, own, rfl, x1, r1⟩ := dicOf_ra ok1 rx e1
        cases x1 with
        | ins i0 i1 i2 i3 =>
          rw [c1] at i0
          cases i0
          obtain ⟨v0, k1, k2⟩ := fGet_ok r1 e2
          refine ⟨p, ca, _, _, v0, rfl, i1, c2, c3, k1, ts_bd ok1 sl1 q1 fun v w h2 B2 ρ2 H2 rv ok2 sl2 g2 q2 => ?_⟩
          refine og Z B2 ρ2 H2 h2 v0 v u w _ _ ok2 (k2.mono g2) rv ((q2.sb sl2).imp fun z h3 B3 ρ3 H3 ok3 g3 q3 zv rz => ?_)
          split at q3
          · rename_i k
            split at q3
            · rename_i C1 fs1 ws1 C2 fs2 ws2 e3 e4
              split at q3
              · rename_i hc
                obtain ⟨rfl, hf2, hl⟩ := hc
                have eC : C1 = C := by
                  unfold dicOf at e1
                  dsimp only at e1
                  rw [e3] at e1
                  cases e1
                  rfl
                subst eC
                obtain ⟨p4, vs4, own4, ep, hr4, x4, r4, up⟩ := cell_nd ok3 (rx.mono (g2.trans g3)) e4
                cases ep
                cases x4 with
                | ins j0 j1 j2 j3 =>
                  rw [c1] at j0
                  cases j0
                  obtain ⟨vs', d1, d2, d3⟩ := fPut_ok (f := f) rz r4 j3
                  refine ⟨_, _, j1, by rw [zip_len j3]; exact hl, q3.nx1 (up _ _ vs' _ ?_ d3) (sl2.mono g3)⟩
                  exact .ins c1 (by rw [upd_same, d1]) (by rw [upd_ne fun z => by rw [z, j1] at j2; cases j2]; exact j2) d2
              · exact q3.elim
            · exact q3.elim
          · exact q3.elim
      · exact q1.elim
    · exact q1.elim
  · exact q1.elim⟩
end

/-! ### promises -/
abbrev Sem1 := List A → Hq → Option (Rs A)
def spQ (K : PySem.W.Frag) (np : Nat) (sem : Sem1) : Sp := fun vs H Q Ex => vs.length = np ∧ ∃ Z B ρ h ws, Ok K Z B ρ H h ∧ RAL K B ρ vs ws ∧ Post K Z Ex B ρ (fun w _ B' ρ' H' => ∀ v, RA K B' ρ' v w → Q v H') (sem ws h)
def startT (n : Nat) (ws : List A) : Sl := ws.map some ++ List.replicate (n - ws.length) none
def runB (np n : Nat) (m : MS) : Sem1 := fun ws h => if ws.length = np then (match m (startT n ws) h with
  | some (.rt w h') => some (.ok w h')
  | some (.nx _ h') => some (.ok (.d .non) h')
  | some (.ex x _ h') => some (.ex x h')
  | _ => none) else none
theorem slok_start {K : PySem.W.Frag} {B : Hp} {ρ : Nat → Option Addr} {vs : List V} {ws : List A} (N : List Str) (r : RAL K B ρ vs ws) : SlOk K B ρ (L2.start N vs) (startT N.length ws) := by
  unfold L2.start startT
  refine ⟨by simp [r.length], fun i w e => ?_⟩
  by_cases hi : i < ws.length
  · rw [List.getElem?_append_left (by simpa using hi), List.getElem?_map] at e
    cases z : ws[i]? with
    | none => rw [z] at e; cases e
    | some u =>
      rw [z] at e
      cases e
      obtain ⟨v, h1, h2⟩ := r.get z
      exact ⟨v, by rw [List.getElem?_append_left (by simpa [r.length] using hi), List.getElem?_map, h1]; rfl, h2⟩
  · rw [List.getElem?_append_right (by simpa using Nat.le_of_not_lt hi), List.getElem?_replicate] at e
    split at e <;> cases e
theorem runB_post {K : PySem.W.Frag} {Z B : Hp} {ρ : Nat → Option Addr} {Ex : XK} {Q : VK} {np n : Nat} {m : MS} {ws : List A} {h : Hq} (q : Post K Z Ex B ρ (fun w _ B' ρ' H' => ∀ v, RA K B' ρ' v w → Q v H') (runB np n m ws h)) :
    PostS K Z (fun c d _ H' => Ex c d H') B ρ { nx := fun _ H' => Q .non H', rt := Q } (m (startT n ws) h) := by
  unfold runB at q
  split at q
  · split at q
    · rename_i w h' e
      rw [e]
      exact fun v B' ρ' H' rv ok g => q B' ρ' H' ok g v rv
    · rename_i τ h' e
      rw [e]
      exact fun σ' B' ρ' H' ok sl g => q B' ρ' H' ok g .non (.d .non)
    · rename_i x τ h' e
      rw [e]
      exact fun σ' B' ρ' H' cls d ok sl g xc => q B' ρ' H' cls d ok g xc
    · exact q.elim
  · exact q.elim
structure Src (K : PySem.W.Frag) (mg : Str → Option Value) (x : Str) (st : Stmt) (ps : List Str) : Prop where
  ex : ∃ (fa : Addr) (fd : FuncData), Fun K x x st fa fd ∧ mg x = some (.ref fa) ∧ Binds K fd ps []
structure Def (P : Program) (w : World) (K : PySem.W.Frag) (mg : Str → Option Value) (base : Heap) (k : Nat) (x : Str) (ps : List Str) (sem : Sem1) : Prop where
  ex : ∃ (fa : Addr) (fd : FuncData), FnOk P w K mg base (L2.CX P w) k fa fd ps (spQ K ps.length sem) ∧ mg x = some (.ref fa) ∧ PySem.W.keepIn K (.ref fa) = true ∧ Binds K fd ps []
/-- a method -/
structure SrcM (K : PySem.W.Frag) (C m : Str) (st : Stmt) (ps : List Str) (qual : Str) : Prop where
  ex : ∃ (ca fa : Addr) (fd : FuncData), glAt K C = some ca ∧ Cls K ca ∧ Meth K ca m fa ∧ Fun K m qual st fa fd ∧ Binds K fd ps []
structure DefM (P : Program) (w : World) (K : PySem.W.Frag) (mg : Str → Option Value) (base : Heap) (k : Nat) (C m : Str) (ps : List Str) (sem : Sem1) : Prop where
  ex : ∃ (ca fa : Addr) (fd : FuncData), glAt K C = some ca ∧ Cls K ca ∧ Meth K ca m fa ∧ FnOk P w K mg base (L2.CX P w) k fa fd ps (spQ K ps.length sem) ∧ Binds K fd ps []
/-- a class with its __init__ -/
structure MkC (K : PySem.W.Frag) (mg : Str → Option Value) (C : Str) : Prop where
  ex : ∃ ca fa, glAt K C = some ca ∧ mg C = some (.ref ca) ∧ Mk K ca fa ∧ PySem.W.findIn K (.ref ca) "__init__" = some (some (.ref fa))
section
variable {Pr : Program} {w : World} {K : PySem.W.Frag} {mg : Str → Option Value} {base : Heap}
theorem fn_trX {x qual : Str} {st : Stmt} {fa : Addr} {fd : FuncData} {N ps : List Str} {k : Nat} {sem : Sem1} (m : MS) (F : Fun K x qual st fa fd) (Sc : FnScope N ps (defScope st)) (hsem : ∀ ws h r, sem ws h = some r → runB ps.length N.length m ws h = some r)
    (hb : ∀ (cdv : Value) (A : Around) (outer : List Env) (s : Shared) (H : Hp) (Ex : XK), Room k (A.deeper (envOfC qual (defScope st) s.heap.objs.size fa cdv)) →
      Takes (cxOf (L2.CX Pr w) Pr w K mg base N qual (defScope st) fa cdv A outer s H Ex) (fun c d _ H' => Ex c d H') →
      PassesOwn (model Pr w) (cxOf (L2.CX Pr w) Pr w K mg base N qual (defScope st) fa cdv A outer s H Ex).A (cxOf (L2.CX Pr w) Pr w K mg base N qual (defScope st) fa cdv A outer s H Ex).env (cxOf (L2.CX Pr w) Pr w K mg base N qual (defScope st) fa cdv A outer s H Ex).xe →
      RSs (cxOf (L2.CX Pr w) Pr w K mg base N qual (defScope st) fa cdv A outer s H Ex) (fun c d _ H' => Ex c d H') (defBody st) m) : FnOk Pr w K mg base (L2.CX Pr w) (k + 1) fa fd ps (spQ K ps.length sem) := by
  refine F.okX Sc (fun vs H Q Ex h => h.1) (fun cdv A outer s H vs Q Ex hr h => ?_)
  obtain ⟨hl, Z, B, ρ, h0, ws, ok, r, q⟩ := h
  refine ⟨_, (hb cdv A outer s H Ex hr (takes_of rfl rfl rfl rfl) (passes_of rfl)).ps, Z, B, ρ, startT N.length ws, h0, ok, slok_start _ r, ?_⟩
  have q2 : Post K Z Ex B ρ (fun w _ B' ρ' H' => ∀ v, RA K B' ρ' v w → Q v H') (runB ps.length N.length m ws h0) := by
    cases e : sem ws h0 with
    | none => rw [e] at q; exact q.elim
    | some r => rw [e] at q; rw [hsem ws h0 r e]; exact q
  exact runB_post q2
theorem def_tr {x : Str} {st : Stmt} {N ps : List Str} {k : Nat} {sem : Sem1} (S : Src K mg x st ps) (Sc : FnScope N ps (defScope st)) (m : MS)
    (hb : ∀ (fa : Addr) (cdv : Value) (A : Around) (outer : List Env) (s : Shared) (H : Hp) (Ex : XK), Room k (A.deeper (envOfC x (defScope st) s.heap.objs.size fa cdv)) →
      Takes (cxOf (L2.CX Pr w) Pr w K mg base N x (defScope st) fa cdv A outer s H Ex) (fun c d _ H' => Ex c d H') →
      PassesOwn (model Pr w) (cxOf (L2.CX Pr w) Pr w K mg base N x (defScope st) fa cdv A outer s H Ex).A (cxOf (L2.CX Pr w) Pr w K mg base N x (defScope st) fa cdv A outer s H Ex).env (cxOf (L2.CX Pr w) Pr w K mg base N x (defScope st) fa cdv A outer s H Ex).xe →
      RSs (cxOf (L2.CX Pr w) Pr w K mg base N x (defScope st) fa cdv A outer s H Ex) (fun c d _ H' => Ex c d H') (defBody st) m)
    (hsem : ∀ ws h r, sem ws h = some r → runB ps.length N.length m ws h = some r := by exact fun _ _ _ h => h) : Def Pr w K mg base (k + 1) x ps sem := by
  obtain ⟨fa, fd, F, hm', hbd⟩ := S.ex
  exact ⟨fa, fd, fn_trX m F Sc hsem (fun cdv A outer s H Ex hr => hb fa cdv A outer s H Ex hr), hm', F.kp, hbd⟩
theorem defM_tr {C mn qual : Str} {st : Stmt} {N ps : List Str} {k : Nat} {sem : Sem1} (S : SrcM K C mn st ps qual) (Sc : FnScope N ps (defScope st)) (m : MS)
    (hb : ∀ (fa : Addr) (cdv : Value) (A : Around) (outer : List Env) (s : Shared) (H : Hp) (Ex : XK), Room k (A.deeper (envOfC qual (defScope st) s.heap.objs.size fa cdv)) →
      Takes (cxOf (L2.CX Pr w) Pr w K mg base N qual (defScope st) fa cdv A outer s H Ex) (fun c d _ H' => Ex c d H') →
      PassesOwn (model Pr w) (cxOf (L2.CX Pr w) Pr w K mg base N qual (defScope st) fa cdv A outer s H Ex).A (cxOf (L2.CX Pr w) Pr w K mg base N qual (defScope st) fa cdv A outer s H Ex).env (cxOf (L2.CX Pr w) Pr w K mg base N qual (defScope st) fa cdv A outer s H Ex).xe →
      RSs (cxOf (L2.CX Pr w) Pr w K mg base N qual (defScope st) fa cdv A outer s H Ex) (fun c d _ H' => Ex c d H') (defBody st) m)
    (hsem : ∀ ws h r, sem ws h = some r → runB ps.length N.length m ws h = some r := by exact fun _ _ _ h => h) : DefM Pr w K mg base (k + 1) C mn ps sem := by
  obtain ⟨ca, fa, fd, h1, h2, h3, F, hbd⟩ := S.ex
  exact ⟨ca, fa, fd, h1, h2, h3, fn_trX m F Sc hsem (fun cdv A outer s H Ex hr => hb fa cdv A outer s H Ex hr), hbd⟩
/-- the law itself: nothing is let out -/
theorem fn_tr0 {x qual : Str} {st : Stmt} {fa : Addr} {fd : FuncData} {N ps : List Str} {k : Nat} {sem : Sem1} (m : MS) (F : Fun K x qual st fa fd) (Sc : FnScope N ps (defScope st)) (hsem : ∀ ws h r, sem ws h = some r → runB ps.length N.length m ws h = some r)
    (hb : ∀ (cdv : Value) (A : Around) (outer : List Env) (s : Shared) (H : Hp) (Ex : XK), Room k (A.deeper (envOfC qual (defScope st) s.heap.objs.size fa cdv)) →
      Takes (cxOf CX0 Pr w K mg base N qual (defScope st) fa cdv A outer s H Ex).nox W0 →
      PassesOwn (model Pr w) (cxOf CX0 Pr w K mg base N qual (defScope st) fa cdv A outer s H Ex).nox.A (cxOf CX0 Pr w K mg base N qual (defScope st) fa cdv A outer s H Ex).nox.env (cxOf CX0 Pr w K mg base N qual (defScope st) fa cdv A outer s H Ex).nox.xe →
      RSs (cxOf CX0 Pr w K mg base N qual (defScope st) fa cdv A outer s H Ex).nox W0 (defBody st) m) : FnOk Pr w K mg base CX0 (k + 1) fa fd ps (fun vs H Q _ => spQ K ps.length sem vs H Q E0) := by
  refine F.ok Sc (fun vs H Q Ex h => h.1) (fun cdv A outer s H vs Q Ex hr h => ?_)
  obtain ⟨hl, Z, B, ρ, h0, ws, ok, r, q⟩ := h
  refine ⟨_, (hb cdv A outer s H Ex hr takes0 PassesOwn.never).ps, Z, B, ρ, startT N.length ws, h0, ok, slok_start _ r, ?_⟩
  have q2 : Post K Z E0 B ρ (fun w _ B' ρ' H' => ∀ v, RA K B' ρ' v w → Q v H') (runB ps.length N.length m ws h0) := by
    cases e : sem ws h0 with
    | none => rw [e] at q; exact q.elim
    | some r => rw [e] at q; rw [hsem ws h0 r e]; exact q
  exact runB_post q2
theorem def_none {x : Str} {st : Stmt} {ps : List Str} {k : Nat} (S : Src K mg x st ps) : Def Pr w K mg base k x ps (fun _ _ => none) := by
  obtain ⟨fa, fd, F, hm', hbd⟩ := S.ex
  refine ⟨fa, fd, ⟨fun vs H Q Ex h => ?_, fun A outer s H args us vs Q Ex hr he hb hv h => ?_⟩, hm', F.kp, hbd⟩
  · obtain ⟨_, _, _, _, _, _, _, _, e⟩ := h
    exact e.elim
  · obtain ⟨_, _, _, _, _, _, _, _, e⟩ := h
    exact e.elim
theorem Def.mono {x : Str} {ps : List Str} {j k : Nat} {sem : Sem1} (D : Def Pr w K mg base j x ps sem) (h : j ≤ k) : Def Pr w K mg base k x ps sem := by
  obtain ⟨fa, fd, F, h1, h2, h3⟩ := D.ex
  exact ⟨fa, fd, F.mono h, h1, h2, h3⟩
end

/-! ### calls -/
def Xc.fz (h : Hq) : Xc → Option Xc
  | .own C => some (.own C)
  | .fld C f w => (view h w).map fun d => .fld C f (.d d)
  | .blt T => some (.blt T)
/-- with the whole heap -/
def mCall (sem : Sem1) (mr : E (List A)) : E A := fun τ h => bd (mr τ h) fun ws h1 => sem ws h1
/-- with no cell in sight: the answer is data -/
def callP (sem : Sem1) (ws : List A) (h1 : Hq) : Option (Rs A) := match mapMn (view h1) ws with
  | some ds => (match sem (ds.map A.d) [] with
    | some (.ok w h') => (match view h' w with | some d => if (allD ws).isSome || d.flat then some (.ok (.d d) h1) else none | none => none)
    | some (.ex x h') => if (allD ws).isSome then (match x.fz h' with | some x' => some (.ex x' h1) | none => none) else none
    | none => none)
  | none => none
def mCallP (sem : Sem1) (mr : E (List A)) : E A := fun τ h => bd (mr τ h) fun ws h1 => callP sem ws h1
section
variable {K : PySem.W.Frag} {Z B H : Hp} {ρ : Nat → Option Addr} {h : Hq}
/-- nobody's cells: what is there stands aside -/
theorem Ok.void (ok : Ok K Z B ρ H h) : Ok K H B (fun _ => none) H [] := ⟨ok.ex, fun _ _ e => e, (fun k o e => by simp at e), (fun _ _ _ e => by cases e), (fun _ _ e => by cases e), fun _ _ => rfl⟩
theorem Ok.voidH (ok : Ok K Z B ρ H h) : Ok K H H (fun _ => none) H [] := ⟨fun _ _ e => e, fun _ _ e => e, (fun k o e => by simp at e), (fun _ _ _ e => by cases e), (fun _ _ e => by cases e), fun _ _ => rfl⟩
/-- back from a call without cells: all that is new is frozen -/
theorem Ok.backP (ok : Ok K Z B ρ H h) {B' H' : Hp} {ρ' : Nat → Option Addr} {h' : Hq} (ok' : Ok K H B' ρ' H' h') (g : Gr H B (fun _ => none) B' ρ') :
    ∃ B2, Ok K Z B2 ρ H' h ∧ Gr Z B ρ B2 ρ ∧ (∀ v w d, RA K B' ρ' v w → view h' w = some d → Rp K B2 v d) := by
  let B2 : Hp := fun a => if H a = none then H' a else B a
  have s0 : Same H H' := ok'.zz
  have zn : ∀ a, H a = none → Z a = none := fun a e => by
    cases z : Z a with
    | none => rfl
    | some u => rw [ok.zz a u z] at e; cases e
  have bn : ∀ a, H a = none → B a = none := fun a e => by
    cases z : B a with
    | none => rfl
    | some u => rw [ok.ex a u z] at e; cases e
  have b1 : Same B B2 := fun a o e => by
    show (if H a = none then H' a else B a) = some o
    rw [if_neg (by rw [ok.ex a o e]; simp)]
    exact e
  have b2 : Same B2 H' := fun a o e => by
    have e : (if H a = none then H' a else B a) = some o := e
    split at e
    · exact e
    · exact s0 _ _ (ok.ex a o e)
  have b3 : ∀ a, H a ≠ none → B2 a = B a := fun a e => if_neg e
  have b4 : Same B' B2 := fun a o e => by
    by_cases z : B a = none
    · have hz := g.fz a z (by rw [e]; simp)
      show (if H a = none then H' a else B a) = some o
      rw [if_pos hz]
      exact ok'.ex a o e
    · cases y : B a with
      | none => exact absurd y z
      | some u =>
        have := g.bb a u y
        rw [e] at this
        cases this
        exact b1 a o y
  have gg : Gr Z B ρ B2 ρ := ⟨b1, fun _ _ e => e, fun a e e' => by
    by_cases z : H a = none
    · exact zn a z
    · rw [b3 a z] at e'; exact absurd e e'⟩
  refine ⟨B2, ⟨b2, fun a o e => s0 _ _ (ok.zz a o e), fun k c e => ?_, ok.nj, fun k a e => ?_, ok.up⟩, gg, fun v w d r e => vw_at ok' b4 (fun b hz hb u hu => ?_) _ v w d r e⟩
  · obtain ⟨a, h1, h2⟩ := ok.ce k c e
    refine ⟨a, h1, ?_⟩
    cases h2 with
    | lst e1 e2 e3 e4 => exact .lst (s0 _ _ e1) (e2.mono gg) (by rw [b3 a (by rw [e1]; simp)]; exact e3) e4
    | nd e1 e2 e3 => exact .nd (e1.to fun b _ u e => s0 _ _ e) (e2.mono gg) fun b hb => ⟨by rw [b3 b (e1.own_or.2.2.1 b hb)]; exact (e3 b hb).1, (e3 b hb).2⟩
    | dead e1 => exact .dead e1
  · have := ok.al k a e
    cases z : H a with
    | none => exact absurd z this
    | some u => rw [s0 _ _ z]; simp
  · show (if H b = none then H' b else B b) = some u
    rw [if_pos hz]
    exact hu
theorem rpl_views (ok : Ok K Z B ρ H h) {vs : List V} {ws : List A} {ds : List D} (r : RAL K B ρ vs ws) (e : mapMn (view h) ws = some ds) : RpL K H vs ds := vws_of (fun v w d rv ev => ok.see rv ev) r e
theorem allD_view {h : Hq} {ws : List A} {ds es : List D} (e : allD ws = some ds) (e2 : mapMn (view h) ws = some es) : ds = es := by
  cases allD_of e
  rw [mapMn_d _ _ (vw_d 32 h)] at e2
  exact Option.some.inj e2
theorem callP_ok {W : XK} {Q : VK} {sem : Sem1} {vs : List V} {ws : List A} {np : Nat} (ok : Ok K Z B ρ H h) (r : RAL K B ρ vs ws) (hl : ws.length = np)
    (q : Post K Z W B ρ (fun w _ B' ρ' H' => ∀ v, RA K B' ρ' v w → Q v H') (callP sem ws h)) : spQ K np sem vs H Q W := by
  refine ⟨by rw [r.length]; exact hl, ?_⟩
  unfold callP at q
  split at q
  · rename_i ds e1
    cases e0 : allD ws with
    | some ds' =>
      have := allD_view e0 e1
      subst this
      cases allD_of e0
      refine ⟨H, B, fun _ => none, [], ds'.map A.d, ok.void, ral_ds (ral_rpl r), ?_⟩
      split at q
      · rename_i w h' e2
        rw [e2]
        intro B' ρ' H' ok' g v rv
        split at q
        · rename_i d e3
          split at q
          · obtain ⟨B2, o2, g2, see⟩ := ok.backP ok' g
            exact q B2 ρ H' o2 g2 v (.d (see v w d rv e3))
          · exact q.elim
        · exact q.elim
      · rename_i x h' e2
        rw [e2]
        intro B' ρ' H' cls dd ok' g xc
        rw [e0] at q
        dsimp only [Option.isSome] at q
        rw [if_pos rfl] at q
        split at q
        · rename_i x' e3
          obtain ⟨B2, o2, g2, see⟩ := ok.backP ok' g
          refine q B2 ρ H' cls dd o2 g2 ?_
          cases xc with
          | own c => cases e3; exact .own c
          | fld c1 c2 c3 =>
            obtain ⟨d, e4, rfl⟩ := Option.map_eq_some_iff.mp e3
            exact .fld c1 c2 (.d (see _ _ _ c3 e4))
          | blt => cases e3; exact .blt
        · exact q.elim
      · exact q.elim
    | none =>
      refine ⟨H, H, fun _ => none, [], ds.map A.d, ok.voidH, ral_ds (rpl_views ok r e1), ?_⟩
      rw [e0] at q
      split at q
      · rename_i w h' e2
        rw [e2]
        intro B' ρ' H' ok' g v rv
        split at q
        · rename_i d e3
          split at q
          · rename_i hf
            have hf : d.flat = true := by simpa using hf
            have see := ok'.see rv e3
            have o2 := ok.grow ok'.zz
            exact q B ρ H' o2 Gr.refl v (.d (rp_flat see hf))
          · exact q.elim
        · exact q.elim
      · rename_i x h' e2
        exact q.elim
      · exact q.elim
  · exact q.elim
end
section
variable {X : Cx} {W : WX} {a o : Expr} {es : List Expr} {mr : E (List A)} {mo : E A} {sem : Sem1} {pos px apos : Pos} {j k : Nat} {ps : List Str}
theorem te_args {β : Type} {K : PySem.W.Frag} {σ : L2.St} {H Z B : Hp} {ρ : Nat → Option Addr} {τ : Sl} {h : Hq} {kk : List A → Hq → Option (Rs β)} {R : β → Hq → Hp → (Nat → Option Addr) → Hp → Prop} {Q : List V → Hp → Prop} (ok : Ok K Z B ρ H h) (sl : SlOk K B ρ σ τ) (q : Post K Z (fun c d H' => W c d σ H') B ρ R (bd (mr τ h) kk))
    (c : ∀ vs ws h1 B1 ρ1 H1, RAL K B1 ρ1 vs ws → Ok K Z B1 ρ1 H1 h1 → SlOk K B1 ρ1 σ τ → Gr Z B ρ B1 ρ1 → Post K Z (fun c d H' => W c d σ H') B1 ρ1 R (kk ws h1) → Q vs H1) : tAs K W mr σ H Q :=
  ⟨Z, B, ρ, τ, h, ok, sl, q.bd.imp fun ws h1 B1 ρ1 H1 ok1 g1 q1 vs r => c vs ws h1 B1 ρ1 H1 r ok1 (sl.mono g1) g1 q1⟩
/-- how many arguments: known from the text -/
def lenIs (n : Nat) (mr : E (List A)) : E (List A) := fun τ h => bd (mr τ h) fun ws h1 => if ws.length = n then some (.ok ws h1) else none
theorem rx_call {x : Str} (tk : Takes X W) (Df : Def X.prog X.w X.K X.mg X.base j x ps sem) (hr : Room k X.A) (hj : j ≤ k) (ha : RAs X W (a :: es) mr)
    (hg : Gl X x := by rfl) (hdb : (x == ("__debug__" : Str)) = false := by decide) (he : starEach (a :: es) X.env = (false, eval a X.env) :: starEach es X.env := by rfl) (hpl : (backTo pos (starEach es X.env)).any (·.1) = false := by rfl) :
    RX X W (.Call (.Name x px) (a :: es) [] pos) (mCall sem (lenIs ps.length mr)) := by
  obtain ⟨fa, fd, F, h1, h2, h3⟩ := Df.ex
  refine ⟨pe_imp (pe_callS F (hr.mono hj) hg h1 h2 h3 (fun σ => passAt tk σ) ha.pa hdb he hpl) fun σ H Q q => ?_⟩
  obtain ⟨Z, B, ρ, τ, h, ok, sl, q⟩ := q
  have q := q.bd
  unfold lenIs at q
  refine te_args ok sl q fun vs ws h1 B1 ρ1 H1 r ok1 sl1 g1 q1 => ?_
  split at q1
  · rename_i hl
    exact ⟨by rw [r.length]; exact hl, Z, B1, ρ1, h1, ws, ok1, r, q1.now ok1⟩
  · exact q1.elim
theorem rx_callP {x : Str} (tk : Takes X W) (Df : Def X.prog X.w X.K X.mg X.base j x ps sem) (hr : Room k X.A) (hj : j ≤ k) (ha : RAs X W (a :: es) mr)
    (hg : Gl X x := by rfl) (hdb : (x == ("__debug__" : Str)) = false := by decide) (he : starEach (a :: es) X.env = (false, eval a X.env) :: starEach es X.env := by rfl) (hpl : (backTo pos (starEach es X.env)).any (·.1) = false := by rfl) :
    RX X W (.Call (.Name x px) (a :: es) [] pos) (mCallP sem (lenIs ps.length mr)) := by
  obtain ⟨fa, fd, F, h1, h2, h3⟩ := Df.ex
  refine ⟨pe_imp (pe_callS F (hr.mono hj) hg h1 h2 h3 (fun σ => passAt tk σ) ha.pa hdb he hpl) fun σ H Q q => ?_⟩
  obtain ⟨Z, B, ρ, τ, h, ok, sl, q⟩ := q
  have q := q.bd
  unfold lenIs at q
  refine te_args ok sl q fun vs ws h1 B1 ρ1 H1 r ok1 sl1 g1 q1 => ?_
  split at q1
  · rename_i hl
    exact callP_ok ok1 r hl (q1.now ok1)
  · exact q1.elim
/-- of the class C, without a field m -/
def insOf (C m : Str) (a : A) (h : Hq) : Bool := match dicOf h a with
  | some (.ins C' fs, _) => decide (C' = C) && !decide (m ∈ fs)
  | _ => false
def mMeth (C m : Str) (n : Nat) (sem : Sem1) (mo : E A) (mr : E (List A)) : E A := fun τ h => bd (mo τ h) fun a h1 => if insOf C m a h1 = true then bd (mr τ h1) fun ws h2 => if ws.length + 1 = n then sem (a :: ws) h2 else none else none
def mMethP (C m : Str) (n : Nat) (sem : Sem1) (mo : E A) (mr : E (List A)) : E A := fun τ h => bd (mo τ h) fun a h1 => if insOf C m a h1 = true then bd (mr τ h1) fun ws h2 => if ws.length + 1 = n then callP sem (a :: ws) h2 else none else none
theorem lookup_none {f : Str} : ∀ {fs : List Str} {vs : List V}, f ∉ fs → (fs.zip vs).lookup f = none
  | [], _, _ => rfl
  | _ :: _, [], _ => rfl
  | g :: fs, v :: vs, h => by
    rw [List.zip_cons_cons, List.lookup_cons]
    have : (f == g) = false := by
      have : f ≠ g := fun z => h (by rw [z]; exact List.mem_cons_self ..)
      simpa using this
    rw [this]
    exact lookup_none fun z => h (List.mem_cons_of_mem _ z)
theorem insOf_ra {K : PySem.W.Frag} {Z B H : Hp} {ρ : Nat → Option Addr} {h : Hq} {C m : Str} {ca : Addr} {x : V} {a : A} (ok : Ok K Z B ρ H h) (hc : glAt K C = some ca) (r : RA K B ρ x a) (e : insOf C m a h = true) : ∃ p dx fs, x = .ref p ∧ H p = some (.ins ca dx fs) ∧ fs.lookup m = none := by
  unfold insOf at e
  split at e
  · rename_i C' fs ws e1
    rw [Bool.and_eq_true] at e
    have eC : C' = C := of_decide_eq_true e.1
    subst eC
    obtain ⟨p, vs, own, rfl, x1, r1⟩ := dicOf_ra ok r e1
    cases x1 with
    | ins i0 i1 i2 i3 =>
      rw [hc] at i0
      cases i0
      exact ⟨p, _, _, rfl, i1, lookup_none (by simpa using e.2)⟩
  · cases e
/-- o.m(..), where what is raised is wished for at the slots -/
theorem pe_methW {pl : Sem Bool} {C f : Addr} {m : Str} {fd : FuncData} {sp : Sp} {t : TA} {ta : TE} {CX : CXT} {E : L2.St → XK} (he : PE X o ta) (c : Cls X.K C) (hm : Meth X.K C m f) (F : FnOk X.prog X.w X.K X.mg X.base CX k f fd ps sp) (hr : Room k X.A) (hb : Binds X.K fd ps []) (hx : ∀ σ, PassesAt CX X σ (E σ)) (ha : PA X (a :: es) t)
    (hst : starEach (a :: es) X.env = (false, eval a X.env) :: starEach es X.env := by rfl) (hpl : (backTo pos (starEach es X.env)).any (·.1) = false := by rfl)
    (ht : eval (.Call (.Attribute o m apos) (a :: es) [] pos) X.env = (do
      let ov ← eval o X.env
      standAt apos.atName
      let (f, first) ← holding [ov] (getMethod ov m pl)
      callWith pos f first (backTo pos (starEach (a :: es) X.env)) (backToKw pos (keywordEach [] X.env))) := by rfl) :
    PE X (.Call (.Attribute o m apos) (a :: es) [] pos) (fun σ H Q => ta σ H fun x H1 => ∃ a dx fs, x = .ref a ∧ H1 a = some (.ins C dx fs) ∧ fs.lookup m = none ∧ t σ H1 fun vs H2 => sp (x :: vs) H2 Q (E σ)) := by
  refine ⟨fun pins s σ H Q I h => ?_⟩
  refine PySem.W.methodCall_KW (pl := pl) (thn (he.run pins s σ H _ I h) fun u s1 ⟨x, H1, I1, rx, a, dx, fs, ex, ea, l, q⟩ => ?_) ht
  subst ex
  obtain rfl : u = Value.ref a := rx
  refine getmeth_ok I1 ea c hm l ?_
  refine PySem.W.callWith_K (first := [.ref a]) (h₀ := X.base) I.ok.mod.kin hm.kp (thn (ha.run pos pins s1 σ H1 _ I1 q) fun us s2 ⟨vs, H2, I2, r, q2⟩ => ⟨I2.kIn, ?_⟩) hst hpl
  exact run_fnS (us := .ref a :: us) (vs := .ref a :: vs) F hr hb (hx σ) I2 (.cons rfl r) q2
theorem pe_methW0 {pl : Sem Bool} {C f : Addr} {m : Str} {fd : FuncData} {sp : Sp} {ta : TE} {CX : CXT} {E : L2.St → XK} (he : PE X o ta) (c : Cls X.K C) (hm : Meth X.K C m f) (F : FnOk X.prog X.w X.K X.mg X.base CX k f fd ps sp) (hr : Room k X.A) (hb : Binds X.K fd ps []) (hx : ∀ σ, PassesAt CX X σ (E σ))
    (ht : eval (.Call (.Attribute o m apos) [] [] pos) X.env = (do
      let ov ← eval o X.env
      standAt apos.atName
      let (f, first) ← holding [ov] (getMethod ov m pl)
      callWith pos f first (backTo pos (starEach [] X.env)) (backToKw pos (keywordEach [] X.env))) := by rfl) :
    PE X (.Call (.Attribute o m apos) [] [] pos) (fun σ H Q => ta σ H fun x H1 => ∃ a dx fs, x = .ref a ∧ H1 a = some (.ins C dx fs) ∧ fs.lookup m = none ∧ sp [x] H1 Q (E σ)) := by
  refine ⟨fun pins s σ H Q I h => ?_⟩
  refine PySem.W.methodCall_KW (pl := pl) (thn (he.run pins s σ H _ I h) fun u s1 ⟨x, H1, I1, rx, a, dx, fs, ex, ea, l, q⟩ => ?_) ht
  subst ex
  obtain rfl : u = Value.ref a := rx
  refine getmeth_ok I1 ea c hm l ?_
  exact PySem.W.callWith_K0 (first := [.ref a]) I1.kIn hm.kp (run_fnS (us := [.ref a]) (vs := [.ref a]) F hr hb (hx σ) I1 (.cons rfl .nil) q)
theorem rx_meth {C m : Str} {pl : Sem Bool} (tk : Takes X W) (Df : DefM X.prog X.w X.K X.mg X.base j C m ps sem) (hr : Room k X.A) (hj : j ≤ k) (ho : RX X W o mo) (ha : RAs X W (a :: es) mr)
    (hst : starEach (a :: es) X.env = (false, eval a X.env) :: starEach es X.env := by rfl) (hpl : (backTo pos (starEach es X.env)).any (·.1) = false := by rfl)
    (ht : eval (.Call (.Attribute o m apos) (a :: es) [] pos) X.env = (do
      let ov ← eval o X.env
      standAt apos.atName
      let (f, first) ← holding [ov] (getMethod ov m pl)
      callWith pos f first (backTo pos (starEach (a :: es) X.env)) (backToKw pos (keywordEach [] X.env))) := by rfl) : RX X W (.Call (.Attribute o m apos) (a :: es) [] pos) (mMeth C m ps.length sem mo mr) := by
  obtain ⟨ca, fa, fd, c1, c2, c3, F, hb⟩ := Df.ex
  refine ⟨pe_imp (pe_methW ho.pe c2 c3 F (hr.mono hj) hb (fun σ => passAt tk σ) ha.pa hst hpl ht) fun σ H Q q => ?_⟩
  obtain ⟨Z, B, ρ, τ, h, ok, sl, q⟩ := q
  refine te_bd ok sl q fun x w h1 B1 ρ1 H1 rx ok1 sl1 g1 q1 => ?_
  split at q1
  · rename_i hi
    obtain ⟨p, dx, fs, ex, i1, i2⟩ := insOf_ra ok1 c1 rx hi
    refine ⟨p, dx, fs, ex, i1, i2, te_args ok1 sl1 q1 fun vs ws h2 B2 ρ2 H2 r ok2 sl2 g2 q2 => ?_⟩
    split at q2
    · rename_i hl
      exact ⟨by rw [List.length_cons, r.length]; exact hl, Z, B2, ρ2, h2, w :: ws, ok2, .cons (rx.mono g2) r, q2⟩
    · exact q2.elim
  · exact q1.elim
theorem rx_meth0 {C m : Str} {pl : Sem Bool} (tk : Takes X W) (Df : DefM X.prog X.w X.K X.mg X.base j C m ps sem) (hr : Room k X.A) (hj : j ≤ k) (ho : RX X W o mo)
    (ht : eval (.Call (.Attribute o m apos) [] [] pos) X.env = (do
      let ov ← eval o X.env
      standAt apos.atName
      let (f, first) ← holding [ov] (getMethod ov m pl)
      callWith pos f first (backTo pos (starEach [] X.env)) (backToKw pos (keywordEach [] X.env))) := by rfl) : RX X W (.Call (.Attribute o m apos) [] [] pos) (mMeth C m ps.length sem mo maNil) := by
  obtain ⟨ca, fa, fd, c1, c2, c3, F, hb⟩ := Df.ex
  refine ⟨pe_imp (pe_methW0 ho.pe c2 c3 F (hr.mono hj) hb (fun σ => passAt tk σ) ht) fun σ H Q q => ?_⟩
  obtain ⟨Z, B, ρ, τ, h, ok, sl, q⟩ := q
  refine te_bd ok sl q fun x w h1 B1 ρ1 H1 rx ok1 sl1 g1 q1 => ?_
  split at q1
  · rename_i hi
    obtain ⟨p, dx, fs, ex, i1, i2⟩ := insOf_ra ok1 c1 rx hi
    refine ⟨p, dx, fs, ex, i1, i2, ?_⟩
    have q2 : Post X.K Z (fun c d H' => W c d σ H') B1 ρ1 (fun w _ B' ρ' H' => ∀ v, RA X.K B' ρ' v w → Q v H') (if ([] : List A).length + 1 = ps.length then sem (w :: []) h1 else none) := q1
    split at q2
    · rename_i hl
      exact ⟨hl, Z, B1, ρ1, h1, [w], ok1, .cons rx .nil, q2⟩
    · exact q2.elim
  · exact q1.elim
theorem rx_methP {C m : Str} {pl : Sem Bool} (tk : Takes X W) (Df : DefM X.prog X.w X.K X.mg X.base j C m ps sem) (hr : Room k X.A) (hj : j ≤ k) (ho : RX X W o mo) (ha : RAs X W (a :: es) mr)
    (hst : starEach (a :: es) X.env = (false, eval a X.env) :: starEach es X.env := by rfl) (hpl : (backTo pos (starEach es X.env)).any (·.1) = false := by rfl)
    (ht : eval (.Call (.Attribute o m apos) (a :: es) [] pos) X.env = (do
      let ov ← eval o X.env
      standAt apos.atName
      let (f, first) ← holding [ov] (getMethod ov m pl)
      callWith pos f first (backTo pos (starEach (a :: es) X.env)) (backToKw pos (keywordEach [] X.env))) := by rfl) : RX X W (.Call (.Attribute o m apos) (a :: es) [] pos) (mMethP C m ps.length sem mo mr) := by
  obtain ⟨ca, fa, fd, c1, c2, c3, F, hb⟩ := Df.ex
  refine ⟨pe_imp (pe_methW ho.pe c2 c3 F (hr.mono hj) hb (fun σ => passAt tk σ) ha.pa hst hpl ht) fun σ H Q q => ?_⟩
  obtain ⟨Z, B, ρ, τ, h, ok, sl, q⟩ := q
  refine te_bd ok sl q fun x w h1 B1 ρ1 H1 rx ok1 sl1 g1 q1 => ?_
  split at q1
  · rename_i hi
    obtain ⟨p, dx, fs, ex, i1, i2⟩ := insOf_ra ok1 c1 rx hi
    refine ⟨p, dx, fs, ex, i1, i2, te_args ok1 sl1 q1 fun vs ws h2 B2 ρ2 H2 r ok2 sl2 g2 q2 => ?_⟩
    split at q2
    · rename_i hl
      exact callP_ok ok2 (.cons (rx.mono g2) r) (by rw [List.length_cons]; exact hl) q2
    · exact q2.elim
  · exact q1.elim
theorem rx_methP0 {C m : Str} {pl : Sem Bool} (tk : Takes X W) (Df : DefM X.prog X.w X.K X.mg X.base j C m ps sem) (hr : Room k X.A) (hj : j ≤ k) (ho : RX X W o mo)
    (ht : eval (.Call (.Attribute o m apos) [] [] pos) X.env = (do
      let ov ← eval o X.env
      standAt apos.atName
      let (f, first) ← holding [ov] (getMethod ov m pl)
      callWith pos f first (backTo pos (starEach [] X.env)) (backToKw pos (keywordEach [] X.env))) := by rfl) : RX X W (.Call (.Attribute o m apos) [] [] pos) (mMethP C m ps.length sem mo maNil) := by
  obtain ⟨ca, fa, fd, c1, c2, c3, F, hb⟩ := Df.ex
  refine ⟨pe_imp (pe_methW0 ho.pe c2 c3 F (hr.mono hj) hb (fun σ => passAt tk σ) ht) fun σ H Q q => ?_⟩
  obtain ⟨Z, B, ρ, τ, h, ok, sl, q⟩ := q
  refine te_bd ok sl q fun x w h1 B1 ρ1 H1 rx ok1 sl1 g1 q1 => ?_
  split at q1
  · rename_i hi
    obtain ⟨p, dx, fs, ex, i1, i2⟩ := insOf_ra ok1 c1 rx hi
    refine ⟨p, dx, fs, ex, i1, i2, ?_⟩
    have q2 : Post X.K Z (fun c d H' => W c d σ H') B1 ρ1 (fun w _ B' ρ' H' => ∀ v, RA X.K B' ρ' v w → Q v H') (if ([] : List A).length + 1 = ps.length then callP sem (w :: []) h1 else none) := q1
    split at q2
    · rename_i hl
      exact callP_ok ok1 (.cons rx .nil) hl q2
    · exact q2.elim
  · exact q1.elim

/-! ### C(..) -/
def mMake (C : Str) (n : Nat) (sem : Sem1) (mr : E (List A)) : E A := fun τ h => bd (mr τ h) fun ws h1 => if ws.length + 1 = n then (match sem (.r h1.length :: ws) (h1 ++ [.nd (.ins C []) []]) with
  | some (.ok (.d .non) h2) => some (.ok (.r h1.length) h2)
  | _ => none) else none
/-- frozen at once: arguments data -/
def makeP (C : Str) (n : Nat) (sem : Sem1) (ws : List A) (h1 : Hq) : Option (Rs A) := if ws.length + 1 = n then (match allD ws with
  | some ds => (match sem (.r 0 :: ds.map A.d) [.nd (.ins C []) []] with
    | some (.ok (.d .non) h2) => (match view h2 (.r 0) with | some d => some (.ok (.d d) h1) | none => none)
    | _ => none)
  | none => none) else none
def mMakeP (C : Str) (n : Nat) (sem : Sem1) (mr : E (List A)) : E A := fun τ h => bd (mr τ h) fun ws h1 => makeP C n sem ws h1
theorem ok_new {K : PySem.W.Frag} {Z B H : Hp} {ρ : Nat → Option Addr} {h : Hq} {C : Str} {ca x dx : Addr} (ok : Ok K Z B ρ H h) (hc : glAt K C = some ca) (hx : H x = none) (hdx : H dx = none) (ne : dx ≠ x) :
    Ok K Z B (fun k => if k = h.length then some x else ρ k) (upd (upd H dx (.own x)) x (.ins ca dx [])) (h ++ [.nd (.ins C []) []]) ∧ Gr Z B ρ B (fun k => if k = h.length then some x else ρ k) := by
  have bn : ∀ a, H a = none → B a = none ∧ Z a = none := fun a e => by
    constructor
    · cases z : B a with
      | none => rfl
      | some u => rw [ok.ex a u z] at e; cases e
    · cases z : Z a with
      | none => rfl
      | some u => rw [ok.zz a u z] at e; cases e
  refine ok.newC hx (fun b u e => ?_) (by rw [upd_same]; simp) (.nd (vs := []) (own := [x, dx]) (.ins hc (by rw [upd_same]; rfl) (by rw [upd_ne ne, upd_same]) rfl) .nil fun b hb => ?_)
  · rw [upd_ne (ne_of_none e hx), upd_ne (ne_of_none e hdx)]; exact e
  · rcases List.mem_cons.mp hb with z | hb
    · rw [z]; exact bn x hx
    · rw [List.mem_singleton.mp hb]; exact bn dx hdx
theorem rx_make {C : Str} (tk : Takes X W) (hMk : MkC X.K X.mg C) (Df : DefM X.prog X.w X.K X.mg X.base j C "__init__" ps sem) (hr : Room k X.A) (hj : j + 1 ≤ k) (ha : RAs X W (a :: es) mr)
    (hg : Gl X C := by rfl) (hdb : (C == ("__debug__" : Str)) = false := by decide) (he : starEach (a :: es) X.env = (false, eval a X.env) :: starEach es X.env := by rfl) (hpl : (backTo pos (starEach es X.env)).any (·.1) = false := by rfl) :
    RX X W (.Call (.Name C px) (a :: es) [] pos) (mMake C ps.length sem mr) := by
  obtain ⟨ca, fa, fd, c1, c2, c3, F, hb⟩ := Df.ex
  obtain ⟨ca', fa', m1, m2, m3, m4⟩ := hMk.ex
  rw [c1] at m1
  cases m1
  have ef : fa' = fa := by
    have := c3.at_
    rw [m4] at this
    cases this
    rfl
  subst ef
  refine ⟨pe_imp (pe_make m3 F (hr.mono hj) hg m2 hb .nil passL ha.pa hdb he hpl) fun σ H Q q => ?_⟩
  obtain ⟨Z, B, ρ, τ, h, ok, sl, q⟩ := q
  refine te_args ok sl q fun vs ws h1 B1 ρ1 H1 r ok1 sl1 g1 q1 => ?_
  intro x dx hx hdx ne
  split at q1
  · rename_i hl
    obtain ⟨ok2, g2⟩ := ok_new ok1 c1 hx hdx ne
    refine ⟨by rw [List.append_nil, List.length_cons, r.length]; exact hl, Z, B1, _, _, .r h1.length :: ws, ok2, .cons (.r (if_pos rfl)) (by rw [List.append_nil]; exact r.mono g2), ?_⟩
    split at q1
    · rename_i h2 e2
      rw [e2]
      intro B' ρ' H' ok' g' v rv
      refine ⟨rp_non (ra_d rv), q1 B' ρ' H' ok' (g2.trans g') _ (.r (g'.rr _ _ (if_pos rfl)))⟩
    · exact q1.elim
  · exact q1.elim
theorem rx_make0 {C : Str} (tk : Takes X W) (hMk : MkC X.K X.mg C) (Df : DefM X.prog X.w X.K X.mg X.base j C "__init__" ps sem) (hr : Room k X.A) (hj : j + 1 ≤ k)
    (hg : Gl X C := by rfl) (hdb : (C == ("__debug__" : Str)) = false := by decide) : RX X W (.Call (.Name C px) [] [] pos) (mMake C ps.length sem maNil) := by
  obtain ⟨ca, fa, fd, c1, c2, c3, F, hb⟩ := Df.ex
  obtain ⟨ca', fa', m1, m2, m3, m4⟩ := hMk.ex
  rw [c1] at m1
  cases m1
  have ef : fa' = fa := by
    have := c3.at_
    rw [m4] at this
    cases this
    rfl
  subst ef
  refine ⟨pe_imp (pe_make0 m3 F (hr.mono hj) hg m2 hb .nil passL hdb) fun σ H Q q => ?_⟩
  obtain ⟨Z, B, ρ, τ, h, ok, sl, q⟩ := q
  intro x dx hx hdx ne
  have q1 : Post X.K Z (fun c d H' => W c d σ H') B ρ (fun w _ B' ρ' H' => ∀ v, RA X.K B' ρ' v w → Q v H') (if ([] : List A).length + 1 = ps.length then (match sem (.r h.length :: []) (h ++ [.nd (.ins C []) []]) with
    | some (.ok (.d .non) h2) => some (.ok (.r h.length) h2)
    | _ => none) else none) := q
  split at q1
  · rename_i hl
    obtain ⟨ok2, g2⟩ := ok_new ok c1 hx hdx ne
    refine ⟨hl, Z, B, _, _, [.r h.length], ok2, .cons (.r (if_pos rfl)) .nil, ?_⟩
    split at q1
    · rename_i h2 e2
      rw [e2]
      intro B' ρ' H' ok' g' v rv
      refine ⟨rp_non (ra_d rv), q1 B' ρ' H' ok' (g2.trans g') _ (.r (g'.rr _ _ (if_pos rfl)))⟩
    · exact q1.elim
  · exact q1.elim
theorem rx_makeP {C : Str} (tk : Takes X W) (hMk : MkC X.K X.mg C) (Df : DefM X.prog X.w X.K X.mg X.base j C "__init__" ps sem) (hr : Room k X.A) (hj : j + 1 ≤ k) (ha : RAs X W (a :: es) mr)
    (hg : Gl X C := by rfl) (hdb : (C == ("__debug__" : Str)) = false := by decide) (he : starEach (a :: es) X.env = (false, eval a X.env) :: starEach es X.env := by rfl) (hpl : (backTo pos (starEach es X.env)).any (·.1) = false := by rfl) :
    RX X W (.Call (.Name C px) (a :: es) [] pos) (mMakeP C ps.length sem mr) := by
  obtain ⟨ca, fa, fd, c1, c2, c3, F, hb⟩ := Df.ex
  obtain ⟨ca', fa', m1, m2, m3, m4⟩ := hMk.ex
  rw [c1] at m1
  cases m1
  have ef : fa' = fa := by
    have := c3.at_
    rw [m4] at this
    cases this
    rfl
  subst ef
  refine ⟨pe_imp (pe_make m3 F (hr.mono hj) hg m2 hb .nil passL ha.pa hdb he hpl) fun σ H Q q => ?_⟩
  obtain ⟨Z, B, ρ, τ, h, ok, sl, q⟩ := q
  refine te_args ok sl q fun vs ws h1 B1 ρ1 H1 r ok1 sl1 g1 q1 => ?_
  intro x dx hx hdx ne
  unfold makeP at q1
  split at q1
  · rename_i hl
    split at q1
    · rename_i ds e0
      cases allD_of e0
      obtain ⟨ok2, g2⟩ := ok_new ok1.void c1 hx hdx ne
      refine ⟨by rw [List.append_nil, List.length_cons, r.length]; exact hl, H1, B1, _, _, .r 0 :: ds.map A.d, ok2, .cons (.r (if_pos rfl)) (by rw [List.append_nil]; exact ral_ds (ral_rpl r)), ?_⟩
      split at q1
      · rename_i h2 e2
        have e2' : sem (.r 0 :: ds.map A.d) ([] ++ [.nd (.ins C []) []]) = some (.ok (.d .non) h2) := e2
        rw [e2']
        intro B' ρ' H' ok' g' v rv
        refine ⟨rp_non (ra_d rv), ?_⟩
        split at q1
        · rename_i d e3
          obtain ⟨B2, o2, g3, see⟩ := ok1.backP ok' (g2.trans g')
          exact q1 B2 ρ1 H' o2 g3 _ (.d (see _ _ d (.r (g'.rr _ _ (if_pos rfl))) e3))
        · exact q1.elim
      · exact q1.elim
    · exact q1.elim
  · exact q1.elim
end
end Tq

/-! Tq9: more operations: in, dict displays, get, isinstance of two, chains. -/
namespace Tq
open PySem PySem.Spec PyProof.Rows L2
/-! ### a text times a number -/
def repS (z : Str) (n : Nat) : Str := ⟨(List.replicate n z.cps).foldl (· ++ ·) #[]⟩
theorem fold_nil : ∀ (n : Nat) (a : Array Nat), List.foldl (fun x1 x2 => x1 ++ x2) a (List.replicate n #[]) = a
  | 0, _ => rfl
  | n + 1, a => by rw [List.replicate_succ, List.foldl_cons, Array.append_empty, fold_nil n]
def gRep : G2 := fun a b h => match a, b with
  | .d (.str z), .d (.int n) => if z.length * n.toNat ≤ LIM ∧ n < 2 ^ 62 ∧ -(2 ^ 62) < n then some (.ok (.d (.str (repS z n.toNat))) h) else none
  | _, _ => none
def rRepS : R2 := fun x y H Q => ∃ (z : Str) (n : Int), x = .str z ∧ y = .int n ∧ z.length * n.toNat ≤ LIM ∧ n < 2 ^ 62 ∧ -(2 ^ 62) < n ∧ Q (.str (repS z n.toNat)) H
theorem repS_len (z : Str) : ∀ n : Nat, (repS z n).length = n * z.length := by
  have go : ∀ (n : Nat) (a : Array Nat), (List.foldl (fun x1 x2 => x1 ++ x2) a (List.replicate n z.cps)).size = a.size + n * z.cps.size := by
    intro n
    induction n with
    | zero => intro a; simp
    | succ n ih =>
      intro a
      rw [List.replicate_succ, List.foldl_cons, ih, Array.size_append, Nat.succ_mul]
      omega
  intro n
  show (List.foldl (fun x1 x2 => x1 ++ x2) #[] (List.replicate n z.cps)).size = _
  rw [go]
  show 0 + n * z.cps.size = n * z.cps.size
  omega
theorem repS_ok {z : Str} (hz : PyData.strOk z = true) (n : Nat) : PyData.strOk (repS z n) = true := by
  have go : ∀ (n : Nat) (a : Array Nat), a.all (· < 0x110000) = true → (List.foldl (fun x1 x2 => x1 ++ x2) a (List.replicate n z.cps)).all (· < 0x110000) = true := by
    intro n
    induction n with
    | zero => intro a h; exact h
    | succ n ih =>
      intro a h
      rw [List.replicate_succ, List.foldl_cons]
      refine ih _ ?_
      rw [Array.all_append, h]
      exact hz
  exact go n #[] (by decide +kernel)
theorem str_eta (z : Str) : z = ⟨z.cps⟩ := rfl
section
variable {X : Cx}
theorem op_repS : OpR X (binaryOp .Mult) rRepS := by
  intro pins s σ H x y v u Q I rx ry h
  obtain ⟨z, n, rfl, rfl, hz, h1, h2, q⟩ := h
  obtain ⟨t, rfl⟩ := rx
  obtain ⟨t', rfl⟩ := ry
  rw [lim_eq] at hz
  have ns : ∀ b : Bool, ¬ n < 1 → Builtin.Str.tooLong (z.length * n.toNat) = false := fun _ _ => decide_eq_false (by omega)
  refine P.mul_str (by rw [decide_eq_false (by omega), decide_eq_false (by omega)]; rfl) (fun a b c => ?_) (fun a _ => ns true a) ?_
  · have e1 : ((z.length * n.toNat : Nat) : Int) = (z.length : Int) * n := by
      rw [Int.natCast_mul, Int.toNat_of_nonneg (by omega)]
    have h3 : (z.length : Int) * n ≤ 16777216 := by
      rw [← e1]
      have : z.length * n.toNat ≤ 16777216 := hz
      omega
    have h4 : (z.length : Int) * n ≤ 2 ^ 63 - 1 := by omega
    have h5 := (Int.le_ediv_iff_mul_le (by omega : (0 : Int) < n)).mpr h4
    omega
  · by_cases g1 : n < 1
    · rw [if_pos g1]
      have e : repS z n.toNat = Str.empty := by
        have : n.toNat = 0 := by omega
        rw [this]
        rfl
      rw [e] at q
      exact ⟨by decide, .str Str.empty, H, I.tok _, ⟨_, rfl⟩, q⟩
    · rw [if_neg g1]
      by_cases g2 : (n == 1 || z.length == 0) = true
      · rw [if_pos g2]
        have e : repS z n.toNat = z := by
          rw [Bool.or_eq_true] at g2
          rcases g2 with g | g
          · have : n = 1 := eq_of_beq g
            subst this
            show Str.mk (#[] ++ z.cps) = z
            rw [Array.empty_append]
          · have g : z.cps.size = 0 := eq_of_beq g
            have g : z.cps = #[] := Array.eq_empty_of_size_eq_zero g
            show Str.mk (List.foldl (fun x1 x2 => x1 ++ x2) #[] (List.replicate n.toNat z.cps)) = z
            rw [g, fold_nil, ← g]
        rw [e] at q
        exact ⟨.str z, H, I, ⟨_, rfl⟩, q⟩
      · rw [if_neg g2]
        refine ⟨?_, .str (repS z n.toNat), H, I.tok _, ⟨_, rfl⟩, q⟩
        show (repS z n.toNat).length ≤ sizeLine
        rw [repS_len, Nat.mul_comm]
        exact hz
end
theorem og_rep {K : PySem.W.Frag} : Op2 K rRepS gRep := by
  intro Z B ρ H h x y a b W Q ok rx ry q
  unfold gRep at q
  split at q
  · split at q
    · rename_i hc
      exact ⟨_, _, ra_str rx, ra_int ry, hc.1, hc.2.1, hc.2.2, q.now ok _ (.d (.str _))⟩
    · exact q.elim
  · exact q.elim

def gIsi2 (A T : String) : G1 := fun a h => match tyA h a with | some n => some (.ok (.d (.bl (isiN A n || isiN T n))) h) | none => none
section
variable {X : Cx} {W : WX} {a : Expr} {ma : E Tq.A} {pos : Pos}
theorem rx_isi2 {x y : Str} {A T : String} {px p1 p2 p3 : Pos} {k1 : Nat} (ha : RX X W a ma) (hmi : X.mg "isinstance" = none) (hmA : X.mg x = none) (hmT : X.mg y = none) (hv : bootBuiltins x = some (.type A) := by decide +kernel) (hw : bootBuiltins y = some (.type T) := by decide +kernel)
    (hA : A ∈ ["bool", "int", "str", "tuple", "list", "dict"] := by decide) (hT : T ∈ ["bool", "int", "str", "tuple", "list", "dict"] := by decide)
    (hgi : Gl X "isinstance" := by rfl) (hg : Gl X x := by rfl) (hg2 : Gl X y := by rfl) (hn : x ≠ "__name__" := by decide) (hn2 : y ≠ "__name__" := by decide) (hdb : (x == ("__debug__" : Str)) = false := by decide) (hdb2 : (y == ("__debug__" : Str)) = false := by decide)
    (he : starEach [a, .Tuple [.Name x p1, .Name y p2] k1 p3] X.env = (false, eval a X.env) :: starEach [.Tuple [.Name x p1, .Name y p2] k1 p3] X.env := by rfl) (he2 : starEach [.Tuple [.Name x p1, .Name y p2] k1 p3] X.env = (false, eval (.Tuple [.Name x p1, .Name y p2] k1 p3) X.env) :: starEach [] X.env := by rfl)
    (he3 : starEach [.Name x p1, .Name y p2] X.env = (false, eval (.Name x p1) X.env) :: starEach [.Name y p2] X.env := by rfl) (he4 : starEach [.Name y p2] X.env = (false, eval (.Name y p2) X.env) :: starEach [] X.env := by rfl)
    (hpl : (backTo pos (starEach [.Tuple [.Name x p1, .Name y p2] k1 p3] X.env)).any (·.1) = false := by rfl) :
    RX X W (.Call (.Name "isinstance" px) [a, .Tuple [.Name x p1, .Name y p2] k1 p3] [] pos) (mUn (gIsi2 A T) ma) := by
  let r2 : V → Hp → VK → Prop := fun v H Q => [V.ty A, V.ty T].length ≤ sizeLine ∧ ∀ q, H q = none → rIsiT X.K [v, .ref q] (upd H q (.tup [.ty A, .ty T])) Q
  refine rx_op1 (r := r2) ha ?_ fun {ta} h1 => pe_callB call_isiT hgi hmi (by decide +kernel) (pa_cons h1 (pa_cons (pe_tup (pa_cons (pe_bltn (v := .ty A) hg hmA hv rfl hn hdb) (pa_cons (pe_bltn (v := .ty T) hg2 hmT hw rfl hn2 hdb2) pa_nil he4) he3)) pa_nil he2) he) (by decide) (by decide) he hpl
  intro Z B ρ H h x a W Q ok rx q
  unfold gIsi2 at q
  split at q
  · rename_i n e
    refine ⟨show 2 ≤ 16777216 by decide, fun p hp => ?_⟩
    obtain ⟨ok2, g2⟩ := ok.newB (o := .tup [V.ty A, V.ty T]) hp
    obtain ⟨h1, h2⟩ := tyx_ra ok2 (rx.mono g2) e
    refine ⟨x, p, _, .type n, [.type A, .type T], _, rfl, upd_same, .cons (.ty A) (.cons (.ty T) .nil), h1, ?_, q _ _ _ ok2 g2 _ (.d (.bl _))⟩
    show (match PySem.W.kitOne X.K (.type n) (.type A) with
      | some true => some true
      | some false => (match PySem.W.kitOne X.K (.type n) (.type T) with | some true => some true | some false => some false | none => none)
      | none => none) = _
    rw [kit_isiN hA h2, kit_isiN hT h2]
    cases isiN A n <;> cases isiN T n <;> rfl
  · exact q.elim
end
/-! ### in -/
theorem flatV_rp {K : PySem.W.Frag} {B : Hp} {v : V} {d : D} (r : Rp K B v d) (h : d.flat = true) : flatV v = true := by
  cases r <;> first | rfl | cases h
theorem eqV_rp {K : PySem.W.Frag} {B : Hp} {v u : V} {d e : D} (r1 : Rp K B v d) (r2 : Rp K B u e) (h1 : d.flat = true) (h2 : e.flat = true) : eqV v u = D.eqv d e := by
  cases r1 <;> first | (cases h1; done) | (cases r2 <;> first | (cases h2; done) | simp [eqV, D.eqv, D.toP, PyData.eqv])
theorem all_flatV {K : PySem.W.Frag} {B : Hp} {vs : List V} {ds : List D} (r : RpL K B vs ds) (h : ds.all D.flat = true) : vs.all flatV = true := by
  induction vs generalizing ds with
  | nil => rfl
  | cons v vs ih =>
    cases r with
    | cons w wl =>
      rw [List.all_cons, Bool.and_eq_true] at h
      rw [List.all_cons, flatV_rp w h.1, ih wl h.2]
      rfl
theorem inV_rp {K : PySem.W.Frag} {B : Hp} {v : V} {d : D} {vs : List V} {ds : List D} (r1 : Rp K B v d) (h1 : d.flat = true) (r : RpL K B vs ds) (h : ds.all D.flat = true) : inV v vs = ds.any fun z => D.eqv z d := by
  unfold inV
  induction vs generalizing ds with
  | nil =>
    cases r
    rfl
  | cons u vs ih =>
    cases r with
    | cons w wl =>
      rw [List.all_cons, Bool.and_eq_true] at h
      rw [List.any_cons, List.any_cons, eqV_rp w r1 h.1 h1, ih wl h.2]
theorem any_toPs (d : D) : ∀ ds : List D, (D.toPs ds).any (fun z => PyData.eqv z d.toP) = ds.any fun z => D.eqv z d
  | [] => rfl
  | x :: r => by
    unfold D.toPs
    rw [List.any_cons, List.any_cons, any_toPs d r]
    rfl
def sign1 (x : Str) : Option Nat := match x.cps.toList with | [c] => some c | _ => none
theorem sign1_eq {x : Str} {c : Nat} (h : sign1 x = some c) : x = ⟨#[c]⟩ := by
  obtain ⟨⟨l⟩⟩ := x
  unfold sign1 at h
  match l, h with
  | [d], h => cases h; rfl
/-- x in y: a list, a tuple of flat things, one sign in a text -/
def inD (neg : Bool) (x y : D) : Option Bool := match y with
  | .lst ds => if x.shp && (D.lst ds).shp then some (if neg then !ds.any fun z => D.eqv z x else ds.any fun z => D.eqv z x) else none
  | .tup ds => if x.flat && ds.all D.flat then some (if neg then !ds.any fun z => D.eqv z x else ds.any fun z => D.eqv z x) else none
  | .kt ds => if x.flat && ds.all D.flat then some (if neg then !ds.any fun z => D.eqv z x else ds.any fun z => D.eqv z x) else none
  | .str z => (match x with
    | .str w => (match sign1 w with
      | some c => some (if neg then !decide (c ∈ z.cps.toList) else decide (c ∈ z.cps.toList))
      | none => some (if neg then !(!(Builtin.Str.occurrences z w 0 z.length 1).isEmpty) else !(Builtin.Str.occurrences z w 0 z.length 1).isEmpty))
    | _ => none)
  | _ => none
abbrev rInA (K : PySem.W.Frag) : R2 := fun x y H Q => rInD K x y H Q ∨ rIn K false x y H Q ∨ (∃ (c : Nat) (z : Str), x = .str ⟨#[c]⟩ ∧ y = .str z ∧ Q (.bl (decide (c ∈ z.cps.toList))) H) ∨ (∃ i j, x = .str i ∧ y = .str j ∧ Q (.bl (!(Builtin.Str.occurrences j i 0 j.length 1).isEmpty)) H)
abbrev rNotInA (K : PySem.W.Frag) : R2 := fun x y H Q => rNotInD K x y H Q ∨ rIn K true x y H Q ∨ (∃ (c : Nat) (z : Str), x = .str ⟨#[c]⟩ ∧ y = .str z ∧ Q (.bl (!decide (c ∈ z.cps.toList))) H) ∨ (∃ i j, x = .str i ∧ y = .str j ∧ Q (.bl (!(!(Builtin.Str.occurrences j i 0 j.length 1).isEmpty))) H)
theorem op_inA {X : Cx} (hu : X.A.units + 65 < cLine) : OpR X (compareOp .In) (rInA X.K) := (op_inD hu).or (op_in_seq.or (op_in_sign.or op_in_str))
theorem op_notInA {X : Cx} (hu : X.A.units + 65 < cLine) : OpR X (compareOp .NotIn) (rNotInA X.K) := (op_notInD hu).or (op_notIn_seq.or (op_notIn_sign.or op_notIn_str))
theorem og_in {K : PySem.W.Frag} : Op2 K (rInA K) (g2V (inD false)) := og_2v fun H x y d e k Q r1 r2 hk q => by
  unfold inD at hk
  split at hk
  · rename_i ds
    split at hk
    · rename_i hs
      rw [Bool.and_eq_true] at hs
      cases hk
      refine .inl ⟨_, _, r1.dp hs.1, (show Dp K H y (.list (D.toPs ds)) from r2.dp hs.2), hs.1, hs.2, ?_⟩
      rw [any_toPs]
      exact q
    · cases hk
  · rename_i ds
    split at hk
    · rename_i hs
      rw [Bool.and_eq_true] at hs
      cases hk
      cases r2 with
      | tup ht rl =>
        refine .inr (.inl ⟨_, _, rfl, .inr (sqt_of ht), flatV_rp r1 hs.1, all_flatV rl hs.2, ?_⟩)
        rw [inV_rp r1 hs.1 rl hs.2]
        exact q
    · cases hk
  · rename_i ds
    split at hk
    · rename_i hs
      rw [Bool.and_eq_true] at hs
      cases hk
      cases r2 with
      | kt ht rl =>
        refine .inr (.inl ⟨_, _, rfl, .inr ht, flatV_rp r1 hs.1, all_flatV rl hs.2, ?_⟩)
        rw [inV_rp r1 hs.1 rl hs.2]
        exact q
    · cases hk
  · rename_i z
    split at hk
    · rename_i w
      cases rp_str r1
      cases rp_str r2
      split at hk
      · rename_i c e
        cases hk
        cases sign1_eq e
        exact .inr (.inr (.inl ⟨c, z, rfl, rfl, q⟩))
      · cases hk
        exact .inr (.inr (.inr ⟨w, z, rfl, rfl, q⟩))
    · cases hk
  · cases hk
theorem og_notIn {K : PySem.W.Frag} : Op2 K (rNotInA K) (g2V (inD true)) := og_2v fun H x y d e k Q r1 r2 hk q => by
  unfold inD at hk
  split at hk
  · rename_i ds
    split at hk
    · rename_i hs
      rw [Bool.and_eq_true] at hs
      cases hk
      refine .inl ⟨_, _, r1.dp hs.1, (show Dp K H y (.list (D.toPs ds)) from r2.dp hs.2), hs.1, hs.2, ?_⟩
      rw [any_toPs]
      exact q
    · cases hk
  · rename_i ds
    split at hk
    · rename_i hs
      rw [Bool.and_eq_true] at hs
      cases hk
      cases r2 with
      | tup ht rl =>
        refine .inr (.inl ⟨_, _, rfl, .inr (sqt_of ht), flatV_rp r1 hs.1, all_flatV rl hs.2, ?_⟩)
        rw [inV_rp r1 hs.1 rl hs.2]
        exact q
    · cases hk
  · rename_i ds
    split at hk
    · rename_i hs
      rw [Bool.and_eq_true] at hs
      cases hk
      cases r2 with
      | kt ht rl =>
        refine .inr (.inl ⟨_, _, rfl, .inr ht, flatV_rp r1 hs.1, all_flatV rl hs.2, ?_⟩)
        rw [inV_rp r1 hs.1 rl hs.2]
        exact q
    · cases hk
  · rename_i z
    split at hk
    · rename_i w
      cases rp_str r1
      cases rp_str r2
      split at hk
      · rename_i c e
        cases hk
        cases sign1_eq e
        exact .inr (.inr (.inl ⟨c, z, rfl, rfl, q⟩))
      · cases hk
        exact .inr (.inr (.inr ⟨w, z, rfl, rfl, q⟩))
    · cases hk
  · cases hk
/-- k in d, d a dict -/
def gInK (neg : Bool) : G2 := fun kd a h => match dicOf h a with
  | some (hd, ws) => (match hGet hd ws kd with | some o => some (.ok (.d (.bl (neg != o.isSome))) h) | none => none)
  | none => none
section
variable {X : Cx} {W : WX} {a b c : Expr} {ma mb mc : E Tq.A} {pos : Pos}
theorem dinK_ok {K : PySem.W.Frag} {Z B H : Hp} {ρ : Nat → Option Addr} {h : Hq} {x y : V} {kd d : A} {neg : Bool} {Wk : XK} {Q : VK} (ok : Ok K Z B ρ H h) (ry : RA K B ρ y kd) (rx : RA K B ρ x d) (q : Post K Z Wk B ρ (fun w _ B' ρ' H' => ∀ v, RA K B' ρ' v w → Q v H') (gInK neg kd d h)) :
    ∃ p o, x = .ref p ∧ DGet H p y o ∧ Q (.bl (neg != o.isSome)) H := by
  unfold gInK at q
  split at q
  · rename_i hd ws e1
    split at q
    · rename_i o e2
      obtain ⟨p, vs, own, rfl, x1, r1⟩ := dicOf_ra ok rx e1
      obtain ⟨g1, g2⟩ := hGet_ok ok x1 r1 ry e2
      cases o with
      | none => exact ⟨p, none, rfl, g1 rfl, q.now ok _ (.d (.bl _))⟩
      | some w =>
        obtain ⟨v, g, _⟩ := g2 w rfl
        exact ⟨p, some v, rfl, g, q.now ok _ (.d (.bl _))⟩
    · exact q.elim
  · exact q.elim
theorem rx_inK (hu : X.A.units + 1 < cLine) (ha : RX X W a ma) (hb : RX X W b mb) (hm : behindInMarks .In b = false := by with_unfolding_all rfl) : RX X W (.Compare a [.In] [b] pos) (mBin (gInK false) ma mb) := ⟨pe_imp (pe_cmp (pc_din hu ha.pe hb.pe) hm) fun σ H Q q => by
  obtain ⟨Z, B, ρ, τ, h, ok, sl, q⟩ := q
  refine te_bd ok sl q fun y kd h1 B1 ρ1 H1 ry ok1 sl1 g1 q1 => te_bd ok1 sl1 q1 fun x d h2 B2 ρ2 H2 rx ok2 sl2 g2 q2 => ?_
  obtain ⟨p, o, e, g, z⟩ := dinK_ok ok2 (ry.mono g2) rx q2
  exact ⟨p, o, e, g, by simpa using z⟩⟩
theorem rx_notInK (hu : X.A.units + 1 < cLine) (ha : RX X W a ma) (hb : RX X W b mb) (hm : behindInMarks .NotIn b = false := by with_unfolding_all rfl) : RX X W (.Compare a [.NotIn] [b] pos) (mBin (gInK true) ma mb) := ⟨pe_imp (pe_cmp (pc_dnotin hu ha.pe hb.pe) hm) fun σ H Q q => by
  obtain ⟨Z, B, ρ, τ, h, ok, sl, q⟩ := q
  refine te_bd ok sl q fun y kd h1 B1 ρ1 H1 ry ok1 sl1 g1 q1 => te_bd ok1 sl1 q1 fun x d h2 B2 ρ2 H2 rx ok2 sl2 g2 q2 => ?_
  obtain ⟨p, o, e, g, z⟩ := dinK_ok ok2 (ry.mono g2) rx q2
  exact ⟨p, o, e, g, by simpa using z⟩⟩
/-- d.get(k, e) -/
def isDic (h : Hq) (a : Tq.A) : Bool := match dicOf h a with | some (.dic _, _) => true | some (.dit _, _) => true | _ => false
def mGet2 (mo mk md : E Tq.A) : E Tq.A := fun τ h => bd (mo τ h) fun a h1 => if isDic h1 a = true then bd (mk τ h1) fun kd h2 => bd (md τ h2) fun d h3 => match dicOf h3 a with
  | some (hd, ws) => (match hGet hd ws kd with | some (some w) => some (.ok w h3) | some none => some (.ok d h3) | none => none)
  | none => none else none
theorem rx_get2 {apos cpos : Pos} (hu : X.A.units + 1 < cLine) (ha : RX X W a ma) (hb : RX X W b mb) (hc : RX X W c mc) (m : M2 X a "get" apos b c cpos := by exact ⟨by rfl, by rfl, by rfl, by rfl⟩) : RX X W (.Call (.Attribute a "get" apos) [b, c] [] cpos) (mGet2 ma mb mc) := ⟨pe_imp (pe_dget2 hu ha.pe hb.pe hc.pe m) fun σ H Q q => by
  obtain ⟨Z, B, ρ, τ, h, ok, sl, q⟩ := q
  refine te_bd ok sl q fun x a h1 B1 ρ1 H1 rx ok1 sl1 g1 q1 => ?_
  split at q1
  · rename_i hd0
    have isd : ∃ p, x = .ref p ∧ IsD H1 p := by
      unfold isDic at hd0
      split at hd0
      · rename_i ks ws e
        obtain ⟨p, vs, own, rfl, x1, r1⟩ := dicOf_ra ok1 rx e
        cases x1 with
        | dic i1 i2 => exact ⟨p, rfl, .inl ⟨_, .inl i1⟩⟩
      · rename_i ks ws e
        obtain ⟨p, vs, own, rfl, x1, r1⟩ := dicOf_ra ok1 rx e
        cases x1 with
        | dit i1 i2 => exact ⟨p, rfl, .inr ⟨_, .inl i1⟩⟩
      · cases hd0
    obtain ⟨p, rfl, hp⟩ := isd
    refine ⟨p, rfl, hp, te_bd ok1 sl1 q1 fun y kd h2 B2 ρ2 H2 ry ok2 sl2 g2 q2 => te_bd ok2 sl2 q2 fun z d h3 B3 ρ3 H3 rz ok3 sl3 g3 q3 => ?_⟩
    split at q3
    · rename_i hd ws e1
      obtain ⟨p', vs, own, ep, x1, r1⟩ := dicOf_ra ok3 (rx.mono (g2.trans g3)) e1
      cases ep
      split at q3
      · rename_i w e2
        obtain ⟨v, g, rv⟩ := (hGet_ok ok3 x1 r1 (ry.mono g3) e2).2 w rfl
        exact ⟨some v, g, q3.now ok3 _ rv⟩
      · rename_i e2
        exact ⟨none, (hGet_ok ok3 x1 r1 (ry.mono g3) e2).1 rfl, q3.now ok3 _ rz⟩
      · exact q3.elim
    · exact q3.elim
  · exact q1.elim⟩
/-- a < b < c -/
theorem rx_chain {op op' : CmpOp} {r r' : R2} {g g' : G2} (ho : OpR X (compareOp op) r) (og : Op2 X.K r g) (ho' : OpR X (compareOp op') r') (og' : Op2 X.K r' g') (ha : RX X W a ma) (hb : RX X W b mb) (hc : RX X W c mc) (hm : lastMarks [op, op'] [b, c] = false := by with_unfolding_all rfl) :
    RX X W (.Compare a [op, op'] [b, c] pos) (mChain g g' ma mb mc) := ⟨pe_imp (pe_chain ho ho' ha.pe hb.pe hc.pe hm) fun σ H Q q => by
  obtain ⟨Z, B, ρ, τ, h, ok, sl, q⟩ := q
  refine te_bd ok sl q fun x a h1 B1 ρ1 H1 rx ok1 sl1 g1 q1 => te_bd ok1 sl1 q1 fun y b h2 B2 ρ2 H2 ry ok2 sl2 g2 q2 => ?_
  refine og Z B2 ρ2 H2 h2 x y a b _ _ ok2 (rx.mono g2) ry (q2.bd.imp fun k h3 B3 ρ3 H3 ok3 g3 q3 z rz => ?_)
  split at q3
  · refine ⟨true, rp_bl (ra_d rz), iteT (te_bd ok3 (sl2.mono g3) q3 fun u c h4 B4 ρ4 H4 ru ok4 sl4 g4 q4 => ?_)⟩
    exact og' Z B4 ρ4 H4 h4 y u b c _ Q ok4 (ry.mono (g3.trans g4)) ru q4
  · exact ⟨false, rp_bl (ra_d rz), iteF (q3.now ok3 _ (.d (.bl false)))⟩
  · exact q3.elim⟩
end
/-! ### dict displays -/
def mDict0 (tup : Bool) : E Tq.A := fun _ h => some (.ok (.r h.length) (h ++ [.nd (if tup then .dit [] else .dic []) []]))
section
variable {X : Cx} {W : WX} {pos : Pos}
theorem ok_newD {K : PySem.W.Frag} {Z B H : Hp} {ρ : Nat → Option Addr} {h : Hq} {p : Addr} {o : HO} {hd : Hd} {vs : List V} {ws : List A} (ok : Ok K Z B ρ H h) (hp : H p = none) (x : HdAt K (upd H p o) p hd vs [p]) (r : RAL K B ρ vs ws) :
    Ok K Z B (fun k => if k = h.length then some p else ρ k) (upd H p o) (h ++ [.nd hd ws]) ∧ Gr Z B ρ B (fun k => if k = h.length then some p else ρ k) := by
  have bn : ∀ a, H a = none → B a = none ∧ Z a = none := fun a e => by
    constructor
    · cases z : B a with
      | none => rfl
      | some u => rw [ok.ex a u z] at e; cases e
    · cases z : Z a with
      | none => rfl
      | some u => rw [ok.zz a u z] at e; cases e
  refine ok.newC hp (fun b u e => ?_) (by rw [upd_same]; simp) (.nd x r fun b hb => ?_)
  · rw [upd_ne (ne_of_none e hp)]; exact e
  · rw [List.mem_singleton.mp hb]; exact bn p hp
theorem rx_dict0 (tup : Bool) : RX X W (.Dict [] [] pos) (mDict0 tup) := by
  constructor
  cases tup with
  | true =>
    refine pe_imp pe_dnewT fun σ H Q q => ?_
    obtain ⟨Z, B, ρ, τ, h, ok, sl, q⟩ := q
    intro p hp
    obtain ⟨ok2, g2⟩ := ok_newD (o := .dT []) (hd := .dit []) (vs := []) (ws := []) ok hp (.dit upd_same rfl) .nil
    exact q _ _ _ ok2 g2 _ (.r (if_pos rfl))
  | false =>
    refine pe_imp pe_dnewK fun σ H Q q => ?_
    obtain ⟨Z, B, ρ, τ, h, ok, sl, q⟩ := q
    intro p hp
    obtain ⟨ok2, g2⟩ := ok_newD (o := .dK []) (hd := .dic []) (vs := []) (ws := []) ok hp (.dic upd_same rfl) .nil
    exact q _ _ _ ok2 g2 _ (.r (if_pos rfl))
theorem Post.besides {α : Type} {K : PySem.W.Frag} {Z B : Hp} {W : XK} {ρ : Nat → Option Addr} {R : α → Hq → Hp → (Nat → Option Addr) → Hp → Prop} {r : Option (Rs α)} {q : Addr} {o : HO} (hz : Z q = none) (p : Post K Z W B ρ R r) : Post K (upd Z q o) W B ρ R r := by
  match r, p with
  | some (.ok a h), p => exact fun B' ρ' H' ok g => p B' ρ' H' (ok.bare hz) (g.aside hz)
  | some (.ex x h), p => exact fun B' ρ' H' cls d ok g xc => p B' ρ' H' cls d (ok.bare hz) (g.aside hz) xc
theorem Ok.adoptC {K : PySem.W.Frag} {Z B H : Hp} {ρ : Nat → Option Addr} {h : Hq} {q : Addr} {ob : HO} {c : O} (ok : Ok K (upd Z q ob) B ρ H h) (hz : Z q = none) (cc : CeAt K Z B H ρ q c) :
    Ok K Z B (fun k => if k = h.length then some q else ρ k) H (h ++ [c]) ∧ Gr Z B ρ B (fun k => if k = h.length then some q else ρ k) := by
  have hq : H q = some ob := ok.zz q _ upd_same
  have ok0 := ok.bare hz
  have fresh : ∀ k a, ρ k = some a → a ≠ q := fun k a e z => by
    have hk : k < h.length := by
      apply Classical.byContradiction
      intro y
      rw [ok.up k (by omega)] at e
      cases e
    obtain ⟨c, hc⟩ : ∃ c, h[k]? = some c := ⟨_, List.getElem?_eq_getElem hk⟩
    obtain ⟨a', h1, h2⟩ := ok.ce k c hc
    rw [e] at h1
    cases h1
    have key : upd Z q ob a = none := by
      cases h2 with
      | lst _ _ _ e4 => exact e4
      | nd e1 _ e3 => exact (e3 _ e1.own_or.1).2
      | dead e4 => exact e4
    rw [z, upd_same] at key
    cases key
  have gg : Gr Z B ρ B (fun k => if k = h.length then some q else ρ k) := ⟨fun _ _ e => e, fun k a e => by
    have : k ≠ h.length := fun z => by rw [ok.up k (by omega)] at e; cases e
    show (if k = h.length then some q else ρ k) = some a
    rw [if_neg this]; exact e, fun a e e' => absurd e e'⟩
  refine ⟨⟨ok0.ex, ok0.zz, fun k c' e => ?_, fun i j a e1 e2 => ?_, fun k a e => ?_, fun k e => ?_⟩, gg⟩
  · by_cases z : k = h.length
    · subst z
      rw [List.getElem?_append_right (by omega), Nat.sub_self] at e
      cases e
      refine ⟨q, if_pos rfl, ?_⟩
      cases cc with
      | lst e1 e2 e3 e4 => exact .lst e1 (e2.mono gg) e3 e4
      | nd e1 e2 e3 => exact .nd e1 (e2.mono gg) e3
      | dead e1 => exact .dead e1
    · have hk : k < h.length := by
        have := (List.getElem?_eq_some_iff.mp e).1
        rw [List.length_append, List.length_singleton] at this
        omega
      rw [List.getElem?_append_left hk] at e
      obtain ⟨a, h1, h2⟩ := ok0.ce k c' e
      refine ⟨a, gg.rr k a h1, ?_⟩
      cases h2 with
      | lst e1 e2 e3 e4 => exact .lst e1 (e2.mono gg) e3 e4
      | nd e1 e2 e3 => exact .nd e1 (e2.mono gg) e3
      | dead e1 => exact .dead e1
  · have e1 : (if i = h.length then some q else ρ i) = some a := e1
    have e2 : (if j = h.length then some q else ρ j) = some a := e2
    split at e1 <;> split at e2
    · omega
    · cases e1; exact absurd rfl (fresh _ _ e2)
    · cases e2; exact absurd rfl (fresh _ _ e1)
    · exact ok.nj i j a e1 e2
  · have e : (if k = h.length then some q else ρ k) = some a := e
    split at e
    · cases e; rw [hq]; simp
    · exact ok.al k a e
  · rw [List.length_append, List.length_singleton] at e
    show (if k = h.length then some q else ρ k) = none
    rw [if_neg (by omega)]
    exact ok.up k (by omega)
/-- {k: v, ..}, the keys written, no two alike -/
def mPairs : List Key → List (E Tq.A) → E (List Tq.A)
  | k :: ks, m :: ms => fun τ h => bd (m τ h) fun w h1 => bd (mPairs ks ms τ h1) fun r h2 => some (.ok (w :: r) h2)
  | _, _ => fun _ h => some (.ok [] h)
def mDict (ks : List Key) (ms : List (E Tq.A)) : E Tq.A := fun τ h => bd (mPairs ks ms τ h) fun ws h1 => if ws.length = ks.length then some (.ok (.r h1.length) (h1 ++ [.nd (.dic ks) ws])) else none
inductive RPs (X : Cx) (W : WX) (pos : Pos) : List (Option Expr) → List Expr → List Key → List (E Tq.A) → List (TE × TE) → Prop
  | nil : RPs X W pos [] [] [] [] []
  | cons {k : Key} {ke ve : Expr} {kes : List (Option Expr)} {ves : List Expr} {ks : List Key} {m : E Tq.A} {ms : List (E Tq.A)} {trs : List (TE × TE)} : PE X ke (tC (kV k)) → RX X W ve m → RPs X W pos kes ves ks ms trs →
      RPs X W pos (some ke :: kes) (ve :: ves) (k :: ks) (m :: ms) ((tC (kV k), tE X.K W m) :: trs)
theorem RPs.pps {kes : List (Option Expr)} {ves : List Expr} {ks : List Key} {ms : List (E Tq.A)} {trs : List (TE × TE)} (r : RPs X W pos kes ves ks ms trs) : PPs X pos kes ves trs := by
  induction r with
  | nil => exact pps_nil
  | cons h1 h2 _ ih => exact pps_cons h1 h2.pe ih
theorem RPs.reads {kes : List (Option Expr)} {ves : List Expr} {ks : List Key} {ms : List (E Tq.A)} {trs : List (TE × TE)} (r : RPs X W pos kes ves ks ms trs) : ∀ {σ : L2.St} {H Z B : Hp} {ρ : Nat → Option Addr} {τ : Sl} {h : Hq} {Q : List (V × V) → Hp → Prop} {R : List A → Hq → Hp → (Nat → Option Addr) → Hp → Prop},
    Ok X.K Z B ρ H h → SlOk X.K B ρ σ τ → Post X.K Z (fun c d H' => W c d σ H') B ρ R (mPairs ks ms τ h) →
    (∀ vs ws h1 B1 ρ1 H1, RAL X.K B1 ρ1 vs ws → vs.length = ks.length → Ok X.K Z B1 ρ1 H1 h1 → Gr Z B ρ B1 ρ1 → R ws h1 B1 ρ1 H1 → Q ((ks.zip vs).map fun kv => (kV kv.1, kv.2)) H1) → tPairs trs σ H Q := by
  induction r with
  | nil => exact fun ok sl q k => k [] [] _ _ _ _ .nil rfl ok Gr.refl (q.now ok)
  | cons h1 h2 _ ih =>
    intro σ H Z B ρ τ h Q R ok sl q k
    refine te_bd ok sl q fun v w h1 B1 ρ1 H1 rv ok1 sl1 g1 q1 => ?_
    refine ih ok1 sl1 q1.bd fun vs ws h2 B2 ρ2 H2 rl hl ok2 g2 q2 => ?_
    have := k (v :: vs) (w :: ws) h2 B2 ρ2 H2 (.cons (rv.mono g2) rl) (by rw [List.length_cons, List.length_cons, hl]) ok2 (g1.trans g2) (q2.now ok2)
    exact this
theorem putZ_new {k : Key} {v : V} : ∀ {l : List (Key × V)}, k ∉ l.map (·.1) → putK l k v = l ++ [(k, v)] := fun {l} h => by
  unfold putK
  have : l.any (fun kv => decide (kv.1 = k)) = false := by
    rw [List.any_eq_false]
    intro x hx e
    exact h (by rw [← of_decide_eq_true e]; exact List.mem_map_of_mem hx)
  rw [this]
  rfl
theorem mergeK_new : ∀ {more kvs : List (Key × V)}, ((kvs ++ more).map (·.1)).Nodup → mergeK kvs more = kvs ++ more
  | [], kvs, _ => by show kvs = kvs ++ []; rw [List.append_nil]
  | p :: r, kvs, h => by
    have h' : ((kvs ++ [p]) ++ r).map (·.1) = (kvs ++ p :: r).map (·.1) := by simp
    have hn : p.1 ∉ kvs.map (·.1) := by
      rw [List.map_append, List.nodup_append] at h
      exact fun z => h.2.2 p.1 z p.1 (by simp) rfl
    show mergeK (putK kvs p.1 p.2) r = _
    rw [putZ_new hn, mergeK_new (by rw [h']; exact h), List.append_assoc]
    rfl
theorem rx_dict {kes : List (Option Expr)} {ves : List Expr} {ks : List Key} {ms : List (E Tq.A)} {trs : List (TE × TE)} (r : RPs X W pos kes ves ks ms trs) (hn : ks.Nodup) (hall : kes.all (·.isSome) = true := by rfl) (hl : kes.length = ves.length := by rfl) (h0 : kes ≠ [] := by exact fun z => by cases z) (h15 : kes.length ≤ 15 := by decide) (hk : ks.length ≤ 15 := by decide) :
    RX X W (.Dict kes ves pos) (mDict ks ms) := ⟨pe_imp (pe_disp r.pps hall hl h0 h15) fun σ H Q q => by
  obtain ⟨Z, B, ρ, τ, h, ok, sl, q⟩ := q
  intro p hp
  have hzp : Z p = none := by
    cases z : Z p with
    | none => rfl
    | some u => rw [ok.zz p u z] at hp; cases hp
  have hbp : B p = none := by
    cases z : B p with
    | none => rfl
    | some u => rw [ok.ex p u z] at hp; cases hp
  have keep : ∀ {B' : Hp} {ρ' : Nat → Option Addr}, Gr (upd Z p (.dK [])) B ρ B' ρ' → B' p = none := fun {B' ρ'} g => by
    cases z : B' p with
    | none => rfl
    | some u =>
      have := g.fz p hbp (by rw [z]; simp)
      rw [upd_same] at this
      cases this
  refine r.reads (ok.aside hp) sl ((q.bd).besides hzp) fun vs ws h1 B1 ρ1 H1 rl hl1 ok1 g1 q1 => ?_
  have hb1 := keep g1
  refine ⟨ok1.zz p _ upd_same, ks.zip vs, rfl, by rw [List.length_zip, hl1, Nat.min_self]; exact hk, ?_⟩
  have hmg : mergeK [] (ks.zip vs) = ks.zip vs := by
    have := mergeK_new (more := ks.zip vs) (kvs := []) (by rw [List.nil_append, map_fst_zip hl1.symm]; exact hn)
    simpa using this
  rw [hmg]
  split at q1
  · have ok2 := ok1.turn (o2 := .dK (ks.zip vs)) hb1 hzp
    obtain ⟨ok3, g3⟩ := ok2.adoptC hzp (c := .nd (.dic ks) ws) (.nd (own := [p]) (.dic upd_same hl1.symm) rl fun b hb => by rw [List.mem_singleton.mp hb]; exact ⟨hb1, hzp⟩)
    exact q1 _ _ _ ok3 g3 _ (.r (if_pos rfl))
  · exact q1.elim⟩
end
end Tq

/-! Tq10: calls that give a new list; the law's end; plain lemmas on m's. -/
namespace Tq
open PySem PySem.Spec PyProof.Rows L2
theorem Room_u1 {k : Nat} {A : Around} (r : Room k A) : A.units + 1 < cLine := by have := r.un; omega
theorem Room_u65 {k : Nat} {A : Around} (r : Room k A) : A.units + 65 < cLine := by have := r.un; omega
theorem Room_u64 {k : Nat} {A : Around} (r : Room k A) : A.units + 64 < cLine := r.units
/-! ### a call without cells that gives a new list: the list is a cell of the caller's -/
def vwA (q : Nat) : Nat → Hq → A → Option D
  | _, _, .d x => some x
  | 0, _, _ => none
  | n + 1, h, .r k => if k = q then none else match h[k]? with
    | some (.lst ws) => (mapMn (vwA q n h) ws).map .lst
    | some (.nd hd ws) => (mapMn (vwA q n h) ws).map (.nd hd)
    | _ => none
  | n + 1, h, .tup ws => (mapMn (vwA q n h) ws).map .tup
@[simp] theorem vwA_d (q n : Nat) (h : Hq) (x : D) : vwA q n h (.d x) = some x := by cases n <;> rfl
section
variable {K : PySem.W.Frag} {Z B H : Hp} {ρ : Nat → Option Addr} {h : Hq}
theorem vwA_at {P : Hp} {q : Nat} {p : Addr} (ok : Ok K Z B ρ H h) (hq : ρ q = some p) (hp : ∀ z, H p ≠ some (.own z)) (e1 : Same B P) (e2 : ∀ b, b ≠ p → Z b = none → B b = none → ∀ u, H b = some u → P b = some u) : ∀ (n : Nat) (v : V) (w : A) (d : D), RA K B ρ v w → vwA q n h w = some d → Rp K P v d
  | n, _, .d x, d, .d r, e => by rw [vwA_d] at e; cases e; exact r.mono e1
  | 0, _, .r k, d, _, e => by cases e
  | 0, _, .tup ws, d, _, e => by cases e
  | n + 1, _, .r k, d, .r (a := a) hr, e => by
    unfold vwA at e
    split at e
    · cases e
    · rename_i hk
      have na : a ≠ p := fun z => hk (ok.nj k q p (by rw [← z]; exact hr) hq)
      split at e
      · rename_i ws e3
        obtain ⟨ds, e4, rfl⟩ := Option.map_eq_some_iff.mp e
        obtain ⟨a', h1, h2⟩ := ok.ce k _ e3
        rw [hr] at h1
        cases h1
        cases h2 with
        | lst q1 q2 q3 q4 => exact .lst (e2 _ na q4 q3 _ q1) (vws_of (vwA_at ok hq hp e1 e2 n) q2 e4)
      · rename_i hd ws e3
        obtain ⟨ds, e4, rfl⟩ := Option.map_eq_some_iff.mp e
        obtain ⟨a', h1, h2⟩ := ok.ce k _ e3
        rw [hr] at h1
        cases h1
        cases h2 with
        | nd q1 q2 q3 =>
          refine .nd (q1.to fun b hb u eu => e2 b ?_ (q3 b hb).2 (q3 b hb).1 u eu) (vws_of (vwA_at ok hq hp e1 e2 n) q2 e4)
          rcases q1.own_or.2.1 b hb with z | z
          · rw [z]; exact na
          · exact fun y => hp a (by rw [← y]; exact z)
      · cases e
  | n + 1, _, .tup ws, d, .tup ht rl, e => by
    unfold vwA at e
    obtain ⟨ds, e4, rfl⟩ := Option.map_eq_some_iff.mp e
    exact .tup (e1 _ _ ht) (vws_of (vwA_at ok hq hp e1 e2 n) rl e4)
end
def callO (sem : Sem1) (ws : List A) (h1 : Hq) : Option (Rs A) := match mapMn (view h1) ws with
  | some ds => (match sem (ds.map A.d) [] with
    | some (.ok (.r k) h') => (match h'[k]? with
      | some (.lst us) => (match mapMn (vwA k 32 h') us with
        | some es => if (allD ws).isSome || es.all D.flat then some (.ok (.r h1.length) (h1 ++ [.lst (es.map A.d)])) else none
        | none => none)
      | _ => none)
    | some (.ok (.d x) h') => callP sem ws h1
    | some (.ex x h') => if (allD ws).isSome then (match x.fz h' with | some x' => some (.ex x' h1) | none => none) else none
    | _ => none)
  | none => none
def mCallO (sem : Sem1) (mr : E (List A)) : E A := fun τ h => bd (mr τ h) fun ws h1 => callO sem ws h1
section
variable {K : PySem.W.Frag} {Z B H : Hp} {ρ : Nat → Option Addr} {h : Hq}
theorem rpl_flat {B B' : Hp} : ∀ {vs : List V} {ds : List D}, RpL K B vs ds → ds.all D.flat = true → RpL K B' vs ds
  | _, _, .nil, _ => .nil
  | _, _, .cons r t, h => by
    rw [List.all_cons, Bool.and_eq_true] at h
    exact .cons (rp_flat r h.1) (rpl_flat t h.2)
/-- back, all new but p frozen, p adopted -/
theorem Ok.backO (ok : Ok K Z B ρ H h) {B0 B' H' : Hp} {ρ' : Nat → Option Addr} {h' : Hq} {k : Nat} {us : List A} {es : List D} (hB : B0 = B ∨ (B0 = H ∧ es.all D.flat = true)) (ok' : Ok K H B' ρ' H' h') (g : Gr H B0 (fun _ => none) B' ρ') (e1 : h'[k]? = some (.lst us)) (e2 : mapMn (vwA k 32 h') us = some es) :
    ∃ p B2, ρ' k = some p ∧ Ok K Z B2 (fun j => if j = h.length then some p else ρ j) H' (h ++ [.lst (es.map A.d)]) ∧ Gr Z B ρ B2 (fun j => if j = h.length then some p else ρ j) := by
  obtain ⟨p, hp, c⟩ := ok'.ce k _ e1
  refine ⟨p, ?_⟩
  cases c with
  | lst q1 q2 q3 q4 =>
    rename_i vs
    let B2 : Hp := fun a => if H a = none ∧ a ≠ p then H' a else B a
    have s0 : Same H H' := ok'.zz
    have zn : ∀ a, H a = none → Z a = none := fun a e => by
      cases z : Z a with
      | none => rfl
      | some u => rw [ok.zz a u z] at e; cases e
    have bn : ∀ a, H a = none → B a = none := fun a e => by
      cases z : B a with
      | none => rfl
      | some u => rw [ok.ex a u z] at e; cases e
    have b1 : Same B B2 := fun a o e => by
      show (if H a = none ∧ a ≠ p then H' a else B a) = some o
      rw [if_neg fun z => by rw [ok.ex a o e] at z; exact nomatch z.1]
      exact e
    have b2 : Same B2 H' := fun a o e => by
      have e : (if H a = none ∧ a ≠ p then H' a else B a) = some o := e
      split at e
      · exact e
      · exact s0 _ _ (ok.ex a o e)
    have b3 : ∀ a, H a ≠ none → B2 a = B a := fun a e => if_neg fun z => e z.1
    have bp : B2 p = none := by
      show (if H p = none ∧ p ≠ p then H' p else B p) = none
      rw [if_neg fun z => z.2 rfl]
      exact bn p q4
    have gg : Gr Z B ρ B2 ρ := ⟨b1, fun _ _ e => e, fun a e e' => by
      by_cases z : H a = none
      · exact zn a z
      · rw [b3 a z] at e'; exact absurd e e'⟩
    have ok2 : Ok K (upd Z p (.lst vs)) B2 ρ H' h := by
      refine ⟨b2, fun a o e => ?_, fun j c e => ?_, ok.nj, fun j a e => ?_, ok.up⟩
      · by_cases z : a = p
        · subst z; rw [upd_same] at e; rw [q1]; exact e
        · rw [upd_ne z] at e; exact s0 _ _ (ok.zz a o e)
      · obtain ⟨a, h1, h2⟩ := ok.ce j c e
        refine ⟨a, h1, ?_⟩
        have ne : ∀ {b : Addr}, H b ≠ none → b ≠ p := fun hb z => hb (by rw [z]; exact q4)
        cases h2 with
        | lst e1 e2 e3 e4 => exact .lst (s0 _ _ e1) (e2.mono gg) (by rw [b3 a (by rw [e1]; simp)]; exact e3) (by rw [upd_ne (ne (by rw [e1]; simp))]; exact e4)
        | nd e1 e2 e3 => exact .nd (e1.to fun b _ u e => s0 _ _ e) (e2.mono gg) fun b hb => ⟨by rw [b3 b (e1.own_or.2.2.1 b hb)]; exact (e3 b hb).1, by rw [upd_ne (ne (e1.own_or.2.2.1 b hb))]; exact (e3 b hb).2⟩
        | dead e1 => exact .dead (by rw [upd_ne (ne (ok.al j a h1))]; exact e1)
      · have := ok.al j a e
        cases z : H a with
        | none => exact absurd z this
        | some u => rw [s0 _ _ z]; simp
    have els : RpL K B2 vs es := by
      rcases hB with rfl | ⟨rfl, hf⟩
      · have b4 : Same B' B2 := fun a o e => by
          by_cases z : B0 a = none
          · have hz := g.fz a z (by rw [e]; simp)
            show (if H a = none ∧ a ≠ p then H' a else B0 a) = some o
            rw [if_pos ⟨hz, fun y => by rw [y, q3] at e; cases e⟩]
            exact ok'.ex a o e
          · cases y : B0 a with
            | none => exact absurd y z
            | some u =>
              have := g.bb a u y
              rw [e] at this
              cases this
              exact b1 a o y
        refine vws_of (fun v w d r e => vwA_at ok' hp (fun z y => by rw [q1] at y; cases y) b4 (fun b hb hz hb' u hu => ?_) 32 v w d r e) q2 e2
        show (if H b = none ∧ b ≠ p then H' b else B0 b) = some u
        rw [if_pos ⟨hz, hb⟩]
        exact hu
      · have all : RpL K H' vs es := vws_of (fun v w d r e => vwA_at ok' hp (fun z y => by rw [q1] at y; cases y) ok'.ex (fun b _ _ _ u hu => hu) 32 v w d r e) q2 e2
        exact rpl_flat all hf
    obtain ⟨ok3, g3⟩ := ok2.adoptC (zn p q4) (c := .lst (es.map A.d)) (.lst q1 (ral_ds els) bp (zn p q4))
    exact ⟨B2, hp, ok3, gg.trans g3⟩
theorem callO_ok {W : XK} {Q : VK} {sem : Sem1} {vs : List V} {ws : List A} {np : Nat} (ok : Ok K Z B ρ H h) (r : RAL K B ρ vs ws) (hl : ws.length = np)
    (q : Post K Z W B ρ (fun w _ B' ρ' H' => ∀ v, RA K B' ρ' v w → Q v H') (callO sem ws h)) : spQ K np sem vs H Q W := by
  unfold callO at q
  split at q
  · rename_i ds e1
    split at q
    · rename_i k h' e2
      split at q
      · rename_i us e3
        split at q
        · rename_i es e4
          split at q
          · rename_i hc
            refine ⟨by rw [r.length]; exact hl, ?_⟩
            cases e0 : allD ws with
            | some ds' =>
              have := allD_view e0 e1
              subst this
              cases allD_of e0
              refine ⟨H, B, fun _ => none, [], ds'.map A.d, ok.void, ral_ds (ral_rpl r), ?_⟩
              rw [e2]
              intro B' ρ' H' ok' g v rv
              obtain ⟨p, B2, hp, o2, g2⟩ := ok.backO (.inl rfl) ok' g e3 e4
              cases rv with
              | r hr =>
                rw [hp] at hr
                cases hr
                exact q B2 _ H' o2 g2 _ (.r (if_pos rfl))
            | none =>
              rw [e0] at hc
              have hf : es.all D.flat = true := by simpa using hc
              refine ⟨H, H, fun _ => none, [], ds.map A.d, ok.voidH, ral_ds (rpl_views ok r e1), ?_⟩
              rw [e2]
              intro B' ρ' H' ok' g v rv
              obtain ⟨p, B2, hp, o2, g2⟩ := ok.backO (.inr ⟨rfl, hf⟩) ok' g e3 e4
              cases rv with
              | r hr =>
                rw [hp] at hr
                cases hr
                exact q B2 _ H' o2 g2 _ (.r (if_pos rfl))
          · exact q.elim
        · exact q.elim
      · exact q.elim
    · exact callP_ok ok r hl q
    · rename_i x h' e2
      refine callP_ok ok r hl ?_
      unfold callP
      rw [e1]
      dsimp only
      rw [e2]
      exact q
    · exact q.elim
  · exact q.elim
end
section
variable {X : Cx} {W : WX} {a o : Expr} {es : List Expr} {mr : E (List A)} {mo : E A} {sem : Sem1} {pos px apos : Pos} {j k : Nat} {ps : List Str}
theorem rx_callO {x : Str} (tk : Takes X W) (Df : Def X.prog X.w X.K X.mg X.base j x ps sem) (hr : Room k X.A) (hj : j ≤ k) (ha : RAs X W (a :: es) mr)
    (hg : Gl X x := by rfl) (hdb : (x == ("__debug__" : Str)) = false := by decide) (he : starEach (a :: es) X.env = (false, eval a X.env) :: starEach es X.env := by rfl) (hpl : (backTo pos (starEach es X.env)).any (·.1) = false := by rfl) :
    RX X W (.Call (.Name x px) (a :: es) [] pos) (mCallO sem (lenIs ps.length mr)) := by
  obtain ⟨fa, fd, F, h1, h2, h3⟩ := Df.ex
  refine ⟨pe_imp (pe_callS F (hr.mono hj) hg h1 h2 h3 (fun σ => passAt tk σ) ha.pa hdb he hpl) fun σ H Q q => ?_⟩
  obtain ⟨Z, B, ρ, τ, h, ok, sl, q⟩ := q
  have q := q.bd
  unfold lenIs at q
  refine te_args ok sl q fun vs ws h1 B1 ρ1 H1 r ok1 sl1 g1 q1 => ?_
  split at q1
  · rename_i hl
    exact callO_ok ok1 r hl (q1.now ok1)
  · exact q1.elim
end
/-! ### the law's end -/
theorem sp_law {K : PySem.W.Frag} {sem : Sem1} {a : Addr} {ns : List Int} {H : Hp} (hS : SqL K H a (ns.map V.int)) (h : ∃ h', sem [.d (.scr ns)] [] = some (.ok (.d (.bl true)) h')) : spQ K 1 sem [.ref a] H (fun v _ => v = .bl true) E0 := by
  obtain ⟨h', e⟩ := h
  refine ⟨rfl, NZ, H, fun _ => none, [], [.d (.scr ns)], ⟨fun _ _ e => e, (fun _ _ e => by cases e), (fun k o e => by simp at e), (fun _ _ _ e => by cases e), (fun _ _ e => by cases e), fun _ _ => rfl⟩, .cons (.d (.scr hS)) .nil, ?_⟩
  rw [e]
  exact fun B' ρ' H' ok g v rv => rp_bl (ra_d rv)
end Tq

/-! TrO: the order of data (truths, ints, texts, tuples of these to any depth): what the first pair that differs says. -/
namespace TrO
open PySem PySem.SeqAt
open PySem.AutoSeq1 (wpAny_loadPart')
open PySem.MeetsSeq PySem.MeetsSeq2 PySem.MeetsSeq3
def szO (op : CmpOp) (m n : Nat) : Bool := match op with
  | .Lt => decide (m < n) | .LtE => decide (m ≤ n) | .Gt => decide (m > n) | _ => decide (m ≥ n)
def LexV (op : CmpOp) (A : Around) (s : Shared) (r : Bool) : List Value → List Value → Prop
  | x :: xs, y :: ys => (EqAt A s x y true ∧ LexV op A s r xs ys) ∨ (EqAt A s x y false ∧ Ob.RcOp op A s x y r)
  | xs, ys => szO op xs.length ys.length = r
theorem szO_add (op : CmpOp) (i m n : Nat) : szO op (i + m) (i + n) = szO op m n := by
  unfold szO
  split <;> (rw [decide_eq_decide]; omega)
theorem tupLex_lt (l b : Addr) (I J : Array Value) (n m : Nat) (dd ee : Option Addr) (sl tl : Array (Option Value)) :
    Meets (Builtin.«tuple.__lt__» ⟨[.ref l, .ref b], []⟩)
      (fun A R s => s.heap.get? l = some { cls := .type "tuple", dict := dd, data := .seq I n, slots := sl } ∧ s.heap.get? b = some { cls := .type "tuple", dict := ee, data := .seq J m, slots := tl } ∧
        ∃ r, LexV .Lt A.in1 s r I.toList J.toList ∧ R (.ok (.ret (.bool r))) s) :=
  .of_wp fun prog w A R s h => by
    obtain ⟨hp, gl, dn, tk, os⟩ := s
    obtain ⟨hl, hb, r, hx, hR⟩ := h
    have sub2 := AutoSeq1.sub_tuple_tuple
    wp_walk using wpAny_loadPart' hl, wpAny_loadPart' hb, wpAny_forIn_list _ (fun rest c s' => c.1 = none ∧ s' = ⟨hp, gl, dn, tk, os⟩ ∧ ∃ xs ys k, rest = xs.zip ys ∧ LexV .Lt A.in1 ⟨hp, gl, dn, tk, os⟩ r xs ys ∧ I.size = k + xs.length ∧ J.size = k + ys.length) _
    case turn =>
      rintro ⟨p, q⟩ rest c s' ⟨hc, rfl, xs, ys, k, hz, hx, e1, e2⟩
      cases xs with
      | nil => cases hz
      | cons x xs =>
        cases ys with
        | nil => cases hz
        | cons y ys =>
          rw [List.zip_cons_cons] at hz
          injection hz with hpq hrest
          cases hpq
          rcases hx with ⟨he, hx⟩ | ⟨he, hr⟩
          · refine wpAny_bind (he prog w _ _ ?_)
            wp_walk
            exact ⟨rfl, rfl, xs, ys, k + 1, hrest, hx, by rw [e1, List.length_cons]; omega, by rw [e2, List.length_cons]; omega⟩
          · refine wpAny_bind (he prog w _ _ ?_)
            have hri := hr prog w
            wp_walk using hri
            exact ⟨_, rfl, by simpa using hR⟩
    case fin =>
      rintro ⟨c1, c2⟩ s' ⟨hc, rfl, xs, ys, k, hz, hx, e1, e2⟩
      simp only at hc
      subst hc
      have hx2 : szO .Lt xs.length ys.length = r := by
        cases xs with
        | nil => cases ys <;> exact hx
        | cons x xs =>
          cases ys with
          | nil => exact hx
          | cons y ys => cases hz
      rw [← szO_add _ k, ← e1, ← e2] at hx2
      subst hx2
      wp_walk
      exact ⟨_, rfl, by simpa [Builtin.Tuple.tupleCompareSizes, szO] using hR⟩
    case h =>
      exact ⟨rfl, rfl, I.toList, J.toList, 0, rfl, hx, by simp, by simp⟩
theorem tup_lt {A : Around} {s : Shared} {l b : Addr} {I J : Array Value} {r : Bool} (hl : s.heap.IsTuple l I) (hb : s.heap.IsTuple b J) (hu : A.units < cLine) (hx : LexV .Lt A.in1 s r I.toList J.toList) :
    Ob.RcOp .Lt A s (.ref l) (.ref b) r := fun prog w E Q hq => by
  obtain ⟨⟨c1, d1, x1, s1⟩, g1, k1, n1, z1⟩ := id hl
  obtain ⟨⟨c2, d2, x2, s2⟩, g2, k2, n2, z2⟩ := id hb
  simp only at k1 z1 k2 z2
  subst k1 z1 k2 z2
  exact richCompare_meets_room (op := .Lt) ⟨_, g1, rfl⟩ ⟨_, g2, rfl⟩ F.slot_tuple_lt F.entry_tuple_lt (F.args_tuple_lt_2 _ _) (tupLex_lt l b I J n1 n2 d1 d2 s1 s2)
    ⟨g1, g2, r, hx, ⟨(fun z => nomatch z), hq⟩⟩ hu
theorem tupLex_le (l b : Addr) (I J : Array Value) (n m : Nat) (dd ee : Option Addr) (sl tl : Array (Option Value)) :
    Meets (Builtin.«tuple.__le__» ⟨[.ref l, .ref b], []⟩)
      (fun A R s => s.heap.get? l = some { cls := .type "tuple", dict := dd, data := .seq I n, slots := sl } ∧ s.heap.get? b = some { cls := .type "tuple", dict := ee, data := .seq J m, slots := tl } ∧
        ∃ r, LexV .LtE A.in1 s r I.toList J.toList ∧ R (.ok (.ret (.bool r))) s) :=
  .of_wp fun prog w A R s h => by
    obtain ⟨hp, gl, dn, tk, os⟩ := s
    obtain ⟨hl, hb, r, hx, hR⟩ := h
    have sub2 := AutoSeq1.sub_tuple_tuple
    wp_walk using wpAny_loadPart' hl, wpAny_loadPart' hb, wpAny_forIn_list _ (fun rest c s' => c.1 = none ∧ s' = ⟨hp, gl, dn, tk, os⟩ ∧ ∃ xs ys k, rest = xs.zip ys ∧ LexV .LtE A.in1 ⟨hp, gl, dn, tk, os⟩ r xs ys ∧ I.size = k + xs.length ∧ J.size = k + ys.length) _
    case turn =>
      rintro ⟨p, q⟩ rest c s' ⟨hc, rfl, xs, ys, k, hz, hx, e1, e2⟩
      cases xs with
      | nil => cases hz
      | cons x xs =>
        cases ys with
        | nil => cases hz
        | cons y ys =>
          rw [List.zip_cons_cons] at hz
          injection hz with hpq hrest
          cases hpq
          rcases hx with ⟨he, hx⟩ | ⟨he, hr⟩
          · refine wpAny_bind (he prog w _ _ ?_)
            wp_walk
            exact ⟨rfl, rfl, xs, ys, k + 1, hrest, hx, by rw [e1, List.length_cons]; omega, by rw [e2, List.length_cons]; omega⟩
          · refine wpAny_bind (he prog w _ _ ?_)
            have hri := hr prog w
            wp_walk using hri
            exact ⟨_, rfl, by simpa using hR⟩
    case fin =>
      rintro ⟨c1, c2⟩ s' ⟨hc, rfl, xs, ys, k, hz, hx, e1, e2⟩
      simp only at hc
      subst hc
      have hx2 : szO .LtE xs.length ys.length = r := by
        cases xs with
        | nil => cases ys <;> exact hx
        | cons x xs =>
          cases ys with
          | nil => exact hx
          | cons y ys => cases hz
      rw [← szO_add _ k, ← e1, ← e2] at hx2
      subst hx2
      wp_walk
      exact ⟨_, rfl, by simpa [Builtin.Tuple.tupleCompareSizes, szO] using hR⟩
    case h =>
      exact ⟨rfl, rfl, I.toList, J.toList, 0, rfl, hx, by simp, by simp⟩
theorem tup_le {A : Around} {s : Shared} {l b : Addr} {I J : Array Value} {r : Bool} (hl : s.heap.IsTuple l I) (hb : s.heap.IsTuple b J) (hu : A.units < cLine) (hx : LexV .LtE A.in1 s r I.toList J.toList) :
    Ob.RcOp .LtE A s (.ref l) (.ref b) r := fun prog w E Q hq => by
  obtain ⟨⟨c1, d1, x1, s1⟩, g1, k1, n1, z1⟩ := id hl
  obtain ⟨⟨c2, d2, x2, s2⟩, g2, k2, n2, z2⟩ := id hb
  simp only at k1 z1 k2 z2
  subst k1 z1 k2 z2
  exact richCompare_meets_room (op := .LtE) ⟨_, g1, rfl⟩ ⟨_, g2, rfl⟩ F.slot_tuple_le F.entry_tuple_le (F.args_tuple_le_2 _ _) (tupLex_le l b I J n1 n2 d1 d2 s1 s2)
    ⟨g1, g2, r, hx, ⟨(fun z => nomatch z), hq⟩⟩ hu
theorem tupLex_gt (l b : Addr) (I J : Array Value) (n m : Nat) (dd ee : Option Addr) (sl tl : Array (Option Value)) :
    Meets (Builtin.«tuple.__gt__» ⟨[.ref l, .ref b], []⟩)
      (fun A R s => s.heap.get? l = some { cls := .type "tuple", dict := dd, data := .seq I n, slots := sl } ∧ s.heap.get? b = some { cls := .type "tuple", dict := ee, data := .seq J m, slots := tl } ∧
        ∃ r, LexV .Gt A.in1 s r I.toList J.toList ∧ R (.ok (.ret (.bool r))) s) :=
  .of_wp fun prog w A R s h => by
    obtain ⟨hp, gl, dn, tk, os⟩ := s
    obtain ⟨hl, hb, r, hx, hR⟩ := h
    have sub2 := AutoSeq1.sub_tuple_tuple
    wp_walk using wpAny_loadPart' hl, wpAny_loadPart' hb, wpAny_forIn_list _ (fun rest c s' => c.1 = none ∧ s' = ⟨hp, gl, dn, tk, os⟩ ∧ ∃ xs ys k, rest = xs.zip ys ∧ LexV .Gt A.in1 ⟨hp, gl, dn, tk, os⟩ r xs ys ∧ I.size = k + xs.length ∧ J.size = k + ys.length) _
    case turn =>
      rintro ⟨p, q⟩ rest c s' ⟨hc, rfl, xs, ys, k, hz, hx, e1, e2⟩
      cases xs with
      | nil => cases hz
      | cons x xs =>
        cases ys with
        | nil => cases hz
        | cons y ys =>
          rw [List.zip_cons_cons] at hz
          injection hz with hpq hrest
          cases hpq
          rcases hx with ⟨he, hx⟩ | ⟨he, hr⟩
          · refine wpAny_bind (he prog w _ _ ?_)
            wp_walk
            exact ⟨rfl, rfl, xs, ys, k + 1, hrest, hx, by rw [e1, List.length_cons]; omega, by rw [e2, List.length_cons]; omega⟩
          · refine wpAny_bind (he prog w _ _ ?_)
            have hri := hr prog w
            wp_walk using hri
            exact ⟨_, rfl, by simpa using hR⟩
    case fin =>
      rintro ⟨c1, c2⟩ s' ⟨hc, rfl, xs, ys, k, hz, hx, e1, e2⟩
      simp only at hc
      subst hc
      have hx2 : szO .Gt xs.length ys.length = r := by
        cases xs with
        | nil => cases ys <;> exact hx
        | cons x xs =>
          cases ys with
          | nil => exact hx
          | cons y ys => cases hz
      rw [← szO_add _ k, ← e1, ← e2] at hx2
      subst hx2
      wp_walk
      exact ⟨_, rfl, by simpa [Builtin.Tuple.tupleCompareSizes, szO] using hR⟩
    case h =>
      exact ⟨rfl, rfl, I.toList, J.toList, 0, rfl, hx, by simp, by simp⟩
theorem tup_gt {A : Around} {s : Shared} {l b : Addr} {I J : Array Value} {r : Bool} (hl : s.heap.IsTuple l I) (hb : s.heap.IsTuple b J) (hu : A.units < cLine) (hx : LexV .Gt A.in1 s r I.toList J.toList) :
    Ob.RcOp .Gt A s (.ref l) (.ref b) r := fun prog w E Q hq => by
  obtain ⟨⟨c1, d1, x1, s1⟩, g1, k1, n1, z1⟩ := id hl
  obtain ⟨⟨c2, d2, x2, s2⟩, g2, k2, n2, z2⟩ := id hb
  simp only at k1 z1 k2 z2
  subst k1 z1 k2 z2
  exact richCompare_meets_room (op := .Gt) ⟨_, g1, rfl⟩ ⟨_, g2, rfl⟩ F.slot_tuple_gt F.entry_tuple_gt (F.args_tuple_gt_2 _ _) (tupLex_gt l b I J n1 n2 d1 d2 s1 s2)
    ⟨g1, g2, r, hx, ⟨(fun z => nomatch z), hq⟩⟩ hu
theorem tupLex_ge (l b : Addr) (I J : Array Value) (n m : Nat) (dd ee : Option Addr) (sl tl : Array (Option Value)) :
    Meets (Builtin.«tuple.__ge__» ⟨[.ref l, .ref b], []⟩)
      (fun A R s => s.heap.get? l = some { cls := .type "tuple", dict := dd, data := .seq I n, slots := sl } ∧ s.heap.get? b = some { cls := .type "tuple", dict := ee, data := .seq J m, slots := tl } ∧
        ∃ r, LexV .GtE A.in1 s r I.toList J.toList ∧ R (.ok (.ret (.bool r))) s) :=
  .of_wp fun prog w A R s h => by
    obtain ⟨hp, gl, dn, tk, os⟩ := s
    obtain ⟨hl, hb, r, hx, hR⟩ := h
    have sub2 := AutoSeq1.sub_tuple_tuple
    wp_walk using wpAny_loadPart' hl, wpAny_loadPart' hb, wpAny_forIn_list _ (fun rest c s' => c.1 = none ∧ s' = ⟨hp, gl, dn, tk, os⟩ ∧ ∃ xs ys k, rest = xs.zip ys ∧ LexV .GtE A.in1 ⟨hp, gl, dn, tk, os⟩ r xs ys ∧ I.size = k + xs.length ∧ J.size = k + ys.length) _
    case turn =>
      rintro ⟨p, q⟩ rest c s' ⟨hc, rfl, xs, ys, k, hz, hx, e1, e2⟩
      cases xs with
      | nil => cases hz
      | cons x xs =>
        cases ys with
        | nil => cases hz
        | cons y ys =>
          rw [List.zip_cons_cons] at hz
          injection hz with hpq hrest
          cases hpq
          rcases hx with ⟨he, hx⟩ | ⟨he, hr⟩
          · refine wpAny_bind (he prog w _ _ ?_)
            wp_walk
            exact ⟨rfl, rfl, xs, ys, k + 1, hrest, hx, by rw [e1, List.length_cons]; omega, by rw [e2, List.length_cons]; omega⟩
          · refine wpAny_bind (he prog w _ _ ?_)
            have hri := hr prog w
            wp_walk using hri
            exact ⟨_, rfl, by simpa using hR⟩
    case fin =>
      rintro ⟨c1, c2⟩ s' ⟨hc, rfl, xs, ys, k, hz, hx, e1, e2⟩
      simp only at hc
      subst hc
      have hx2 : szO .GtE xs.length ys.length = r := by
        cases xs with
        | nil => cases ys <;> exact hx
        | cons x xs =>
          cases ys with
          | nil => exact hx
          | cons y ys => cases hz
      rw [← szO_add _ k, ← e1, ← e2] at hx2
      subst hx2
      wp_walk
      exact ⟨_, rfl, by simpa [Builtin.Tuple.tupleCompareSizes, szO] using hR⟩
    case h =>
      exact ⟨rfl, rfl, I.toList, J.toList, 0, rfl, hx, by simp, by simp⟩
theorem tup_ge {A : Around} {s : Shared} {l b : Addr} {I J : Array Value} {r : Bool} (hl : s.heap.IsTuple l I) (hb : s.heap.IsTuple b J) (hu : A.units < cLine) (hx : LexV .GtE A.in1 s r I.toList J.toList) :
    Ob.RcOp .GtE A s (.ref l) (.ref b) r := fun prog w E Q hq => by
  obtain ⟨⟨c1, d1, x1, s1⟩, g1, k1, n1, z1⟩ := id hl
  obtain ⟨⟨c2, d2, x2, s2⟩, g2, k2, n2, z2⟩ := id hb
  simp only at k1 z1 k2 z2
  subst k1 z1 k2 z2
  exact richCompare_meets_room (op := .GtE) ⟨_, g1, rfl⟩ ⟨_, g2, rfl⟩ F.slot_tuple_ge F.entry_tuple_ge (F.args_tuple_ge_2 _ _) (tupLex_ge l b I J n1 n2 d1 d2 s1 s2)
    ⟨g1, g2, r, hx, ⟨(fun z => nomatch z), hq⟩⟩ hu
end TrO

namespace TrO
open PySem PySem.SeqAt PyProof.Rows
def b2 (b : Bool) : Int := if b then 1 else 0
def cmpI (op : CmpOp) (i j : Int) : Bool := match op with
  | .Lt => decide (i < j) | .LtE => decide (i ≤ j) | .Gt => decide (j < i) | _ => decide (j ≤ i)
def cmpS (op : CmpOp) (x y : Str) : Bool := match op with
  | .Lt => decide (x.cps.toList < y.cps.toList) | .LtE => !decide (y.cps.toList < x.cps.toList) | .Gt => decide (y.cps.toList < x.cps.toList) | _ => !decide (x.cps.toList < y.cps.toList)
mutual
def ordP (op : CmpOp) : PyData → PyData → Option Bool
  | .bool x, .bool y => some (cmpI op (b2 x) (b2 y))
  | .int i, .int j => some (cmpI op i j)
  | .str x, .str y => some (cmpS op x y)
  | .tuple xs, .tuple ys => ordPs op xs ys
  | _, _ => none
def ordPs (op : CmpOp) : List PyData → List PyData → Option Bool
  | x :: xs, y :: ys => if PyData.eqv x y = true then ordPs op xs ys else ordP op x y
  | [], ys => some (szO op 0 ys.length)
  | x :: xs, [] => some (szO op (xs.length + 1) 0)
end
def Four (op : CmpOp) : Prop := op = .Lt ∨ op = .LtE ∨ op = .Gt ∨ op = .GtE
theorem rc_bool {op : CmpOp} (h : Four op) {A : Around} {s : Shared} (x y : Bool) : Ob.RcOp op A s (.bool x) (.bool y) (cmpI op (b2 x) (b2 y)) := by
  intro prog w E Q hq
  rcases h with rfl | rfl | rfl | rfl
  · exact lt_bool hq
  · exact le_bool hq
  · exact gt_bool hq
  · exact ge_bool hq
theorem rc_int {op : CmpOp} (h : Four op) {A : Around} {s : Shared} (x y : Int) (t u : Tok) : Ob.RcOp op A s (.int x t) (.int y u) (cmpI op x y) := by
  rcases h with rfl | rfl | rfl | rfl
  · exact Ob.RcOp.lt_int x y t u
  · exact Ob.RcOp.le_int x y t u
  · exact Ob.RcOp.gt_int x y t u
  · exact Ob.RcOp.ge_int x y t u
theorem rc_str {op : CmpOp} (h : Four op) {A : Around} {s : Shared} (x y : Str) (t u : Tok) : Ob.RcOp op A s (.str x t) (.str y u) (cmpS op x y) := by
  intro prog w E Q hq
  rcases h with rfl | rfl | rfl | rfl
  · exact PyProof.Rows.lt_str hq
  · exact P.le_str hq
  · exact P.gt_str hq
  · exact P.ge_str hq
theorem rc_tup {op : CmpOp} (h : Four op) {A : Around} {s : Shared} {l b : Addr} {I J : Array Value} {r : Bool} (hl : s.heap.IsTuple l I) (hb : s.heap.IsTuple b J) (hu : A.units < cLine) (hx : LexV op A.in1 s r I.toList J.toList) :
    Ob.RcOp op A s (.ref l) (.ref b) r := by
  rcases h with rfl | rfl | rfl | rfl
  · exact tup_lt hl hb hu hx
  · exact tup_le hl hb hu hx
  · exact tup_gt hl hb hu hx
  · exact tup_ge hl hb hu hx
mutual
theorem rc_ord {op : CmpOp} (h4 : Four op) : ∀ (da db : PyData) (A : Around) (s : Shared) (a b : Value) (as bs : List Addr) (r : Bool), Reads s.heap a da as → Reads s.heap b db bs → da.canLay0 = true → db.canLay0 = true → ordP op da db = some r →
    A.units + min da.depth db.depth < cLine → Ob.RcOp op A s a b r
  | .none, db, _, _, _, _, _, _, _, _, _, _, _, h, _ => by cases db <;> cases h
  | .dict _, db, _, _, _, _, _, _, _, _, _, _, _, h, _ => by cases db <;> cases h
  | .list _, db, _, _, _, _, _, _, _, _, _, _, _, h, _ => by cases db <;> cases h
  | .bool x, db, A, s, a, b, as, bs, r, ra, rb, _, _, h, _ => by
    cases db with
    | bool y =>
      cases h
      cases ra
      cases rb
      exact rc_bool h4 x y
    | _ => cases h
  | .int x, db, A, s, a, b, as, bs, r, ra, rb, _, _, h, _ => by
    cases db with
    | int y =>
      cases h
      cases ra
      cases rb
      exact rc_int h4 x y _ _
    | _ => cases h
  | .str x, db, A, s, a, b, as, bs, r, ra, rb, _, _, h, _ => by
    cases db with
    | str y =>
      cases h
      cases ra
      cases rb
      exact rc_str h4 x y _ _
    | _ => cases h
  | .tuple xs, db, A, s, a, b, as, bs, r, ra, rb, la, lb, h, hu => by
    cases db with
    | tuple ys =>
      have h : ordPs op xs ys = some r := h
      cases ra with
      | @tuple l o vs n _ as₁ h1 h2 h3 r1 =>
        cases rb with
        | @tuple l' o' vs' n' _ bs₁ k1 k2 k3 r2 =>
          have hu : A.units + min (PyData.depthAll xs + 1) (PyData.depthAll ys + 1) < cLine := hu
          refine rc_tup h4 ⟨_, h1, h2, _, h3⟩ ⟨_, k1, k2, _, k3⟩ (by omega) ?_
          exact rc_ords h4 xs ys A.in1 s _ _ _ _ r r1 r2 la lb h (by show A.units + 1 + _ < _; omega)
    | _ => cases h
theorem rc_ords {op : CmpOp} (h4 : Four op) : ∀ (xs ys : List PyData) (A : Around) (s : Shared) (vs ws : List Value) (as bs : List Addr) (r : Bool), ReadsAll s.heap vs xs as → ReadsAll s.heap ws ys bs → PyData.canLayAll0 xs = true → PyData.canLayAll0 ys = true → ordPs op xs ys = some r →
    A.units + min (PyData.depthAll xs) (PyData.depthAll ys) < cLine → LexV op A s r vs ws
  | [], ys, A, s, vs, ws, as, bs, r, ra, rb, _, _, h, _ => by
    cases ra
    have h : some (szO op 0 ys.length) = some r := by cases ys <;> exact h
    have hl := ReadsAll.length _ _ _ rb
    cases h
    cases ws with
    | nil => show szO op 0 0 = szO op 0 ys.length; rw [← hl]; rfl
    | cons w ws => show szO op 0 (w :: ws).length = szO op 0 ys.length; rw [← hl]
  | x :: xs, [], A, s, vs, ws, as, bs, r, ra, rb, _, _, h, _ => by
    cases rb
    cases ra with
    | cons h1 h2 =>
      have h : some (szO op (xs.length + 1) 0) = some r := h
      have hl := ReadsAll.length _ _ _ h2
      cases h
      show szO op (_ + 1) 0 = szO op (xs.length + 1) 0
      rw [hl]
  | x :: xs, y :: ys, A, s, vs, ws, as, bs, r, ra, rb, la, lb, h, hu => by
    cases ra with
    | cons r1 ra =>
      cases rb with
      | cons r2 rb =>
        have la : (x.canLay0 && PyData.canLayAll0 xs) = true := la
        have lb : (y.canLay0 && PyData.canLayAll0 ys) = true := lb
        have hu : A.units + min (max x.depth (PyData.depthAll xs)) (max y.depth (PyData.depthAll ys)) < cLine := hu
        rw [Bool.and_eq_true] at la lb
        have he := eqAt_reads x y A s _ _ _ _ r1 r2 la.1 lb.1 (by omega)
        have h : (if PyData.eqv x y = true then ordPs op xs ys else ordP op x y) = some r := h
        by_cases e : PyData.eqv x y = true
        · rw [if_pos e] at h
          rw [e] at he
          exact .inl ⟨he, rc_ords h4 xs ys A s _ _ _ _ r ra rb la.2 lb.2 h (by omega)⟩
        · rw [if_neg e] at h
          rw [Bool.not_eq_true] at e
          rw [e] at he
          exact .inr ⟨he, rc_ord h4 x y A s _ _ _ _ r r1 r2 la.1 lb.1 h (by omega)⟩
end
end TrO
namespace Tq
open PySem PySem.Spec PyProof.Rows L2
def ordD (op : CmpOp) (x y : D) : Option Bool := if x.shp && y.shp then TrO.ordP op x.toP y.toP else none
abbrev gOrdO (op : CmpOp) : G2 := g2V (ordD op)
def rOrd (K : PySem.W.Frag) (op : CmpOp) : R2 := fun x y H Q => ∃ da db r, Dp K H x da ∧ Dp K H y db ∧ SeqAt.shaped da = true ∧ SeqAt.shaped db = true ∧ TrO.ordP op da db = some r ∧ Q (.bl r) H
theorem op_ord {X : Cx} {op : CmpOp} (hu : X.A.units + 64 < cLine) (h4 : TrO.Four op) : OpR X (compareOp op) (rOrd X.K op) := by
  intro pins s σ H x y v u Q I rx ry h
  obtain ⟨da, db, r, ha, hb, sa, sb, e, q⟩ := h
  obtain ⟨as, r1⟩ := Dp.reads I da x v ha rx
  obtain ⟨bs, r2⟩ := Dp.reads I db y u hb ry
  have z := TrO.rc_ord h4 da db X.A s v u as bs r r1 r2 (SeqAt.canLay_of_shaped sa) (SeqAt.canLay_of_shaped sb) e (SeqAt.room_of_shaped sa hu)
  have z2 : wpAny (model X.prog X.w) X.A (richCompare op v u) (EP X pins σ Q) X.xe s := z X.prog X.w X.xe (EP X pins σ Q) ⟨.bl _, H, I, rfl, q⟩
  rcases h4 with rfl | rfl | rfl | rfl <;> exact z2
theorem og_ordO {K : PySem.W.Frag} {op : CmpOp} : Op2 K (rOrd K op) (gOrdO op) := og_2v fun H x y d e k Q rx ry hk q => by
  unfold ordD at hk
  split at hk
  · rename_i hs
    rw [Bool.and_eq_true] at hs
    exact ⟨_, _, k, rx.dp hs.1, ry.dp hs.2, hs.1, hs.2, hk, q⟩
  · cases hk
theorem op_ltO {X : Cx} (hu : X.A.units + 64 < cLine) : OpR X (compareOp .Lt) (rOrd X.K .Lt) := op_ord hu (.inl rfl)
theorem op_leO {X : Cx} (hu : X.A.units + 64 < cLine) : OpR X (compareOp .LtE) (rOrd X.K .LtE) := op_ord hu (.inr (.inl rfl))
theorem op_gtO {X : Cx} (hu : X.A.units + 64 < cLine) : OpR X (compareOp .Gt) (rOrd X.K .Gt) := op_ord hu (.inr (.inr (.inl rfl)))
theorem op_geO {X : Cx} (hu : X.A.units + 64 < cLine) : OpR X (compareOp .GtE) (rOrd X.K .GtE) := op_ord hu (.inr (.inr (.inr rfl)))
end Tq

/-! Tq11: reckoning with m's, in plain Lean. -/
namespace Tq
open PySem PySem.Spec PyProof.Rows L2
/-! ### loops -/
section
variable {g : A → Sl → Hq → Option Sl} {mb : MS} {ws : List A}
theorem forL_inv (I : Nat → Sl → Hq → Prop) {τ : Sl} {h : Hq} (h0 : I 0 τ h) (hs : ∀ n w τ h, ws[n]? = some w → I n τ h → ∃ τ1 τ2 h2, g w τ h = some τ1 ∧ (mb τ1 h = some (.nx τ2 h2) ∨ mb τ1 h = some (.ct τ2 h2)) ∧ I (n + 1) τ2 h2) (hl : ws.length ≤ LIM) :
    ∃ τ' h', forM (nxL ws) g mb FU 0 τ h = some (.nx τ' h') ∧ I ws.length τ' h' := by
  have go : ∀ (k n f : Nat) (τ : Sl) (h : Hq), ws.length - n = k → n ≤ ws.length → k < f → I n τ h → ∃ τ' h', forM (nxL ws) g mb f n τ h = some (.nx τ' h') ∧ I ws.length τ' h' := by
    intro k
    induction k with
    | zero =>
      intro n f τ h e hn hf hi
      have : n = ws.length := by omega
      subst this
      obtain ⟨f, rfl⟩ : ∃ f', f = f' + 1 := ⟨f - 1, by omega⟩
      refine ⟨τ, h, ?_, hi⟩
      unfold forM nxL
      rw [List.getElem?_eq_none (Nat.le_refl _)]
    | succ k ih =>
      intro n f τ h e hn hf hi
      have hlt : n < ws.length := by omega
      obtain ⟨f, rfl⟩ : ∃ f', f = f' + 1 := ⟨f - 1, by omega⟩
      have hw : ws[n]? = some ws[n] := List.getElem?_eq_getElem hlt
      obtain ⟨τ1, τ2, h2, e1, e2, i2⟩ := hs n _ τ h hw hi
      obtain ⟨τ', h', e3, i3⟩ := ih (n + 1) f τ2 h2 (by omega) (by omega) (by omega) i2
      refine ⟨τ', h', ?_, i3⟩
      unfold forM
      show (match nxL ws n h with | _ => _) = _
      unfold nxL
      rw [hw]
      dsimp only
      rw [e1]
      dsimp only
      rcases e2 with e2 | e2 <;> (rw [e2]; exact e3)
  exact go ws.length 0 FU τ h (by omega) (Nat.zero_le _) (by show ws.length < 16777217; have : ws.length ≤ 16777216 := hl; omega) h0
/-- over a cell that stays as it is -/
theorem forC_inv {k : Nat} (I : Nat → Sl → Hq → Prop) {τ : Sl} {h : Hq} (hk : ∀ n τ h, I n τ h → h[k]? = some (.lst ws)) (h0 : I 0 τ h) (hs : ∀ n w τ h, ws[n]? = some w → I n τ h → ∃ τ1 τ2 h2, g w τ h = some τ1 ∧ (mb τ1 h = some (.nx τ2 h2) ∨ mb τ1 h = some (.ct τ2 h2)) ∧ I (n + 1) τ2 h2) (hl : ws.length ≤ LIM) :
    ∃ τ' h', forM (nxC k) g mb FU 0 τ h = some (.nx τ' h') ∧ I ws.length τ' h' := by
  have go : ∀ (j n f : Nat) (τ : Sl) (h : Hq), ws.length - n = j → n ≤ ws.length → j < f → I n τ h → ∃ τ' h', forM (nxC k) g mb f n τ h = some (.nx τ' h') ∧ I ws.length τ' h' := by
    intro j
    induction j with
    | zero =>
      intro n f τ h e hn hf hi
      have : n = ws.length := by omega
      subst this
      obtain ⟨f, rfl⟩ : ∃ f', f = f' + 1 := ⟨f - 1, by omega⟩
      refine ⟨τ, h, ?_, hi⟩
      unfold forM nxC
      rw [hk _ _ _ hi]
      dsimp only
      rw [List.getElem?_eq_none (Nat.le_refl _)]
    | succ j ih =>
      intro n f τ h e hn hf hi
      have hlt : n < ws.length := by omega
      obtain ⟨f, rfl⟩ : ∃ f', f = f' + 1 := ⟨f - 1, by omega⟩
      have hw : ws[n]? = some ws[n] := List.getElem?_eq_getElem hlt
      obtain ⟨τ1, τ2, h2, e1, e2, i2⟩ := hs n _ τ h hw hi
      obtain ⟨τ', h', e3, i3⟩ := ih (n + 1) f τ2 h2 (by omega) (by omega) (by omega) i2
      refine ⟨τ', h', ?_, i3⟩
      unfold forM
      show (match nxC k n h with | _ => _) = _
      unfold nxC
      rw [hk _ _ _ hi]
      dsimp only
      rw [hw]
      dsimp only
      rw [e1]
      dsimp only
      rcases e2 with e2 | e2 <;> (rw [e2]; exact e3)
  exact go ws.length 0 FU τ h (by omega) (Nat.zero_le _) (by show ws.length < 16777217; have : ws.length ≤ 16777216 := hl; omega) h0
/-- a comprehension that leaves the cells alone -/
theorem compL_map {me : E A} {τw : Sl} {h : Hq} (f : A → A) (hs : ∀ w ∈ ws, ∃ τ1, g w τw h = some τ1 ∧ me τ1 h = some (.ok (f w) h)) (hl : ws.length ≤ LIM) : compM (nxL ws) g mYes me τw FU 0 h = some (ws.map f, h) := by
  have go : ∀ (k n fu : Nat), ws.length - n = k → n ≤ ws.length → k < fu → compM (nxL ws) g mYes me τw fu n h = some ((ws.drop n).map f, h) := by
    intro k
    induction k with
    | zero =>
      intro n fu e hn hf
      have : n = ws.length := by omega
      subst this
      obtain ⟨fu, rfl⟩ : ∃ f', fu = f' + 1 := ⟨fu - 1, by omega⟩
      unfold compM nxL
      rw [List.getElem?_eq_none (Nat.le_refl _), List.drop_length]
      rfl
    | succ k ih =>
      intro n fu e hn hf
      have hlt : n < ws.length := by omega
      obtain ⟨fu, rfl⟩ : ∃ f', fu = f' + 1 := ⟨fu - 1, by omega⟩
      have hw : ws[n]? = some ws[n] := List.getElem?_eq_getElem hlt
      obtain ⟨τ1, e1, e2⟩ := hs _ (List.getElem_mem hlt)
      unfold compM
      show (match nxL ws n h with | _ => _) = _
      unfold nxL
      rw [hw]
      dsimp only
      rw [e1]
      dsimp only [mYes]
      rw [e2]
      dsimp only
      have := ih (n + 1) fu (by omega) (by omega) (by omega)
      rw [show compM (fun i _ => some ws[i]?) g mYes me τw fu (n + 1) h = compM (nxL ws) g mYes me τw fu (n + 1) h from rfl] at *
      rw [this]
      dsimp only
      rw [List.drop_eq_getElem_cons hlt, List.map_cons]
  have := go ws.length 0 FU (by omega) (Nat.zero_le _) (by show ws.length < 16777217; have : ws.length ≤ 16777216 := hl; omega)
  rwa [List.drop_zero] at this
/-- a comprehension whose items come with a property, while I holds of the cells -/
theorem compL_inv {mt : E Bool} {me : E A} {τw : Sl} {h : Hq} (I : Nat → Hq → List A → Prop) (h0 : I 0 h []) (hs : ∀ n w h as, ws[n]? = some w → I n h as → ∃ τ1, g w τw h = some τ1 ∧ ((∃ h1 h2 a, mt τ1 h = some (.ok true h1) ∧ me τ1 h1 = some (.ok a h2) ∧ I (n + 1) h2 (as ++ [a])) ∨ ∃ h1, mt τ1 h = some (.ok false h1) ∧ I (n + 1) h1 as)) (hl : ws.length ≤ LIM) :
    ∃ as h', compM (nxL ws) g mt me τw FU 0 h = some (as, h') ∧ I ws.length h' as := by
  have go : ∀ (k n fu : Nat) (h : Hq) (as : List A), ws.length - n = k → n ≤ ws.length → k < fu → I n h as → ∃ bs h', compM (nxL ws) g mt me τw fu n h = some (bs, h') ∧ I ws.length h' (as ++ bs) := by
    intro k
    induction k with
    | zero =>
      intro n fu h as e hn hf hi
      have : n = ws.length := by omega
      subst this
      obtain ⟨fu, rfl⟩ : ∃ f', fu = f' + 1 := ⟨fu - 1, by omega⟩
      refine ⟨[], h, ?_, by simpa using hi⟩
      unfold compM nxL
      rw [List.getElem?_eq_none (Nat.le_refl _)]
    | succ k ih =>
      intro n fu h as e hn hf hi
      have hlt : n < ws.length := by omega
      obtain ⟨fu, rfl⟩ : ∃ f', fu = f' + 1 := ⟨fu - 1, by omega⟩
      have hw : ws[n]? = some ws[n] := List.getElem?_eq_getElem hlt
      obtain ⟨τ1, e1, r⟩ := hs n _ h as hw hi
      have un : nxL ws n h = some (some ws[n]) := by unfold nxL; rw [hw]
      rcases r with ⟨h1, h2, a, e2, e3, i2⟩ | ⟨h1, e2, i2⟩
      · obtain ⟨bs, h', e4, i3⟩ := ih (n + 1) fu h2 _ (by omega) (by omega) (by omega) i2
        refine ⟨a :: bs, h', ?_, by simpa using i3⟩
        unfold compM
        rw [un]
        dsimp only
        rw [e1]
        dsimp only
        rw [e2]
        dsimp only
        rw [e3]
        dsimp only
        rw [e4]
      · obtain ⟨bs, h', e4, i3⟩ := ih (n + 1) fu h1 _ (by omega) (by omega) (by omega) i2
        refine ⟨bs, h', ?_, i3⟩
        unfold compM
        rw [un]
        dsimp only
        rw [e1]
        dsimp only
        rw [e2]
        exact e4
  obtain ⟨bs, h', e, i⟩ := go ws.length 0 FU h [] (by omega) (Nat.zero_le _) (by show ws.length < 16777217; have : ws.length ≤ 16777216 := hl; omega) h0
  exact ⟨bs, h', e, by simpa using i⟩
end
/-! ### steps -/
theorem seq_nx {m1 m2 : MS} {τ τ1 : Sl} {h h1 : Hq} (e : m1 τ h = some (.nx τ1 h1)) : mSeq m1 m2 τ h = m2 τ1 h1 := by
  unfold mSeq
  rw [e]
theorem seq_rt {m1 m2 : MS} {τ : Sl} {w : A} {h h1 : Hq} (e : m1 τ h = some (.rt w h1)) : mSeq m1 m2 τ h = some (.rt w h1) := by
  unfold mSeq
  rw [e]
theorem runB_rt {np n : Nat} {m : MS} {ws : List A} {w : A} {h h1 : Hq} (hl : ws.length = np) (e : m (startT n ws) h = some (.rt w h1)) : runB np n m ws h = some (.ok w h1) := by
  unfold runB
  rw [if_pos hl, e]
theorem runB_nx {np n : Nat} {m : MS} {ws : List A} {τ : Sl} {h h1 : Hq} (hl : ws.length = np) (e : m (startT n ws) h = some (.nx τ h1)) : runB np n m ws h = some (.ok (.d .non) h1) := by
  unfold runB
  rw [if_pos hl, e]
theorem mFor_of {mi : E Nxt} {g : A → Sl → Hq → Option Sl} {mb : MS} {τ : Sl} {h h1 : Hq} {nx : Nxt} (e : mi τ h = some (.ok nx h1)) : mFor mi g mb τ h = forM nx g mb FU 0 τ h1 := by
  unfold mFor
  rw [e]
  rfl
theorem mRange1_of {m : E A} {τ : Sl} {h h1 : Hq} {j : Int} (e : m τ h = some (.ok (.d (.int j)) h1)) (h0 : -4611686018427387904 ≤ j) (h2 : j < 4611686018427387904) : mRange1 m τ h = some (.ok (nxL (rangeA 0 j.toNat)) h1) := by
  unfold mRange1
  rw [e]
  show (if _ then _ else _) = _
  rw [if_pos ⟨h0, h2⟩]
theorem rangeA_len (lo : Int) (n : Nat) : (rangeA lo n).length = n := by unfold rangeA; rw [List.length_map, List.length_range]
theorem rangeA_get {lo : Int} {n i : Nat} {w : A} (h : (rangeA lo n)[i]? = some w) : i < n ∧ w = .d (.int (lo + (i : Nat))) := by
  have hi : i < n := by
    rw [← rangeA_len lo n]
    exact (List.getElem?_eq_some_iff.mp h).1
  unfold rangeA at h
  rw [List.getElem?_map, List.getElem?_range hi] at h
  cases h
  exact ⟨hi, rfl⟩
theorem rangeA_mem {lo : Int} {n : Nat} {w : A} (h : w ∈ rangeA lo n) : ∃ i : Nat, i < n ∧ w = .d (.int (lo + (i : Nat))) := by
  unfold rangeA at h
  obtain ⟨i, h1, h2⟩ := List.mem_map.mp h
  exact ⟨i, List.mem_range.mp h1, h2.symm⟩
theorem rangeA_map {lo : Int} {n : Nat} (f : A → A) : (rangeA lo n).map f = (List.range n).map fun i => f (.d (.int (lo + (i : Nat)))) := by
  unfold rangeA
  rw [List.map_map]
  rfl
/-! ### single m's -/
theorem append_of {τ : Sl} {h : Hq} {k : Nat} {ws : List A} {w : A} {mo mv : E A} (h1 : mo τ h = some (.ok (.r k) h)) (e : h[k]? = some (.lst ws)) (h2 : mv τ h = some (.ok w h)) (hl : ws.length < LIM) : mDrop (mM1 tokL gApp mo mv) τ h = some (.nx τ (h.set k (.lst (ws ++ [w])))) := by
  have t : tokL (.r k) h = true := by
    unfold tokL lstOf
    dsimp only
    rw [e]
    rfl
  have ga : gApp (.r k) w h = some (.ok (.d .non) (h.set k (.lst (ws ++ [w])))) := by
    unfold gApp
    dsimp only
    rw [e]
    dsimp only
    rw [if_pos hl]
  unfold mDrop mM1
  rw [h1, bd_ok, if_pos t, h2, bd_ok, ga, sb_ok]
theorem set_of {τ : Sl} {h h1 : Hq} {i : Nat} {w : A} {m : E A} (e : m τ h = some (.ok w h1)) : mSet i m τ h = some (.nx (τ.set i (some w)) h1) := by
  unfold mSet
  rw [e, sb_ok]
theorem drop_of {τ : Sl} {h h1 : Hq} {w : A} {m : E A} (e : m τ h = some (.ok w h1)) : mDrop m τ h = some (.nx τ h1) := by
  unfold mDrop
  rw [e, sb_ok]
theorem ret_of {τ : Sl} {h h1 : Hq} {w : A} {m : E A} (e : m τ h = some (.ok w h1)) : mRet m τ h = some (.rt w h1) := by
  unfold mRet
  rw [e, sb_ok]
theorem if_tt {t : E Bool} {m1 m2 : MS} {τ : Sl} {h h1 : Hq} (e : t τ h = some (.ok true h1)) : mIf t m1 m2 τ h = m1 τ h1 := by
  unfold mIf
  rw [e, sb_ok]
theorem if_ff {t : E Bool} {m1 m2 : MS} {τ : Sl} {h h1 : Hq} (e : t τ h = some (.ok false h1)) : mIf t m1 m2 τ h = m2 τ h1 := by
  unfold mIf
  rw [e, sb_ok]
theorem bin_of {g : G2} {ma mb : E A} {τ : Sl} {h h1 h2 : Hq} {a b : A} (e1 : ma τ h = some (.ok a h1)) (e2 : mb τ h1 = some (.ok b h2)) : mBin g ma mb τ h = g a b h2 := by
  unfold mBin
  rw [e1, bd_ok, e2, bd_ok]
theorem un_of {g : G1} {ma : E A} {τ : Sl} {h h1 : Hq} {a : A} (e1 : ma τ h = some (.ok a h1)) : mUn g ma τ h = g a h1 := by
  unfold mUn
  rw [e1, bd_ok]
theorem tb_of {m : E A} {τ : Sl} {h h1 : Hq} {k : Bool} (e : m τ h = some (.ok (.d (.bl k)) h1)) : mTB m τ h = some (.ok k h1) := by
  unfold mTB
  rw [e, bd_ok]
theorem var_of {τ : Sl} {h : Hq} {i : Nat} {w : A} (e : τ[i]? = some (some w)) : mVar i τ h = some (.ok w h) := by
  unfold mVar
  rw [e]
theorem cons_of {ma : E A} {mr : E (List A)} {τ : Sl} {h h1 h2 : Hq} {a : A} {r : List A} (e1 : ma τ h = some (.ok a h1)) (e2 : mr τ h1 = some (.ok r h2)) : maCons ma mr τ h = some (.ok (a :: r) h2) := by
  unfold maCons
  rw [e1, bd_ok, e2, bd_ok]
theorem meth_of {C m : Str} {n : Nat} {sem : Sem1} {mo : E A} {mr : E (List A)} {τ : Sl} {h h1 h2 : Hq} {a : A} {ws : List A} (e1 : mo τ h = some (.ok a h1)) (hi : insOf C m a h1 = true) (e2 : mr τ h1 = some (.ok ws h2)) (hl : ws.length + 1 = n) : mMeth C m n sem mo mr τ h = sem (a :: ws) h2 := by
  unfold mMeth
  rw [e1, bd_ok, if_pos hi, e2, bd_ok, if_pos hl]
theorem len_of {n : Nat} {mr : E (List A)} {τ : Sl} {h h1 : Hq} {ws : List A} (e : mr τ h = some (.ok ws h1)) (hl : ws.length = n) : lenIs n mr τ h = some (.ok ws h1) := by
  unfold lenIs
  rw [e, bd_ok, if_pos hl]
theorem call_of {sem : Sem1} {mr : E (List A)} {τ : Sl} {h h1 : Hq} {ws : List A} (e : mr τ h = some (.ok ws h1)) : mCall sem mr τ h = sem ws h1 := by
  unfold mCall
  rw [e, bd_ok]
theorem callP_of {sem : Sem1} {mr : E (List A)} {τ : Sl} {h h1 h' : Hq} {ds : List D} {w : A} {d : D} (e : mr τ h = some (.ok (ds.map A.d) h1)) (e2 : sem (ds.map A.d) [] = some (.ok w h')) (e3 : view h' w = some d) : mCallP sem mr τ h = some (.ok (.d d) h1) := by
  unfold mCallP
  rw [e, bd_ok]
  unfold callP
  rw [mapMn_d _ _ (vw_d 32 h1)]
  dsimp only
  rw [e2]
  dsimp only
  rw [e3, allD_map]
  rfl
theorem view_lst {h : Hq} {k : Nat} {ds : List D} (e : h[k]? = some (.lst (ds.map A.d))) : view h (.r k) = some (.lst ds) := vw_cell (n := 31) e
theorem set_same {h : Hq} {k : Nat} {o : O} (e : h[k]? = some o) : h.set k o = h := by
  obtain ⟨hk, rfl⟩ := List.getElem?_eq_some_iff.mp e
  exact List.set_getElem_self hk
/-! ### data that is compared -/
def D.fok : D → Bool
  | .str z => PyData.strOk z
  | .non => true | .bl _ => true | .int _ => true
  | _ => false
theorem lay_fok : ∀ {d : D}, d.fok = true → d.toP.canLay0 = true ∧ d.toP.depth = 0
  | .non, _ => ⟨rfl, rfl⟩
  | .bl _, _ => ⟨rfl, rfl⟩
  | .int _, _ => ⟨rfl, rfl⟩
  | .str _, h => ⟨h, rfl⟩
theorem lays_fok : ∀ {ds : List D}, ds.all D.fok = true → PyData.canLayAll0 (D.toPs ds) = true ∧ PyData.depthAll (D.toPs ds) = 0
  | [], _ => ⟨rfl, rfl⟩
  | d :: r, h => by
    rw [List.all_cons, Bool.and_eq_true] at h
    obtain ⟨h1, h2⟩ := lay_fok h.1
    obtain ⟨h3, h4⟩ := lays_fok h.2
    constructor
    · show (d.toP.canLay0 && PyData.canLayAll0 (D.toPs r)) = true
      rw [h1, h3]
      rfl
    · show max d.toP.depth (PyData.depthAll (D.toPs r)) = 0
      rw [h2, h4]
      rfl
theorem shp_fok {d : D} (h : d.fok = true) : d.shp = true := by
  obtain ⟨h1, h2⟩ := lay_fok h
  show (d.toP.canLay0 && decide (d.toP.depth ≤ 64)) = true
  rw [h1, h2]
  rfl
theorem shp_lst {ds : List D} (h : ds.all D.fok = true) : (D.lst ds).shp = true := by
  obtain ⟨h1, h2⟩ := lays_fok h
  show (PyData.canLayAll0 (D.toPs ds) && decide (PyData.depthAll (D.toPs ds) + 1 ≤ 64)) = true
  rw [h1, h2]
  rfl
theorem shp_tup {ds : List D} (h : ds.all D.fok = true) : (D.tup ds).shp = true := shp_lst (ds := ds) h
theorem eqv_str (a b : Str) : D.eqv (.str a) (.str b) = decide (a = b) := by
  rw [show D.eqv (.str a) (.str b) = (a == b) from rfl, Bool.eq_iff_iff]
  simp
theorem eqv_int (a b : Int) : D.eqv (.int a) (.int b) = decide (a = b) := rfl
theorem eqv_refl {d : D} (h : d.shp = true) : D.eqv d d = true := by
  exact SeqAt.eqv_refl _ (SeqAt.canLay_of_shaped h)
theorem eqD_same {n : Bool} {x : D} (h : x.shp = true) : eqD n x x = some (!n) := by
  unfold eqD
  rw [h, eqv_refl h]
  cases n <;> rfl
@[simp] theorem eqD_int (n : Bool) (i j : Int) : eqD n (.int i) (.int j) = some (if n then !decide (i = j) else decide (i = j)) := by
  rw [← show (i == j) = decide (i = j) from rfl]
  rfl
theorem log2_lt {a k : Nat} (h : a < 2 ^ k) (hk : 0 < k) : a.log2 < k := by
  by_cases z : a = 0
  · subst z; simpa using hk
  · exact (Nat.log2_lt z).mpr h
theorem mulOk_of {i j : Int} {a b : Nat} (h1 : i.natAbs < 2 ^ a) (h2 : j.natAbs < 2 ^ b) (ha : 0 < a) (hb : 0 < b) (h : a + b ≤ 134000000) : mulOk i j = true := by
  unfold mulOk
  have := log2_lt h1 ha
  have := log2_lt h2 hb
  exact decide_eq_true (by omega)
theorem divOk_of {i j : Int} {b : Nat} (h0 : 0 < j) (h2 : j.natAbs < 2 ^ b) (hb : 0 < b) (h : b ≤ 9000) : divOk i j = true := by
  unfold divOk
  have := log2_lt h2 hb
  rw [decide_eq_true h0, Bool.true_and]
  exact decide_eq_true (by omega)
theorem atI_in {α : Type} {xs : List α} {i : Int} (h0 : 0 ≤ i) (h1 : i.toNat < xs.length) : atI xs i = some xs[i.toNat] := by
  unfold atI ixN
  rw [if_pos h0, if_pos (by omega)]
  exact List.getElem?_eq_getElem h1
end Tq

/-! Tq12: raise C('text') of an own class without __init__; try .. except C: of one clause, no name. -/
namespace Tq
open PySem PySem.Spec PyProof.Rows L2

structure ExC (K : PySem.W.Frag) (mg : Str → Option Value) (C : Str) : Prop where
  ex : ∃ (c : Addr) (bmB : List Value) (B newId initId : String), ExcBaseFacts B newId initId bmB ∧ PySem.W.excIn K c bmB newId = true ∧ mg C = some (.ref c) ∧ glAt K C = some c ∧ PySem.W.keepIn K (.ref c) = true ∧ PySem.W.subIn K (.ref c) (.type "BaseException") = some true ∧ PySem.W.typeIn K (.ref c) = some (.type "type")
def mRaise (C : Str) : MS := fun τ h => some (.ex (.own C) τ h)
theorem rs_raise {X : Cx} {W : WX} {C m : Str} {j : Nat} {p p2 pos pos' : Pos} (tk : Takes X W) (e : ExC X.K X.mg C) (hc : X.calm = true := by rfl) (hg : Gl X C := by rfl) (hdb : (C == ("__debug__" : Str)) = false := by decide) :
    RS X W (.Raise (some (.Call (.Name C p) [.Constant (.str m) j p2] [] pos)) none pos') (mRaise C) := by
  obtain ⟨c, bmB, B, nI, iI, F, q, g1, g2, kp, s1, s2⟩ := e.ex
  refine ⟨ps_imp (L2.ps_raise hc tk (L2.pmk_own F q g1 kp (L2.raises_own s1 s2) hg hdb)) fun D σ H hq => ?_⟩
  obtain ⟨Z, B', ρ, τ, h, ok, sl, q2⟩ := hq
  exact q2 σ B' ρ H _ _ ok sl Gr.refl (.own g2)

/-! ### try -/
inductive Xn where
  | own (C : Str) | blt (T : String)
deriving DecidableEq
def Xc.nm : Xc → Xn
  | .own C => .own C
  | .fld C _ _ => .own C
  | .blt T => .blt T
def xLook : List (Xn × Bool) → Xn → Option Bool
  | [], _ => none
  | (y, b) :: r, x => if y = x then some b else xLook r x
def XnV (K : PySem.W.Frag) : Xn → Value → Prop
  | .own D, cls => ∃ d, glAt K D = some d ∧ cls = .ref d
  | .blt T, cls => cls = .type T
def XAll (K : PySem.W.Frag) (c : Value) (T : List (Xn × Bool)) : Prop := ∀ x b, xLook T x = some b → ∀ cls, XnV K x cls → PySem.W.exmOne K cls c = some b
theorem xall_nil {K : PySem.W.Frag} {c : Value} : XAll K c [] := fun _ _ e => by cases e
theorem xall_own {K : PySem.W.Frag} {c : Value} {T : List (Xn × Bool)} {D : Str} {d : Addr} {b : Bool} (h : glAt K D = some d) (e : PySem.W.exmOne K (.ref d) c = some b) (r : XAll K c T) : XAll K c ((.own D, b) :: T) := fun x b' hx cls hv => by
  unfold xLook at hx
  split at hx
  · rename_i z
    subst z
    cases hx
    obtain ⟨d', h', rfl⟩ := hv
    rw [h] at h'
    cases h'
    exact e
  · exact r x b' hx cls hv
theorem xall_blt {K : PySem.W.Frag} {c : Value} {T : List (Xn × Bool)} {N : String} {b : Bool} (e : PySem.W.exmOne K (.type N) c = some b) (r : XAll K c T) : XAll K c ((.blt N, b) :: T) := fun x b' hx cls hv => by
  unfold xLook at hx
  split at hx
  · rename_i z
    subst z
    cases hx
    cases hv
    exact e
  · exact r x b' hx cls hv
/-- of own classes: by subIn -/
theorem exm_own {K : PySem.W.Frag} {S D : Addr} {b : Bool} (h1 : PySem.W.subIn K (.ref S) (.type "BaseException") = some true) (h2 : PySem.W.isClsIn K S = true) (h3 : PySem.W.typeIn K (.ref S) = some (.type "type")) (h4 : PySem.W.subIn K (.ref D) (.ref S) = some b) :
    PySem.W.exmOne K (.ref D) (.ref S) = some b := by
  have e1 : (PySem.W.subIn K (.ref S) (.type "BaseException") == some true) = true := by rw [h1] <;> rfl
  have e2 : ((PySem.W.clsIn K S).isSome && PySem.W.typeIn K (.ref S) == some (.type "type")) = true := by
    have h2' : (PySem.W.clsIn K S).isSome = true := h2
    rw [h2', h3] <;> rfl
  show (if (PySem.W.subIn K (.ref S) (.type "BaseException") == some true) = true then (if ((PySem.W.clsIn K S).isSome && PySem.W.typeIn K (.ref S) == some (.type "type")) = true then PySem.W.subIn K (.ref D) (.ref S) else none) else none) = some b
  rw [if_pos e1, if_pos e2]
  exact h4
structure XTok (K : PySem.W.Frag) (mg : Str → Option Value) (C : Str) (T : List (Xn × Bool)) : Prop where
  ex : ∃ c : Value, (mg C = some c ∨ (mg C = none ∧ bootBuiltins C = some c ∧ C ≠ "__name__")) ∧ XAll K c T
def mTry (T : List (Xn × Bool)) (mb ms : MS) : MS := fun τ h => match mb τ h with
  | some (.ex x τ1 h1) => (match xLook T x.nm with
    | some true => (match ms τ1 h1 with | some (.ex _ _ _) => none | r => r)
    | some false => some (.ex x τ1 h1)
    | none => none)
  | r => r
theorem xc_nm {K : PySem.W.Frag} {B : Hp} {ρ : Nat → Option Addr} {H : Hp} {x : Xc} {cls : Value} {d : Option Addr} (h : XcAt K B ρ H x cls d) : XnV K x.nm cls := by
  cases h with
  | own h => exact ⟨_, h, rfl⟩
  | fld h _ _ => exact ⟨_, h, rfl⟩
  | blt => rfl
theorem rs_try {X : Cx} {W : WX} {C : Str} {T : List (Xn × Bool)} {body suite : List Stmt} {b₀ : Stmt} {mb ms : MS} {np pos pos' : Pos} (tk : Takes X W) (t : XTok X.K X.mg C T)
    (hb : ∀ (W' : WX) (pn : List (Addr × Obj)) (xe : Value → Shared → Prop), Takes (X.tr pn xe) W' → PassesOwn (model X.prog X.w) X.A X.env xe → RSs (X.tr pn xe) W' body mb)
    (hsu : ∀ (a : Addr) (pn : List (Addr × Obj)), RSs (X.suite a pn) W0 (b₀ :: suite) ms)
    (hs : X.stack = X.env :: X.outer := by rfl) (hf : X.env.frame = some X.env.locals := by rfl) (hg : Gl X C := by rfl) (hdb : (C == ("__debug__" : Str)) = false := by decide) :
    RS X W (.Try body [.ExceptHandler (some (.Name C np)) none (b₀ :: suite) pos'] [] [] pos) (mTry T mb ms) := by
  obtain ⟨c, hc, ha⟩ := t.ex
  refine ⟨ps_imp (L2.ps_try_only (tb := fun W' => tS X.K W' mb) (ts := fun _ _ _ => tS X.K W0 ms) hs hf ⟨hg, hdb, hc⟩ tk (fun W' pn xe tk' hp => (hb W' pn xe tk' hp).ps) (fun a oe cls d pn _ _ => (hsu a _).ps)) fun D σ H q => ?_⟩
  obtain ⟨Z, B, ρ, τ, h, ok, sl, q⟩ := q
  refine ⟨Z, B, ρ, τ, h, ok, sl, ?_⟩
  unfold mTry at q
  revert q
  cases mb τ h with
  | none => exact fun q => q
  | some r =>
    cases r with
    | nx τ1 h1 => exact fun q => q
    | bk τ1 h1 => exact fun q => q
    | ct τ1 h1 => exact fun q => q
    | rt w h1 => exact fun q => q
    | ex x τ1 h1 =>
      intro q σ' B' ρ' H' cls d ok' sl' g xc
      dsimp only at q
      cases e : xLook T x.nm with
      | none => rw [e] at q; exact q.elim
      | some b =>
        rw [e] at q
        refine ⟨b, ha _ _ e _ (xc_nm xc), fun eb a na => ?_, fun eb => ?_⟩
        · subst eb
          dsimp only at q
          refine ⟨Z, B', ρ', τ1, h1, ok', sl', ?_⟩
          revert q
          cases ms τ1 h1 with
          | none => exact fun q => q.elim
          | some r =>
            cases r with
            | nx _ _ => exact fun q => q.from g
            | bk _ _ => exact fun q => q.from g
            | ct _ _ => exact fun q => q.from g
            | rt _ _ => exact fun q => q.from g
            | ex _ _ _ => exact fun q => q.elim
        · subst eb
          exact q σ' B' ρ' H' cls d ok' sl' g xc
end Tq

/-! Tq13: plain lemmas: lists of ints, loops step by step, ints, picks. -/
namespace Tq
open PySem PySem.Spec PyProof.Rows L2
abbrev LD (xs : List Int) : D := .lst (xs.map D.int)
def LI (xs : List Int) : List A := (xs.map D.int).map A.d
theorem LI_len (xs : List Int) : (LI xs).length = xs.length := by unfold LI; rw [List.length_map, List.length_map]
theorem LI_app (xs ys : List Int) : LI (xs ++ ys) = LI xs ++ LI ys := by unfold LI; rw [List.map_append, List.map_append]
theorem LI_cut (xs : List Int) (lo hi : Option Int) : LI (cut xs lo hi) = cut (LI xs) lo hi := by unfold LI; rw [map_cut, map_cut]
theorem LI_set (xs : List Int) (n : Nat) (z : Int) : (LI xs).set n (.d (.int z)) = LI (xs.set n z) := by unfold LI; rw [List.map_set, List.map_set]
theorem LI_get (xs : List Int) (n : Nat) : (LI xs)[n]? = (xs[n]?).map fun z => A.d (.int z) := by
  unfold LI
  rw [List.getElem?_map, List.getElem?_map, Option.map_map]
  rfl
theorem cut_len {α : Type} (xs : List α) (lo hi : Option Int) : (cut xs lo hi).length ≤ xs.length := by
  unfold cut
  rw [List.length_take, List.length_drop]
  omega
theorem sIx_nat (len dflt n : Nat) : HT.sIx len dflt (some (n : Int)) = min n len := by
  unfold HT.sIx
  simp only []
  split <;> omega
theorem cut_take {α : Type} (xs : List α) (n : Nat) : cut xs none (some (n : Int)) = xs.take n := by
  unfold cut
  rw [sIx_nat, show HT.sIx xs.length 0 none = 0 from rfl, List.drop_zero, Nat.sub_zero, List.take_eq_take_iff]
  omega
theorem cut_drop {α : Type} (xs : List α) (n : Nat) : cut xs (some (n : Int)) none = xs.drop n := by
  unfold cut
  rw [sIx_nat, show HT.sIx xs.length xs.length none = xs.length from rfl]
  by_cases h : n ≤ xs.length
  · rw [Nat.min_eq_left h, List.take_of_length_le (by rw [List.length_drop]; omega)]
  · rw [Nat.min_eq_right (by omega), List.drop_of_length_le (Nat.le_refl _), List.drop_of_length_le (by omega), List.take_nil]
theorem cut_mid {α : Type} (xs : List α) (a b : Nat) : cut xs (some (a : Int)) (some (b : Int)) = (xs.drop a).take (b - a) := by
  unfold cut
  rw [sIx_nat, sIx_nat]
  by_cases h : a ≤ xs.length
  · rw [Nat.min_eq_left h, List.take_eq_take_iff, List.length_drop]
    omega
  · rw [show min a xs.length = xs.length from Nat.min_eq_right (by omega), List.drop_of_length_le (Nat.le_refl _), List.drop_of_length_le (by omega), List.take_nil, List.take_nil]
theorem mkL_d {ds : List D} {h : Hq} (hl : ds.length ≤ LIM) : mkL false (ds.map A.d) h = some (.ok (.d (.lst ds)) h) := by
  unfold mkL
  rw [if_pos (by rw [List.length_map]; exact hl), allD_map]
  rfl
theorem mkL_i {xs : List Int} {h : Hq} (hl : xs.length ≤ LIM) : mkL false (LI xs) h = some (.ok (.d (LD xs)) h) := mkL_d (by rw [List.length_map]; exact hl)
theorem mkL_c {ws : List A} {h : Hq} (hl : ws.length ≤ LIM) : mkL true ws h = some (.ok (.r h.length) (h ++ [.lst ws])) := by
  unfold mkL
  rw [if_pos hl]
  rfl
theorem cell_app (h : Hq) (o : O) : (h ++ [o])[h.length]? = some o := by
  rw [List.getElem?_append_right (Nat.le_refl _), Nat.sub_self]
  rfl
theorem app_keep {h : Hq} {os : List O} {k : Nat} {o : O} (e : h[k]? = some o) : (h ++ os)[k]? = some o := by
  rw [List.getElem?_append_left (List.getElem?_eq_some_iff.mp e).1]
  exact e
theorem lt_of_get {h : Hq} {k : Nat} {o : O} (e : h[k]? = some o) : k < h.length := (List.getElem?_eq_some_iff.mp e).1
theorem gAdd_ll (o : Bool) (xs ys : List Int) (h : Hq) : gAdd o (.d (LD xs)) (.d (LD ys)) h = mkL o (LI (xs ++ ys)) h := by
  rw [LI_app]
  rfl
theorem gLen_d (xs : List Int) (h : Hq) : gLen (.d (LD xs)) h = some (.ok (.d (.int (xs.length : Nat))) h) := by
  show some (Rs.ok (A.d (D.int ((((xs.map D.int).map A.d).length : Nat) : Int))) h) = _
  rw [List.length_map, List.length_map]
theorem gLen_c {h : Hq} {k : Nat} {ws : List A} (e : h[k]? = some (.lst ws)) : gLen (.r k) h = some (.ok (.d (.int (ws.length : Nat))) h) := by
  unfold gLen lenA
  simp only [tupOf, lstOf, e]
theorem gSl_d (o : Bool) (xs : List Int) (lo hi : Option Int) (h : Hq) : gSl o (.d (LD xs)) lo hi h = mkL o (LI (cut xs lo hi)) h := by
  rw [LI_cut]
  rfl
theorem gSl_c {o : Bool} {h : Hq} {k : Nat} {xs : List Int} (e : h[k]? = some (.lst (LI xs))) (lo hi : Option Int) : gSl o (.r k) lo hi h = mkL o (LI (cut xs lo hi)) h := by
  simp only [gSl, tupOf, lstOf, e]
  rw [LI_cut]
theorem atI_nat {α : Type} {xs : List α} {n : Nat} {x : α} (e : xs[n]? = some x) : atI xs (n : Int) = some x := by
  have hn : n < xs.length := (List.getElem?_eq_some_iff.mp e).1
  rw [atI_in (Int.natCast_nonneg n) (by rw [Int.toNat_natCast]; exact hn)]
  have := (List.getElem?_eq_some_iff.mp e).2
  simp only [Int.toNat_natCast]
  rw [this]
theorem gGet_d {xs : List Int} {n : Nat} {z : Int} (h : Hq) (e : xs[n]? = some z) : gGet (.d (LD xs)) (.d (.int (n : Nat))) h = some (.ok (.d (.int z)) h) := by
  have e1 : atI ((xs.map D.int).map A.d) (n : Int) = some (A.d (.int z)) := atI_nat (by rw [show (xs.map D.int).map A.d = LI xs from rfl, LI_get, e]; rfl)
  show (match atI ((xs.map D.int).map A.d) (n : Int) with | some w => some (Rs.ok w h) | none => none) = _
  rw [e1]
theorem gGet_c {h : Hq} {k n : Nat} {ws : List A} {w : A} (e : h[k]? = some (.lst ws)) (e1 : ws[n]? = some w) : gGet (.r k) (.d (.int (n : Nat))) h = some (.ok w h) := by
  unfold gGet dicOf
  simp only [e]
  unfold gIx
  simp only [tupOf, lstOf, e]
  rw [atI_nat e1]
  rfl
theorem gMul_ok {i j : Int} (h : Hq) (e : mulOk i j = true) : gMul (.d (.int i)) (.d (.int j)) h = some (.ok (.d (.int (i * j))) h) := by
  show (if mulOk i j = true then _ else _) = _
  rw [if_pos e]
theorem gDiv_ok {i j : Int} (h : Hq) (e : divOk i j = true) : gDiv (.d (.int i)) (.d (.int j)) h = some (.ok (.d (.int (i / j))) h) := by
  show (if divOk i j = true then _ else _) = _
  rw [if_pos e]
theorem gMod_ok {i j : Int} (h : Hq) (e : 0 < j) : gMod (.d (.int i)) (.d (.int j)) h = some (.ok (.d (.int (i % j))) h) := by
  show (if modOk i j = true then _ else _) = _
  rw [if_pos (by unfold modOk; exact decide_eq_true e)]
theorem gAdd_int (o : Bool) (i j : Int) (h : Hq) : gAdd o (.d (.int i)) (.d (.int j)) h = some (.ok (.d (.int (i + j))) h) := rfl
theorem gSub_int (i j : Int) (h : Hq) : gSub (.d (.int i)) (.d (.int j)) h = some (.ok (.d (.int (i - j))) h) := rfl
theorem gLe_int (i j : Int) (h : Hq) : gLe (.d (.int i)) (.d (.int j)) h = some (.ok (.d (.bl (decide (i ≤ j)))) h) := rfl
theorem gLt_int (i j : Int) (h : Hq) : gLt (.d (.int i)) (.d (.int j)) h = some (.ok (.d (.bl (decide (i < j)))) h) := rfl
theorem gGe_int (i j : Int) (h : Hq) : gGe (.d (.int i)) (.d (.int j)) h = some (.ok (.d (.bl (decide (j ≤ i)))) h) := rfl
theorem gGt_int (i j : Int) (h : Hq) : gGt (.d (.int i)) (.d (.int j)) h = some (.ok (.d (.bl (decide (j < i)))) h) := rfl
theorem mul_small {i j : Int} (h1 : i.natAbs < 2 ^ 64) (h2 : j.natAbs < 2 ^ 64) : mulOk i j = true := mulOk_of h1 h2 (by decide) (by decide) (by decide)
theorem bits_log {z : Int} (h : Builtin.Int.intBits z ≤ 1048576) : z.natAbs.log2 ≤ 1048576 := by
  unfold Builtin.Int.intBits at h
  split at h
  · rename_i e
    have e : z = 0 := by
      first
        | exact e
        | simpa using e
    subst e
    decide
  · omega
section
variable {τ : Sl} {h h1 : Hq} {i j : Int} {a b : E A}
theorem add_of {o : Bool} (e1 : a τ h = some (.ok (.d (.int i)) h)) (e2 : b τ h = some (.ok (.d (.int j)) h)) : mBin (gAdd o) a b τ h = some (.ok (.d (.int (i + j))) h) := by rw [bin_of e1 e2]; rfl
theorem sub_of (e1 : a τ h = some (.ok (.d (.int i)) h)) (e2 : b τ h = some (.ok (.d (.int j)) h)) : mBin gSub a b τ h = some (.ok (.d (.int (i - j))) h) := by rw [bin_of e1 e2]; rfl
theorem mod_of (e1 : a τ h = some (.ok (.d (.int i)) h)) (e2 : b τ h = some (.ok (.d (.int j)) h)) (e : 0 < j) : mBin gMod a b τ h = some (.ok (.d (.int (i % j))) h) := by rw [bin_of e1 e2]; exact gMod_ok _ e
theorem div_of (e1 : a τ h = some (.ok (.d (.int i)) h)) (e2 : b τ h = some (.ok (.d (.int j)) h)) (e : divOk i j = true) : mBin gDiv a b τ h = some (.ok (.d (.int (i / j))) h) := by rw [bin_of e1 e2]; exact gDiv_ok _ e
theorem mul_of (e1 : a τ h = some (.ok (.d (.int i)) h)) (e2 : b τ h = some (.ok (.d (.int j)) h)) (e : mulOk i j = true) : mBin gMul a b τ h = some (.ok (.d (.int (i * j))) h) := by rw [bin_of e1 e2]; exact gMul_ok _ e
theorem lt_of (e1 : a τ h = some (.ok (.d (.int i)) h)) (e2 : b τ h = some (.ok (.d (.int j)) h)) : mTB (mBin gLt a b) τ h = some (.ok (decide (i < j)) h) := tb_of (by rw [bin_of e1 e2]; rfl)
theorem le_of (e1 : a τ h = some (.ok (.d (.int i)) h)) (e2 : b τ h = some (.ok (.d (.int j)) h)) : mTB (mBin gLe a b) τ h = some (.ok (decide (i ≤ j)) h) := tb_of (by rw [bin_of e1 e2]; rfl)
theorem gt_of (e1 : a τ h = some (.ok (.d (.int i)) h)) (e2 : b τ h = some (.ok (.d (.int j)) h)) : mTB (mBin gGt a b) τ h = some (.ok (decide (j < i)) h) := tb_of (by rw [bin_of e1 e2]; rfl)
theorem ge_of (e1 : a τ h = some (.ok (.d (.int i)) h)) (e2 : b τ h = some (.ok (.d (.int j)) h)) : mTB (mBin gGe a b) τ h = some (.ok (decide (j ≤ i)) h) := tb_of (by rw [bin_of e1 e2]; rfl)
theorem eqi_of (e1 : a τ h = some (.ok (.d (.int i)) h)) (e2 : b τ h = some (.ok (.d (.int j)) h)) : mBin (gEq false) a b τ h = some (.ok (.d (.bl (decide (i = j)))) h) := by
  rw [bin_of e1 e2]
  unfold gEq g2V view
  rw [vw_d, vw_d]
  dsimp only
  rw [eqD_int, if_neg (by simp)]
theorem nei_of (e1 : a τ h = some (.ok (.d (.int i)) h)) (e2 : b τ h = some (.ok (.d (.int j)) h)) : mBin (gEq true) a b τ h = some (.ok (.d (.bl (!decide (i = j)))) h) := by
  rw [bin_of e1 e2]
  unfold gEq g2V view
  rw [vw_d, vw_d]
  dsimp only
  rw [eqD_int, if_pos rfl]
/-- a comparison by the data of both sides -/
theorem eqv_of {n r : Bool} {x y : A} {d e : D} {h2 : Hq} (e1 : a τ h = some (.ok x h1)) (e2 : b τ h1 = some (.ok y h2)) (v1 : view h2 x = some d) (v2 : view h2 y = some e) (q : eqD n d e = some r) : mBin (gEq n) a b τ h = some (.ok (.d (.bl r)) h2) := by
  rw [bin_of e1 e2]
  unfold gEq g2V
  rw [v1, v2]
  dsimp only
  rw [q]
theorem mul1_of {m : Nat} {i j : Int} (h1 : i.natAbs < 2 ^ 64) (h2 : j.natAbs < 2 ^ 64) : mulOk i j = true := mul_small h1 h2
theorem dm_of {j : Nat} {i a b : Int} (e : τ[j]? = some (some (.d (.int i)))) (ha : divOk i a = true) (hb : 0 < b) : mBin gMod (mBin gDiv (mVar j) (mC (.int a))) (mC (.int b)) τ h = some (.ok (.d (.int (i / a % b))) h) := mod_of (div_of (var_of e) rfl ha) rfl hb
theorem tru_bl {m : E A} {b : Bool} (e : m τ h = some (.ok (.d (.bl b)) h1)) : mNotT (mTru m) τ h = some (.ok (!b) h1) := by
  unfold mNotT mTru
  rw [e, bd_ok]
  rfl
theorem and_ff {a b : E Bool} (k : Bool) (e1 : a τ h = some (.ok k h)) (e2 : b τ h = some (.ok false h1)) : ∃ h2, mAndT a b τ h = some (.ok false h2) ∧ (h2 = h ∨ h2 = h1) := by
  unfold mAndT
  rw [e1, bd_ok]
  cases k with
  | true => exact ⟨h1, e2, .inr rfl⟩
  | false => exact ⟨h, rfl, .inl rfl⟩
theorem and_of {a b : E Bool} {k l : Bool} (e1 : a τ h = some (.ok k h)) (e2 : b τ h = some (.ok l h)) : mAndT a b τ h = some (.ok (k && l) h) := by
  unfold mAndT
  rw [e1, bd_ok]
  cases k with
  | true => exact e2
  | false => rfl
theorem or_of {a b : E Bool} {k l : Bool} (e1 : a τ h = some (.ok k h)) (e2 : b τ h = some (.ok l h)) : mOrT a b τ h = some (.ok (k || l) h) := by
  unfold mOrT
  rw [e1, bd_ok]
  cases k with
  | true => rfl
  | false => exact e2
theorem orff_of {a b : E Bool} {l : Bool} {h2 : Hq} (e1 : a τ h = some (.ok false h1)) (e2 : b τ h1 = some (.ok l h2)) : mOrT a b τ h = some (.ok l h2) := by
  unfold mOrT
  rw [e1, bd_ok]
  exact e2
end
theorem lc_of {o : Bool} {mi : E Nxt} {g : A → Sl → Hq → Option Sl} {me : E A} {vs : List Nat} {τ : Sl} {h h1 : Hq} {ws : List A} (f : A → A) (e : mi τ h = some (.ok (nxL ws) h1)) (hs : ∀ w ∈ ws, ∃ τ1, g w (wipeT τ vs) h1 = some τ1 ∧ me τ1 h1 = some (.ok (f w) h1)) (hl : ws.length ≤ LIM) : mLC o mi g mYes me vs τ h = mkL o (ws.map f) h1 := by
  unfold mLC
  rw [e, bd_ok]
  rw [compL_map f hs hl]
  dsimp only
  rw [if_pos (by rw [List.length_map]; exact hl)]
/-! ### loops, a turn at a time -/
theorem while_tt {t : E Bool} {mb : MS} {n : Nat} {τ τ2 : Sl} {h h1 h2 : Hq} (e : t τ h = some (.ok true h1)) (e2 : mb τ h1 = some (.nx τ2 h2)) : mWhile t mb (n + 1) τ h = mWhile t mb n τ2 h2 := by
  unfold mWhile
  rw [e, sb_ok]
  dsimp only
  rw [e2]
  cases n <;> rfl
theorem while_bk {t : E Bool} {mb : MS} {n : Nat} {τ τ2 : Sl} {h h1 h2 : Hq} (e : t τ h = some (.ok true h1)) (e2 : mb τ h1 = some (.bk τ2 h2)) : mWhile t mb (n + 1) τ h = some (.nx τ2 h2) := by
  unfold mWhile
  rw [e, sb_ok]
  dsimp only
  rw [e2]
theorem while_ff {t : E Bool} {mb : MS} {n : Nat} {τ : Sl} {h h1 : Hq} (e : t τ h = some (.ok false h1)) : mWhile t mb (n + 1) τ h = some (.nx τ h1) := by
  unfold mWhile
  rw [e, sb_ok]
theorem for_step {nx : Nxt} {g : A → Sl → Hq → Option Sl} {mb : MS} {f i : Nat} {w : A} {τ τ1 τ2 : Sl} {h h2 : Hq} (e : nx i h = some (some w)) (e1 : g w τ h = some τ1) (e2 : mb τ1 h = some (.nx τ2 h2)) : forM nx g mb (f + 1) i τ h = forM nx g mb f (i + 1) τ2 h2 := by
  unfold forM
  rw [e]
  dsimp only
  rw [e1]
  dsimp only
  rw [e2]
  cases f <;> rfl
theorem for_rt {nx : Nxt} {g : A → Sl → Hq → Option Sl} {mb : MS} {f i : Nat} {w u : A} {τ τ1 : Sl} {h h2 : Hq} (e : nx i h = some (some w)) (e1 : g w τ h = some τ1) (e2 : mb τ1 h = some (.rt u h2)) : forM nx g mb (f + 1) i τ h = some (.rt u h2) := by
  unfold forM
  rw [e]
  dsimp only
  rw [e1]
  dsimp only
  rw [e2]
theorem for_ex {nx : Nxt} {g : A → Sl → Hq → Option Sl} {mb : MS} {f i : Nat} {w : A} {x : Xc} {τ τ1 τ2 : Sl} {h h2 : Hq} (e : nx i h = some (some w)) (e1 : g w τ h = some τ1) (e2 : mb τ1 h = some (.ex x τ2 h2)) : forM nx g mb (f + 1) i τ h = some (.ex x τ2 h2) := by
  unfold forM
  rw [e]
  dsimp only
  rw [e1]
  dsimp only
  rw [e2]
theorem seq_bk {m1 m2 : MS} {τ τ1 : Sl} {h h1 : Hq} (e : m1 τ h = some (.bk τ1 h1)) : mSeq m1 m2 τ h = some (.bk τ1 h1) := by
  unfold mSeq
  rw [e]
theorem seq_ex {m1 m2 : MS} {x : Xc} {τ τ1 : Sl} {h h1 : Hq} (e : m1 τ h = some (.ex x τ1 h1)) : mSeq m1 m2 τ h = some (.ex x τ1 h1) := by
  unfold mSeq
  rw [e]
theorem seq_assoc {a b c : MS} {τ : Sl} {h : Hq} : mSeq (mSeq a b) c τ h = mSeq a (mSeq b c) τ h := by
  unfold mSeq
  cases a τ h with
  | none => rfl
  | some r => cases r <;> rfl
theorem setex_of {τ : Sl} {h h1 : Hq} {i : Nat} {x : Xc} {m : E A} (e : m τ h = some (.ex x h1)) : mSet i m τ h = some (.ex x τ h1) := by
  unfold mSet
  rw [e, sb_ex]
theorem runB_ex {np n : Nat} {m : MS} {ws : List A} {x : Xc} {τ : Sl} {h h1 : Hq} (hl : ws.length = np) (e : m (startT n ws) h = some (.ex x τ h1)) : runB np n m ws h = some (.ex x h1) := by
  unfold runB
  rw [if_pos hl, e]
/-! ### lists of ints compared -/
theorem LI_fok (xs : List Int) : (xs.map D.int).all D.fok = true := by
  rw [List.all_map]
  exact List.all_eq_true.mpr fun _ _ => rfl
theorem eqvAll_ints : ∀ (xs ys : List Int), PyData.eqvAll (D.toPs (xs.map D.int)) (D.toPs (ys.map D.int)) = decide (xs = ys)
  | [], [] => rfl
  | [], _ :: _ => rfl
  | _ :: _, [] => rfl
  | x :: xs, y :: ys => by
    show (PyData.eqv (D.int x).toP (D.int y).toP && PyData.eqvAll (D.toPs (xs.map D.int)) (D.toPs (ys.map D.int))) = _
    rw [eqvAll_ints xs ys, show PyData.eqv (D.int x).toP (D.int y).toP = decide (x = y) from rfl, Bool.eq_iff_iff]
    simp
theorem eqv_LD (xs ys : List Int) : D.eqv (LD xs) (LD ys) = decide (xs = ys) := eqvAll_ints xs ys
theorem shp_LD (xs : List Int) : (LD xs).shp = true := shp_lst (LI_fok xs)
theorem eqD_LD (n : Bool) (xs ys : List Int) : eqD n (LD xs) (LD ys) = some (if n then !decide (xs = ys) else decide (xs = ys)) := by
  unfold eqD
  rw [shp_LD, shp_LD, eqv_LD]
  rfl
theorem view_LI {h : Hq} {k : Nat} {xs : List Int} (e : h[k]? = some (.lst (LI xs))) : view h (.r k) = some (LD xs) := view_lst e
theorem pick2 (a b i : Int) (h : Hq) (h0 : 0 ≤ i) (h3 : i < 2) : ∃ v, gGet (.d (.lst [.int a, .int b])) (.d (.int i)) h = some (.ok (.d (.int v)) h) ∧ (v = a ∨ v = b) := by
  rcases (by omega : i = 0 ∨ i = 1) with e | e
  · exact ⟨a, by rw [e]; rfl, .inl rfl⟩
  · exact ⟨b, by rw [e]; rfl, .inr rfl⟩
theorem lays_ints : ∀ (ns : List Int), PyData.canLayAll0 (ns.map PyData.int) = true ∧ PyData.depthAll (ns.map PyData.int) = 0
  | [] => ⟨rfl, rfl⟩
  | n :: r => by
    obtain ⟨h1, h2⟩ := lays_ints r
    constructor
    · show ((PyData.int n).canLay0 && PyData.canLayAll0 (r.map PyData.int)) = true
      rw [h1]
      rfl
    · show max (PyData.int n).depth (PyData.depthAll (r.map PyData.int)) = 0
      rw [h2]
      rfl
theorem shp_scr (ns : List Int) : (D.scr ns).shp = true := by
  obtain ⟨h1, h2⟩ := lays_ints ns
  show (PyData.canLayAll0 (ns.map PyData.int) && decide (PyData.depthAll (ns.map PyData.int) + 1 ≤ 64)) = true
  rw [h1, h2]
  rfl
/-! ### a list of lists of ints -/
abbrev LLD (rs : List (List Int)) : D := .lst (rs.map LD)
theorem lays_LD (xs : List Int) : (LD xs).toP.canLay0 = true ∧ (LD xs).toP.depth ≤ 1 := by
  obtain ⟨h1, h2⟩ := lays_fok (LI_fok xs)
  constructor
  · show PyData.canLayAll0 (D.toPs (xs.map D.int)) = true
    exact h1
  · show PyData.depthAll (D.toPs (xs.map D.int)) + 1 ≤ 1
    rw [h2]
    exact Nat.le_refl _
theorem lays_LLs : ∀ (rs : List (List Int)), PyData.canLayAll0 (D.toPs (rs.map LD)) = true ∧ PyData.depthAll (D.toPs (rs.map LD)) ≤ 1
  | [] => ⟨rfl, Nat.zero_le _⟩
  | r :: rs => by
    obtain ⟨h1, h2⟩ := lays_LD r
    obtain ⟨h3, h4⟩ := lays_LLs rs
    constructor
    · show ((LD r).toP.canLay0 && PyData.canLayAll0 (D.toPs (rs.map LD))) = true
      rw [h1, h3]
      rfl
    · show max (LD r).toP.depth (PyData.depthAll (D.toPs (rs.map LD))) ≤ 1
      exact Nat.max_le.mpr ⟨h2, h4⟩
/-- a pair of a list of lists and an int -/
theorem shp_told (rs : List (List Int)) (n : Int) : (D.tup [LLD rs, .int n]).shp = true := by
  obtain ⟨h1, h2⟩ := lays_LLs rs
  have hd : (D.tup [LLD rs, .int n]).toP.depth ≤ 64 := by
    show max (PyData.depthAll (D.toPs (rs.map LD)) + 1) (max 0 0) + 1 ≤ 64
    omega
  show ((PyData.canLayAll0 (D.toPs (rs.map LD)) && (PyData.canLayAll0 (D.toPs [.int n]))) && decide ((D.tup [LLD rs, .int n]).toP.depth ≤ 64)) = true
  rw [h1, decide_eq_true hd]
  rfl
end Tq

namespace K52
open PySem PySem.Spec PyProof.Rows L2 Tq
def topS (i : Nat) : Stmt := PySem.Challenge.pw_kithwhole_k52_records_read_back.main.body.getD i (.Pass ⟨0, 0, 0, 0⟩)
def FT : FTab := [("Reader", ["data", "at"])]
def XT_DamagedPacket : List (Xn × Bool) := [(.own "DamagedPacket", true)]
/-! ### _law_draw: 0=script 1=k 2=cell 3=turn 4=step -/
abbrev s__law_draw : Stmt := topS 15
theorem sc__law_draw : FnScope ["script", "k", "cell", "turn", "step"] ["script", "k"] (defScope s__law_draw) := ⟨rfl, rfl, rfl, by decide +kernel, rfl, by decide +kernel, by decide +kernel⟩
def B1__law_draw : MS :=
 (mSet 2 (mBin gDiv (mVar 2) (mC (.int 100003))))
def L1__law_draw : MS :=
 (mFor (mRange1 (mBin gMin2 (mVar 3) (mC (.int 60)))) (mgName 4) B1__law_draw)
def b__law_draw : MS :=
 (mSeq (mIf (mNotT (mTru (mVar 0))) (mRet (mBin gMod (mBin gMul (mVar 1) (mC (.int 5))) (mC (.int 7)))) mNx)
 (mSeq (mSet 2 (mUn gInt (mBin gGet (mVar 0) (mBin gMod (mVar 1) (mUn gLen (mVar 0))))))
 (mSeq (mSet 3 (mBin gDiv (mVar 1) (mUn gLen (mVar 0))))
 (mSeq (mIf (mTB (mBin gGe (mVar 2) (mC (.int 1000000000000000000)))) (mSeq L1__law_draw
 (mRet (mBin gMod (mVar 2) (mC (.int 100003))))) mNx)
 (mRet (mBin gMod (mBin gMul (mBin gMod (mBin (gAdd false) (mBin (gAdd false) (mBin gMul (mVar 2) (mC (.int 48271))) (mBin gMul (mVar 1) (mC (.int 69621)))) (mC (.int 13))) (mC (.int 2147483647))) (mC (.int 16807))) (mC (.int 2147483629))))))))
def sem__law_draw : Sem1 := runB 2 5 b__law_draw
/-! ### checksum: 0=data 1=total 2=byte -/
abbrev s_checksum : Stmt := topS 10
theorem sc_checksum : FnScope ["data", "total", "byte"] ["data"] (defScope s_checksum) := ⟨rfl, rfl, rfl, by decide +kernel, rfl, by decide +kernel, by decide +kernel⟩
def B1_checksum : MS :=
 (mSet 1 (mBin gMod (mBin (gAdd false) (mBin (gAdd false) (mBin gMul (mC (.int 31)) (mVar 1)) (mVar 2)) (mC (.int 1))) (mC (.int 4294967296))))
def L1_checksum : MS :=
 (mFor (mItems (mVar 0)) (mgName 2) B1_checksum)
def b_checksum : MS :=
 (mSeq (mSet 1 (mC (.int 7)))
 (mSeq L1_checksum
 (mRet (mVar 1))))
def sem_checksum : Sem1 := runB 1 3 b_checksum
/-! ### write_number: 0=number 1=data -/
abbrev s_write_number : Stmt := topS 2
theorem sc_write_number : FnScope ["number", "data"] ["number"] (defScope s_write_number) := ⟨rfl, rfl, rfl, by decide +kernel, rfl, by decide +kernel, by decide +kernel⟩
def B1_write_number : MS :=
 (mSeq (mDrop (mM1 tokL gApp (mVar 1) (mBin (gAdd false) (mBin gMod (mVar 0) (mC (.int 128))) (mC (.int 128)))))
 (mSet 0 (mBin gDiv (mVar 0) (mC (.int 128)))))
def W1_write_number : E Bool :=
 (mTB (mBin gGe (mVar 0) (mC (.int 128))))
def L1_write_number : MS :=
 (mWhile W1_write_number B1_write_number 1000000)
def b_write_number : MS :=
 (mSeq (mSet 1 (mLst true maNil))
 (mSeq L1_write_number
 (mSeq (mDrop (mM1 tokL gApp (mVar 1) (mVar 0)))
 (mRet (mVar 1)))))
def sem_write_number : Sem1 := runB 1 2 b_write_number
/-! ### write_record: 0=data 1=total 2=tail -/
abbrev s_write_record : Stmt := topS 11
theorem sc_write_record : FnScope ["data", "total", "tail"] ["data"] (defScope s_write_record) := ⟨rfl, rfl, rfl, by decide +kernel, rfl, by decide +kernel, by decide +kernel⟩
def b_write_record : MS :=
 (mSeq (mSet 1 (mCallP sem_checksum (lenIs 1 (maCons (mVar 0) maNil))))
 (mSeq (mSet 2 (mLst false (maCons (mBin gDiv (mVar 1) (mC (.int 16777216))) (maCons (mBin gMod (mBin gDiv (mVar 1) (mC (.int 65536))) (mC (.int 256))) (maCons (mBin gMod (mBin gDiv (mVar 1) (mC (.int 256))) (mC (.int 256))) (maCons (mBin gMod (mVar 1) (mC (.int 256))) maNil))))))
 (mRet (mBin (gAdd true) (mBin (gAdd false) (mCallP sem_write_number (lenIs 1 (maCons (mUn gLen (mVar 0)) maNil))) (mUn (gLstOf false) (mVar 0))) (mVar 2)))))
def sem_write_record : Sem1 := runB 1 3 b_write_record
/-! ### Reader.__init__: 0=self 1=data -/
abbrev s_Reader____init__ : Stmt := inClass (topS 8) 0
theorem sc_Reader____init__ : FnScope ["self", "data"] ["self", "data"] (defScope s_Reader____init__) := ⟨rfl, rfl, rfl, by decide +kernel, rfl, by decide +kernel, by decide +kernel⟩
def b_Reader____init__ : MS :=
 (mSeq (mSetF FT "data" (mVar 0) (mUn (gLstOf false) (mVar 1)))
 (mSetF FT "at" (mVar 0) (mC (.int 0))))
def sem_Reader____init__ : Sem1 := runB 2 2 b_Reader____init__
/-! ### Reader.read_byte: 0=self -/
abbrev s_Reader__read_byte : Stmt := inClass (topS 8) 1
theorem sc_Reader__read_byte : FnScope ["self"] ["self"] (defScope s_Reader__read_byte) := ⟨rfl, rfl, rfl, by decide +kernel, rfl, by decide +kernel, by decide +kernel⟩
def b_Reader__read_byte : MS :=
 (mSeq (mIf (mTB (mBin gGe (mUn (gFld FT "at") (mVar 0)) (mUn gLen (mUn (gFld FT "data") (mVar 0))))) (mRaise "DamagedPacket") mNx)
 (mSeq (mAugF FT "at" gIAdd (mVar 0) (mC (.int 1)))
 (mRet (mBin gGet (mUn (gFld FT "data") (mVar 0)) (mBin gSub (mUn (gFld FT "at") (mVar 0)) (mC (.int 1)))))))
def sem_Reader__read_byte : Sem1 := runB 1 1 b_Reader__read_byte
/-! ### Reader.read_number: 0=self 1=total 2=factor 3=count 4=byte -/
abbrev s_Reader__read_number : Stmt := inClass (topS 8) 2
theorem sc_Reader__read_number : FnScope ["self", "total", "factor", "count", "byte"] ["self"] (defScope s_Reader__read_number) := ⟨rfl, rfl, rfl, by decide +kernel, rfl, by decide +kernel, by decide +kernel⟩
def B1_Reader__read_number : MS :=
 (mSeq (mSet 4 (mMeth "Reader" "read_byte" 1 sem_Reader__read_byte (mVar 0) maNil))
 (mSeq (mAug 1 gIAdd (mBin gMul (mBin gMod (mVar 4) (mC (.int 128))) (mVar 2)))
 (mSeq (mSet 2 (mBin gMul (mVar 2) (mC (.int 128))))
 (mIf (mTB (mBin gLt (mVar 4) (mC (.int 128)))) (mSeq (mIf (mAndT (mTB (mBin (gEq false) (mVar 4) (mC (.int 0)))) (mTB (mBin gGt (mVar 3) (mC (.int 0))))) (mRaise "DamagedPacket") mNx)
 (mRet (mVar 1))) mNx))))
def L1_Reader__read_number : MS :=
 (mFor (mRange1 (mC (.int 60))) (mgName 3) B1_Reader__read_number)
def b_Reader__read_number : MS :=
 (mSeq (mSet 1 (mC (.int 0)))
 (mSeq (mSet 2 (mC (.int 1)))
 (mSeq L1_Reader__read_number
 (mRaise "DamagedPacket"))))
def sem_Reader__read_number : Sem1 := runB 1 5 b_Reader__read_number
/-! ### record_size: 0=data 1=start 2=reader 3=count -/
abbrev s_record_size : Stmt := topS 12
theorem sc_record_size : FnScope ["data", "start", "reader", "count"] ["data", "start"] (defScope s_record_size) := ⟨rfl, rfl, rfl, by decide +kernel, rfl, by decide +kernel, by decide +kernel⟩
def Y1_record_size : MS :=
 (mSet 3 (mMeth "Reader" "read_number" 1 sem_Reader__read_number (mVar 2) maNil))
def X1_record_size : MS :=
 (mRet (mC .non))
def b_record_size : MS :=
 (mSeq (mSet 2 (mMake "Reader" 2 sem_Reader____init__ (maCons (mSl false (mVar 0) (moS (mVar 1)) moN) maNil)))
 (mSeq (mTry XT_DamagedPacket Y1_record_size X1_record_size)
 (mRet (mTup (maCons (mUn (gFld FT "at") (mVar 2)) (maCons (mVar 3) maNil))))))
def sem_record_size : Sem1 := runB 2 4 b_record_size
/-! ### read_records: 0=data 1=records 2=start 3=found 4=begin 5=end -/
abbrev s_read_records : Stmt := topS 13
theorem sc_read_records : FnScope ["data", "records", "start", "found", "begin", "end"] ["data"] (defScope s_read_records) := ⟨rfl, rfl, rfl, by decide +kernel, rfl, by decide +kernel, by decide +kernel⟩
def B1_read_records : MS :=
 (mSeq (mSet 3 (mCallP sem_record_size (lenIs 2 (maCons (mVar 0) (maCons (mVar 2) maNil)))))
 (mSeq (mIf (mTB (mBin (gIs false) (mVar 3) (mC .non))) mBk mNx)
 (mSeq (mSet 4 (mBin (gAdd false) (mVar 2) (mBin gGet (mVar 3) (mC (.int 0)))))
 (mSeq (mSet 5 (mBin (gAdd false) (mVar 4) (mBin gGet (mVar 3) (mC (.int 1)))))
 (mSeq (mIf (mOrT (mTB (mBin gGt (mBin (gAdd false) (mVar 5) (mC (.int 4))) (mUn gLen (mVar 0)))) (mTB (mBin (gEq true) (mCallP sem_write_record (lenIs 1 (maCons (mSl false (mVar 0) (moS (mVar 4)) (moS (mVar 5))) maNil))) (mSl false (mVar 0) (moS (mVar 2)) (moS (mBin (gAdd false) (mVar 5) (mC (.int 4)))))))) mBk mNx)
 (mSeq (mDrop (mM1 tokL gApp (mVar 1) (mSl true (mVar 0) (moS (mVar 4)) (moS (mVar 5)))))
 (mSet 2 (mBin (gAdd false) (mVar 5) (mC (.int 4))))))))))
def W1_read_records : E Bool :=
 (mTB (mBin gLt (mVar 2) (mUn gLen (mVar 0))))
def L1_read_records : MS :=
 (mWhile W1_read_records B1_read_records 1000000)
def b_read_records : MS :=
 (mSeq (mSet 1 (mLst true maNil))
 (mSeq (mSet 2 (mC (.int 0)))
 (mSeq L1_read_records
 (mRet (mTup (maCons (mVar 1) (maCons (mVar 2) maNil)))))))
def sem_read_records : Sem1 := runB 1 6 b_read_records
/-! ### _law_data: 0=number 1=size 2=k -/
abbrev s__law_data : Stmt := topS 17
theorem sc__law_data : FnScope ["number", "size", "k"] ["number"] (defScope s__law_data) := ⟨rfl, rfl, rfl, by decide +kernel, rfl, by decide +kernel, by decide +kernel⟩
def E1__law_data : E Tq.A :=
 (mBin gMod (mBin (gAdd false) (mVar 0) (mBin gMul (mBin gMul (mC (.int 7)) (mVar 2)) (mVar 2))) (mC (.int 256)))
def C1__law_data : E Tq.A :=
 (mLC false (mRange1 (mVar 1)) (mgName 2) mYes E1__law_data [2])
def b__law_data : MS :=
 (mSeq (mSet 1 (mBin gMod (mVar 0) (mC (.int 12))))
 (mSeq (mIf (mTB (mBin (gEq false) (mBin gMod (mBin gDiv (mVar 0) (mC (.int 12))) (mC (.int 5))) (mC (.int 0)))) (mSet 1 (mBin (gAdd false) (mC (.int 100)) (mBin gMod (mVar 0) (mC (.int 41))))) mNx)
 (mSeq (mIf (mTB (mBin (gEq false) (mBin gMod (mBin gDiv (mVar 0) (mC (.int 12))) (mC (.int 5))) (mC (.int 1)))) (mSet 1 (mBin (gAdd false) (mC (.int 12)) (mBin gMod (mVar 0) (mC (.int 88))))) mNx)
 (mSeq (mIf (mTB (mBin (gEq false) (mBin gMod (mBin gDiv (mVar 0) (mC (.int 12))) (mC (.int 35))) (mC (.int 2)))) (mSet 1 (mBin gGet (mLst false (maCons (mBin (gAdd false) (mC (.int 140)) (mBin gMod (mVar 0) (mC (.int 400)))) (maCons (mBin (gAdd false) (mC (.int 16376)) (mBin gMod (mVar 0) (mC (.int 16)))) maNil))) (mBin gMod (mBin gDiv (mVar 0) (mC (.int 420))) (mC (.int 2))))) mNx)
 (mRet C1__law_data)))))
def sem__law_data : Sem1 := runB 1 3 b__law_data
/-! ### _law_sum: 0=data 1=total 2=byte -/
abbrev s__law_sum : Stmt := topS 16
theorem sc__law_sum : FnScope ["data", "total", "byte"] ["data"] (defScope s__law_sum) := ⟨rfl, rfl, rfl, by decide +kernel, rfl, by decide +kernel, by decide +kernel⟩
def B1__law_sum : MS :=
 (mSet 1 (mBin gMod (mBin (gAdd false) (mBin (gAdd false) (mBin gMul (mC (.int 31)) (mVar 1)) (mVar 2)) (mC (.int 1))) (mC (.int 4294967296))))
def L1__law_sum : MS :=
 (mFor (mItems (mVar 0)) (mgName 2) B1__law_sum)
def b__law_sum : MS :=
 (mSeq (mSet 1 (mC (.int 7)))
 (mSeq L1__law_sum
 (mRet (mVar 1))))
def sem__law_sum : Sem1 := runB 1 3 b__law_sum
/-! ### law: 0=script 1=records 2=data 3=sizes 4=k 5=record 6=given 7=written 8=total 9=head 10=rest 11=tail 12=number 13=extra 14=place 15=second 16=told 17=end 18=count -/
abbrev s_law : Stmt := topS 18
theorem sc_law : FnScope ["script", "records", "data", "sizes", "k", "record", "given", "written", "total", "head", "rest", "tail", "number", "extra", "place", "second", "told", "end", "count"] ["script"] (defScope s_law) := ⟨rfl, rfl, rfl, by decide +kernel, rfl, by decide +kernel, by decide +kernel⟩
def B1_law : MS :=
 (mSeq (mDrop (mM1 tokL gApp (mVar 9) (mBin (gAdd false) (mBin gMod (mVar 10) (mC (.int 128))) (mC (.int 128)))))
 (mSet 10 (mBin gDiv (mVar 10) (mC (.int 128)))))
def W1_law : E Bool :=
 (mTB (mBin gGe (mVar 10) (mC (.int 128))))
def L1_law : MS :=
 (mWhile W1_law B1_law 1000000)
def B2_law : MS :=
 (mSeq (mSet 5 (mCallP sem__law_data (lenIs 1 (maCons (mCallP sem__law_draw (lenIs 2 (maCons (mVar 0) (maCons (mVar 4) maNil)))) maNil))))
 (mSeq (mDrop (mM1 tokL gApp (mVar 1) (mVar 5)))
 (mSeq (mSet 6 (mUn (gLstOf false) (mVar 5)))
 (mSeq (mIf (mTB (mBin (gEq true) (mCallP sem_checksum (lenIs 1 (maCons (mVar 6) maNil))) (mCallP sem__law_sum (lenIs 1 (maCons (mVar 5) maNil))))) (mRet (mC (.bl false))) mNx)
 (mSeq (mSet 7 (mCallP sem_write_record (lenIs 1 (maCons (mVar 6) maNil))))
 (mSeq (mIf (mTB (mBin (gEq true) (mVar 6) (mVar 5))) (mRet (mC (.bl false))) mNx)
 (mSeq (mSet 8 (mCallP sem__law_sum (lenIs 1 (maCons (mVar 5) maNil))))
 (mSeq (mSet 9 (mLst true maNil))
 (mSeq (mSet 10 (mUn gLen (mVar 5)))
 (mSeq L1_law
 (mSeq (mDrop (mM1 tokL gApp (mVar 9) (mVar 10)))
 (mSeq (mSet 11 (mLst false (maCons (mBin gDiv (mVar 8) (mC (.int 16777216))) (maCons (mBin gMod (mBin gDiv (mVar 8) (mC (.int 65536))) (mC (.int 256))) (maCons (mBin gMod (mBin gDiv (mVar 8) (mC (.int 256))) (mC (.int 256))) (maCons (mBin gMod (mVar 8) (mC (.int 256))) maNil))))))
 (mSeq (mIf (mTB (mBin (gEq true) (mVar 7) (mBin (gAdd false) (mBin (gAdd false) (mVar 9) (mVar 5)) (mVar 11)))) (mRet (mC (.bl false))) mNx)
 (mSeq (mSet 2 (mBin (gAdd false) (mVar 2) (mVar 7)))
 (mDrop (mM1 tokL gApp (mVar 3) (mUn gLen (mVar 2))))))))))))))))))
def L2_law : MS :=
 (mFor (mRange1 (mBin gMin2 (mC (.int 13)) (mUn gLen (mVar 0)))) (mgName 4) B2_law)
def B3_law : MS :=
 (mDrop (mM1 tokL gApp (mVar 5) (mC (.int 7))))
def L3_law : MS :=
 (mFor (mItems (mBin gGet (mVar 16) (mC (.int 0)))) (mgName 5) B3_law)
def B4_law : MS :=
 (mAug 18 gIAdd (mC (.int 1)))
def W2_law : E Bool :=
 (mAndT (mTB (mBin gLt (mBin (gAdd false) (mVar 18) (mC (.int 1))) (mUn gLen (mVar 3)))) (mTB (mBin gLe (mBin gGet (mVar 3) (mBin (gAdd false) (mVar 18) (mC (.int 1)))) (mVar 17))))
def L4_law : MS :=
 (mWhile W2_law B4_law 1000000)
def b_law : MS :=
 (mSeq (mSet 1 (mLst true maNil))
 (mSeq (mSet 2 (mLst false maNil))
 (mSeq (mSet 3 (mLst true (maCons (mC (.int 0)) maNil)))
 (mSeq L2_law
 (mSeq (mSet 12 (mCallP sem__law_draw (lenIs 2 (maCons (mVar 0) (maCons (mUn gLen (mVar 0)) maNil)))))
 (mSeq (mSet 13 (mCallO sem_write_record (lenIs 1 (maCons (mCallP sem__law_data (lenIs 1 (maCons (mBin gDiv (mVar 12) (mC (.int 3))) maNil))) maNil))))
 (mSeq (mIf (mTB (mBin (gEq false) (mBin gMod (mVar 12) (mC (.int 3))) (mC (.int 1)))) (mSet 13 (mSl true (mVar 13) moN (moS (mBin gMod (mBin gDiv (mVar 12) (mC (.int 7))) (mUn gLen (mVar 13)))))) (mIf (mTB (mBin (gEq false) (mBin gMod (mVar 12) (mC (.int 3))) (mC (.int 2)))) (mSeq (mSet 14 (mBin gSub (mBin gSub (mUn gLen (mVar 13)) (mC (.int 1))) (mBin gMod (mBin gDiv (mVar 12) (mC (.int 7))) (mBin (gAdd false) (mC (.int 4)) (mUn gLen (mCallP sem__law_data (lenIs 1 (maCons (mBin gDiv (mVar 12) (mC (.int 3))) maNil))))))))
 (mSeq (mSetI true (mVar 13) (mVar 14) (mBin gMod (mBin (gAdd false) (mBin (gAdd false) (mBin gGet (mVar 13) (mVar 14)) (mC (.int 1))) (mBin gMod (mBin gDiv (mVar 12) (mC (.int 31))) (mC (.int 255)))) (mC (.int 256))))
 (mSeq (mIf (mAndT (mTB (mBin gGe (mVar 14) (mBin gSub (mUn gLen (mVar 13)) (mC (.int 4))))) (mTB (mBin (gEq false) (mBin gMod (mBin gDiv (mVar 12) (mC (.int 13))) (mC (.int 2))) (mC (.int 0))))) (mSeq (mSet 15 (mBin gSub (mBin gSub (mUn gLen (mVar 13)) (mC (.int 1))) (mBin gMod (mBin gSub (mUn gLen (mVar 13)) (mVar 14)) (mC (.int 4)))))
 (mSetI true (mVar 13) (mVar 15) (mBin gMod (mBin (gAdd false) (mBin (gAdd false) (mBin gGet (mVar 13) (mVar 15)) (mC (.int 1))) (mBin gMod (mBin gDiv (mVar 12) (mC (.int 37))) (mC (.int 255)))) (mC (.int 256))))) mNx)
 (mSet 13 (mBin (gAdd true) (mVar 13) (mCallP sem_write_record (lenIs 1 (maCons (mLst false (maCons (mBin gMod (mVar 12) (mC (.int 256))) (maCons (mC (.int 7)) maNil))) maNil)))))))) (mSet 13 (mLst true maNil))))
 (mSeq (mSet 6 (mBin (gAdd false) (mVar 2) (mVar 13)))
 (mSeq (mSet 16 (mCall sem_read_records (lenIs 1 (maCons (mVar 6) maNil))))
 (mSeq (mIf (mOrT (mTB (mBin (gEq true) (mVar 16) (mTup (maCons (mVar 1) (maCons (mUn gLen (mVar 2)) maNil))))) (mTB (mBin (gEq true) (mVar 6) (mBin (gAdd false) (mVar 2) (mVar 13))))) (mRet (mC (.bl false))) mNx)
 (mSeq L3_law
 (mSeq (mDrop (mM1 tokL gApp (mBin gGet (mVar 16) (mC (.int 0))) (mLst false (maCons (mC (.int 1)) maNil))))
 (mSeq (mIf (mTB (mBin (gEq true) (mCall sem_read_records (lenIs 1 (maCons (mVar 6) maNil))) (mTup (maCons (mVar 1) (maCons (mUn gLen (mVar 2)) maNil))))) (mRet (mC (.bl false))) mNx)
 (mSeq (mSet 17 (mBin gMod (mBin gDiv (mVar 12) (mC (.int 5))) (mBin (gAdd false) (mC (.int 1)) (mUn gLen (mVar 2)))))
 (mSeq (mSet 18 (mC (.int 0)))
 (mSeq L4_law
 (mRet (mBin (gEq false) (mCall sem_read_records (lenIs 1 (maCons (mSl false (mVar 2) moN (moS (mVar 17))) maNil))) (mTup (maCons (mSl false (mVar 1) moN (moS (mVar 18))) (maCons (mBin gGet (mVar 3) (mVar 18)) maNil)))))))))))))))))))))
def sem_law : Sem1 := runB 1 19 b_law
section
variable {Pr : Program} {w : World} {K : PySem.W.Frag} {mg : Str → Option Value} {base : Heap}
theorem ok__law_draw (hT : ClsT K FT) (S : Src K mg "_law_draw" s__law_draw ["script", "k"]) (z_int : mg "int" = none) (z_len : mg "len" = none) (z_min : mg "min" = none) (z_range : mg "range" = none) : Def Pr w K mg base 1 "_law_draw" ["script", "k"] sem__law_draw :=
  def_tr S sc__law_draw b__law_draw (fun fa cdv A outer s H Ex hr tk hp => by
      have nd := sc__law_draw.nd
      exact (rss_cons (rs_if (rt_not (rt_truth (rx_var 0))) (rss_one (rs_ret (rx_bin op_mod og_mod (rx_bin op_mulB og_mul (rx_var 1) rx_int) rx_int))) rss_nil)
 (rss_cons (rs_set (i := 2) nd (rx_t1 call_int1 og_int (rx_sub (Room_u1 hr) (rx_var 0) (rx_bin op_mod og_mod (rx_var 1) (rx_b1 call_len og_len (rx_var 0) z_len))) z_int))
 (rss_cons (rs_set (i := 3) nd (rx_bin op_fdivW og_div (rx_var 1) (rx_b1 call_len og_len (rx_var 0) z_len)))
 (rss_cons (rs_if (rt_cmp op_ge og_ge (rx_var 2) rx_int (nomark _)) (rss_cons (rs_for (is := [4]) hp rfl (ri_range1 (rx_b2 (call_min2 rfl) og_min2 (rx_var 3) rx_int z_min) z_range) (rg_name (i := 4) nd) (rss_one (rs_set (i := 2) nd (rx_bin op_fdivW og_div (rx_var 2) rx_int))))
 (rss_one (rs_ret (rx_bin op_mod og_mod (rx_var 2) rx_int)))) rss_nil)
 (rss_one (rs_ret (rx_bin op_mod og_mod (rx_bin op_mulB og_mul (rx_bin op_mod og_mod (rx_bin op_addA og_add (rx_bin op_addA og_add (rx_bin op_mulB og_mul (rx_var 2) rx_int) (rx_bin op_mulB og_mul (rx_var 1) rx_int)) rx_int) rx_int) rx_int) rx_int))))))))
theorem ok_checksum (hT : ClsT K FT) (S : Src K mg "checksum" s_checksum ["data"])  : Def Pr w K mg base 1 "checksum" ["data"] sem_checksum :=
  def_tr S sc_checksum b_checksum (fun fa cdv A outer s H Ex hr tk hp => by
      have nd := sc_checksum.nd
      exact (rss_cons (rs_set (i := 1) nd rx_int)
 (rss_cons (rs_for (is := [2]) hp rfl (ri_items (rx_var 0)) (rg_name (i := 2) nd) (rss_one (rs_set (i := 1) nd (rx_bin op_mod og_mod (rx_bin op_addA og_add (rx_bin op_addA og_add (rx_bin op_mulB og_mul rx_int (rx_var 1)) (rx_var 2)) rx_int) rx_int))))
 (rss_one (rs_ret (rx_var 1))))))
theorem ok_write_number (hT : ClsT K FT) (S : Src K mg "write_number" s_write_number ["number"])  : Def Pr w K mg base 1 "write_number" ["number"] sem_write_number :=
  def_tr S sc_write_number b_write_number (fun fa cdv A outer s H Ex hr tk hp => by
      have nd := sc_write_number.nd
      exact (rss_cons (rs_set (i := 1) nd (rx_lst true ra_nil))
 (rss_cons (rs_while 1000000 hp (rt_cmp op_ge og_ge (rx_var 0) rx_int (nomark _)) (rss_cons (rs_drop (rx_append (rx_var 1) (rx_bin op_addA og_add (rx_bin op_mod og_mod (rx_var 0) rx_int) rx_int)))
 (rss_one (rs_set (i := 0) nd (rx_bin op_fdivW og_div (rx_var 0) rx_int)))))
 (rss_cons (rs_drop (rx_append (rx_var 1) (rx_var 0)))
 (rss_one (rs_ret (rx_var 1)))))))
theorem ok_write_record (hT : ClsT K FT) (S : Src K mg "write_record" s_write_record ["data"]) (d_checksum : Def Pr w K mg base 1 "checksum" ["data"] sem_checksum) (d_write_number : Def Pr w K mg base 1 "write_number" ["number"] sem_write_number) (z_len : mg "len" = none) (z_list : mg "list" = none) : Def Pr w K mg base 2 "write_record" ["data"] sem_write_record :=
  def_tr S sc_write_record b_write_record (fun fa cdv A outer s H Ex hr tk hp => by
      have nd := sc_write_record.nd
      exact (rss_cons (rs_set (i := 1) nd (rx_callP tk d_checksum hr (by decide) (ra_cons (rx_var 0) ra_nil)))
 (rss_cons (rs_set (i := 2) nd (rx_lst false (ra_cons (rx_bin op_fdivW og_div (rx_var 1) rx_int) (ra_cons (rx_bin op_mod og_mod (rx_bin op_fdivW og_div (rx_var 1) rx_int) rx_int) (ra_cons (rx_bin op_mod og_mod (rx_bin op_fdivW og_div (rx_var 1) rx_int) rx_int) (ra_cons (rx_bin op_mod og_mod (rx_var 1) rx_int) ra_nil))))))
 (rss_one (rs_ret (rx_bin op_addA og_add (rx_bin op_addA og_add (rx_callP tk d_write_number hr (by decide) (ra_cons (rx_b1 call_len og_len (rx_var 0) z_len) ra_nil)) (rx_t1 call_list_of og_lstOf (rx_var 0) z_list)) (rx_var 2)))))))
theorem ok_Reader____init__ (hT : ClsT K FT) (S : SrcM K "Reader" "__init__" s_Reader____init__ ["self", "data"] "Reader.__init__") (z_list : mg "list" = none) : DefM Pr w K mg base 1 "Reader" "__init__" ["self", "data"] sem_Reader____init__ :=
  defM_tr S sc_Reader____init__ b_Reader____init__ (fun fa cdv A outer s H Ex hr tk hp => by
      have nd := sc_Reader____init__.nd
      exact (rss_cons (rs_setF hT (rx_var 0) (rx_t1 call_list_of og_lstOf (rx_var 1) z_list))
 (rss_one (rs_setF hT (rx_var 0) rx_int))))
theorem ok_Reader__read_byte (hT : ClsT K FT) (S : SrcM K "Reader" "read_byte" s_Reader__read_byte ["self"] "Reader.read_byte") (e_DamagedPacket : ExC K mg "DamagedPacket") (z_len : mg "len" = none) : DefM Pr w K mg base 1 "Reader" "read_byte" ["self"] sem_Reader__read_byte :=
  defM_tr S sc_Reader__read_byte b_Reader__read_byte (fun fa cdv A outer s H Ex hr tk hp => by
      have nd := sc_Reader__read_byte.nd
      exact (rss_cons (rs_if (rt_cmp op_ge og_ge (rx_fld hT (rx_var 0)) (rx_b1 call_len og_len (rx_fld hT (rx_var 0)) z_len) (nomark _)) (rss_one (rs_raise tk e_DamagedPacket)) rss_nil)
 (rss_cons (rs_augF hT iop_addA og_iadd (rx_var 0) rx_int)
 (rss_one (rs_ret (rx_sub (Room_u1 hr) (rx_fld hT (rx_var 0)) (rx_bin op_sub og_sub (rx_fld hT (rx_var 0)) rx_int)))))))
theorem ok_Reader__read_number (hT : ClsT K FT) (S : SrcM K "Reader" "read_number" s_Reader__read_number ["self"] "Reader.read_number") (d_Reader__read_byte : DefM Pr w K mg base 1 "Reader" "read_byte" ["self"] sem_Reader__read_byte) (e_DamagedPacket : ExC K mg "DamagedPacket") {tk_NUMBER_BYTES : Tok} (g_NUMBER_BYTES : mg "NUMBER_BYTES" = some (.int 60 tk_NUMBER_BYTES)) (z_range : mg "range" = none) : DefM Pr w K mg base 2 "Reader" "read_number" ["self"] sem_Reader__read_number :=
  defM_tr S sc_Reader__read_number b_Reader__read_number (fun fa cdv A outer s H Ex hr tk hp => by
      have nd := sc_Reader__read_number.nd
      exact (rss_cons (rs_set (i := 1) nd rx_int)
 (rss_cons (rs_set (i := 2) nd rx_int)
 (rss_cons (rs_for (is := [3]) hp rfl (ri_range1 (rx_glob (v := .int 60) g_NUMBER_BYTES ⟨_, rfl⟩ (fun _ => .int _)) z_range) (rg_name (i := 3) nd) (rss_cons (rs_set (i := 4) nd (rx_meth0 tk d_Reader__read_byte hr (by decide) (rx_var 0)))
 (rss_cons (rs_aug (i := 1) nd iop_addA og_iadd (rx_bin op_mulB og_mul (rx_bin op_mod og_mod (rx_var 4) rx_int) (rx_var 2)))
 (rss_cons (rs_set (i := 2) nd (rx_bin op_mulB og_mul (rx_var 2) rx_int))
 (rss_one (rs_if (rt_cmp op_lt og_lt (rx_var 4) rx_int (nomark _)) (rss_cons (rs_if (RWt.rt (rw_and (rt_cmp (op_eqD (Room_u64 hr)) og_eq (rx_var 4) rx_int (nomark _)) (rw_and1 (rt_cmp op_gt og_gt (rx_var 3) rx_int (nomark _))))) (rss_one (rs_raise tk e_DamagedPacket)) rss_nil)
 (rss_one (rs_ret (rx_var 1)))) rss_nil))))))
 (rss_one (rs_raise tk e_DamagedPacket))))))
theorem ok_record_size (hT : ClsT K FT) (S : Src K mg "record_size" s_record_size ["data", "start"]) (d_Reader____init__ : DefM Pr w K mg base 1 "Reader" "__init__" ["self", "data"] sem_Reader____init__) (d_Reader__read_number : DefM Pr w K mg base 2 "Reader" "read_number" ["self"] sem_Reader__read_number) (k_Reader : MkC K mg "Reader") (t_DamagedPacket : XTok K mg "DamagedPacket" XT_DamagedPacket) : Def Pr w K mg base 3 "record_size" ["data", "start"] sem_record_size :=
  def_tr S sc_record_size b_record_size (fun fa cdv A outer s H Ex hr tk hp => by
      have nd := sc_record_size.nd
      exact (rss_cons (rs_set (i := 2) nd (rx_make tk k_Reader d_Reader____init__ hr (by decide) (ra_cons (rx_slice false (rx_var 0) (ro_some (rx_var 1)) ro_none) ra_nil)))
 (rss_cons (rs_try tk t_DamagedPacket (fun W pn xe tk hp => (rss_one (rs_set (i := 3) nd (rx_meth0 tk d_Reader__read_number hr (by decide) (rx_var 2))))) (fun _ _ => (rss_one (rs_ret rx_non))))
 (rss_one (rs_ret (rx_tup (ra_cons (rx_fld hT (rx_var 2)) (ra_cons (rx_var 3) ra_nil))))))))
theorem ok_read_records (hT : ClsT K FT) (S : Src K mg "read_records" s_read_records ["data"]) (d_record_size : Def Pr w K mg base 3 "record_size" ["data", "start"] sem_record_size) (d_write_record : Def Pr w K mg base 2 "write_record" ["data"] sem_write_record) (z_len : mg "len" = none) : Def Pr w K mg base 4 "read_records" ["data"] sem_read_records :=
  def_tr S sc_read_records b_read_records (fun fa cdv A outer s H Ex hr tk hp => by
      have nd := sc_read_records.nd
      exact (rss_cons (rs_set (i := 1) nd (rx_lst true ra_nil))
 (rss_cons (rs_set (i := 2) nd rx_int)
 (rss_cons (rs_while 1000000 hp (rt_cmp op_lt og_lt (rx_var 2) (rx_b1 call_len og_len (rx_var 0) z_len) (nomark _)) (rss_cons (rs_set (i := 3) nd (rx_callP tk d_record_size hr (by decide) (ra_cons (rx_var 0) (ra_cons (rx_var 2) ra_nil))))
 (rss_cons (rs_if (rt_cmp op_isA og_is (rx_var 3) rx_non (nomark _)) (rss_one rs_break) rss_nil)
 (rss_cons (rs_set (i := 4) nd (rx_bin op_addA og_add (rx_var 2) (rx_sub (Room_u1 hr) (rx_var 3) rx_int)))
 (rss_cons (rs_set (i := 5) nd (rx_bin op_addA og_add (rx_var 4) (rx_sub (Room_u1 hr) (rx_var 3) rx_int)))
 (rss_cons (rs_if (RWt.rt (rw_or (rt_cmp op_gt og_gt (rx_bin op_addA og_add (rx_var 5) rx_int) (rx_b1 call_len og_len (rx_var 0) z_len) (nomark _)) (rw_or1 (rt_cmp (op_neD (Room_u64 hr)) og_ne (rx_callP tk d_write_record hr (by decide) (ra_cons (rx_slice false (rx_var 0) (ro_some (rx_var 4)) (ro_some (rx_var 5))) ra_nil)) (rx_slice false (rx_var 0) (ro_some (rx_var 2)) (ro_some (rx_bin op_addA og_add (rx_var 5) rx_int))) (nomark _))))) (rss_one rs_break) rss_nil)
 (rss_cons (rs_drop (rx_append (rx_var 1) (rx_slice true (rx_var 0) (ro_some (rx_var 4)) (ro_some (rx_var 5)))))
 (rss_one (rs_set (i := 2) nd (rx_bin op_addA og_add (rx_var 5) rx_int))))))))))
 (rss_one (rs_ret (rx_tup (ra_cons (rx_var 1) (ra_cons (rx_var 2) ra_nil)))))))))
theorem ok__law_data (hT : ClsT K FT) (S : Src K mg "_law_data" s__law_data ["number"]) (z_range : mg "range" = none) : Def Pr w K mg base 1 "_law_data" ["number"] sem__law_data :=
  def_tr S sc__law_data b__law_data (fun fa cdv A outer s H Ex hr tk hp => by
      have nd := sc__law_data.nd
      exact (rss_cons (rs_set (i := 1) nd (rx_bin op_mod og_mod (rx_var 0) rx_int))
 (rss_cons (rs_if (rt_cmp (op_eqD (Room_u64 hr)) og_eq (rx_bin op_mod og_mod (rx_bin op_fdivW og_div (rx_var 0) rx_int) rx_int) rx_int (nomark _)) (rss_one (rs_set (i := 1) nd (rx_bin op_addA og_add rx_int (rx_bin op_mod og_mod (rx_var 0) rx_int)))) rss_nil)
 (rss_cons (rs_if (rt_cmp (op_eqD (Room_u64 hr)) og_eq (rx_bin op_mod og_mod (rx_bin op_fdivW og_div (rx_var 0) rx_int) rx_int) rx_int (nomark _)) (rss_one (rs_set (i := 1) nd (rx_bin op_addA og_add rx_int (rx_bin op_mod og_mod (rx_var 0) rx_int)))) rss_nil)
 (rss_cons (rs_if (rt_cmp (op_eqD (Room_u64 hr)) og_eq (rx_bin op_mod og_mod (rx_bin op_fdivW og_div (rx_var 0) rx_int) rx_int) rx_int (nomark _)) (rss_one (rs_set (i := 1) nd (rx_sub (Room_u1 hr) (rx_lst false (ra_cons (rx_bin op_addA og_add rx_int (rx_bin op_mod og_mod (rx_var 0) rx_int)) (ra_cons (rx_bin op_addA og_add rx_int (rx_bin op_mod og_mod (rx_var 0) rx_int)) ra_nil))) (rx_bin op_mod og_mod (rx_bin op_fdivW og_div (rx_var 0) rx_int) rx_int)))) rss_nil)
 (rss_one (rs_ret (rx_lc false rfl nd [("k", 2)] (ri_range1 (rx_var 1) z_range) (fun _ _ _ _ _ => (rg_name (i := 2) nd)) (fun _ _ _ _ _ => rts_nil) (fun _ _ _ _ _ => (rx_bin op_mod og_mod (rx_bin op_addA og_add (rx_var 0) (rx_bin op_mulB og_mul (rx_bin op_mulB og_mul rx_int (rx_var 2)) (rx_var 2))) rx_int)) (blkOk_by (N := ["number", "size", "k"]) (sc := defScope s__law_data) (by decide +kernel))))))))))
theorem ok__law_sum (hT : ClsT K FT) (S : Src K mg "_law_sum" s__law_sum ["data"])  : Def Pr w K mg base 1 "_law_sum" ["data"] sem__law_sum :=
  def_tr S sc__law_sum b__law_sum (fun fa cdv A outer s H Ex hr tk hp => by
      have nd := sc__law_sum.nd
      exact (rss_cons (rs_set (i := 1) nd rx_int)
 (rss_cons (rs_for (is := [2]) hp rfl (ri_items (rx_var 0)) (rg_name (i := 2) nd) (rss_one (rs_set (i := 1) nd (rx_bin op_mod og_mod (rx_bin op_addA og_add (rx_bin op_addA og_add (rx_bin op_mulB og_mul rx_int (rx_var 1)) (rx_var 2)) rx_int) rx_int))))
 (rss_one (rs_ret (rx_var 1))))))
theorem ok_law {fa : Addr} {fd : FuncData} (hT : ClsT K FT) (F : Fun K "law" "law" s_law fa fd) (d__law_data : Def Pr w K mg base 1 "_law_data" ["number"] sem__law_data) (d__law_draw : Def Pr w K mg base 1 "_law_draw" ["script", "k"] sem__law_draw) (d__law_sum : Def Pr w K mg base 1 "_law_sum" ["data"] sem__law_sum) (d_checksum : Def Pr w K mg base 1 "checksum" ["data"] sem_checksum) (d_read_records : Def Pr w K mg base 4 "read_records" ["data"] sem_read_records) (d_write_record : Def Pr w K mg base 2 "write_record" ["data"] sem_write_record) (z_len : mg "len" = none) (z_list : mg "list" = none) (z_min : mg "min" = none) (z_range : mg "range" = none) : FnOk Pr w K mg base CX0 5 fa fd ["script"] (fun vs H Q _ => spQ K 1 sem_law vs H Q E0) :=
  fn_tr0 b_law F sc_law (fun _ _ _ h => h) (fun cdv A outer s H Ex hr tk hp => by
      have nd := sc_law.nd
      exact (rss_cons (rs_set (i := 1) nd (rx_lst true ra_nil))
 (rss_cons (rs_set (i := 2) nd (rx_lst false ra_nil))
 (rss_cons (rs_set (i := 3) nd (rx_lst true (ra_cons rx_int ra_nil)))
 (rss_cons (rs_for (is := [4]) hp rfl (ri_range1 (rx_b2 (call_min2 rfl) og_min2 rx_int (rx_b1 call_len og_len (rx_var 0) z_len) z_min) z_range) (rg_name (i := 4) nd) (rss_cons (rs_set (i := 5) nd (rx_callP tk d__law_data hr (by decide) (ra_cons (rx_callP tk d__law_draw hr (by decide) (ra_cons (rx_var 0) (ra_cons (rx_var 4) ra_nil))) ra_nil)))
 (rss_cons (rs_drop (rx_append (rx_var 1) (rx_var 5)))
 (rss_cons (rs_set (i := 6) nd (rx_t1 call_list_of og_lstOf (rx_var 5) z_list))
 (rss_cons (rs_if (rt_cmp (op_neD (Room_u64 hr)) og_ne (rx_callP tk d_checksum hr (by decide) (ra_cons (rx_var 6) ra_nil)) (rx_callP tk d__law_sum hr (by decide) (ra_cons (rx_var 5) ra_nil)) (nomark _)) (rss_one (rs_ret rx_bl)) rss_nil)
 (rss_cons (rs_set (i := 7) nd (rx_callP tk d_write_record hr (by decide) (ra_cons (rx_var 6) ra_nil)))
 (rss_cons (rs_if (rt_cmp (op_neD (Room_u64 hr)) og_ne (rx_var 6) (rx_var 5) (nomark _)) (rss_one (rs_ret rx_bl)) rss_nil)
 (rss_cons (rs_set (i := 8) nd (rx_callP tk d__law_sum hr (by decide) (ra_cons (rx_var 5) ra_nil)))
 (rss_cons (rs_set (i := 9) nd (rx_lst true ra_nil))
 (rss_cons (rs_set (i := 10) nd (rx_b1 call_len og_len (rx_var 5) z_len))
 (rss_cons (rs_while 1000000 hp (rt_cmp op_ge og_ge (rx_var 10) rx_int (nomark _)) (rss_cons (rs_drop (rx_append (rx_var 9) (rx_bin op_addA og_add (rx_bin op_mod og_mod (rx_var 10) rx_int) rx_int)))
 (rss_one (rs_set (i := 10) nd (rx_bin op_fdivW og_div (rx_var 10) rx_int)))))
 (rss_cons (rs_drop (rx_append (rx_var 9) (rx_var 10)))
 (rss_cons (rs_set (i := 11) nd (rx_lst false (ra_cons (rx_bin op_fdivW og_div (rx_var 8) rx_int) (ra_cons (rx_bin op_mod og_mod (rx_bin op_fdivW og_div (rx_var 8) rx_int) rx_int) (ra_cons (rx_bin op_mod og_mod (rx_bin op_fdivW og_div (rx_var 8) rx_int) rx_int) (ra_cons (rx_bin op_mod og_mod (rx_var 8) rx_int) ra_nil))))))
 (rss_cons (rs_if (rt_cmp (op_neD (Room_u64 hr)) og_ne (rx_var 7) (rx_bin op_addA og_add (rx_bin op_addA og_add (rx_var 9) (rx_var 5)) (rx_var 11)) (nomark _)) (rss_one (rs_ret rx_bl)) rss_nil)
 (rss_cons (rs_set (i := 2) nd (rx_bin op_addA og_add (rx_var 2) (rx_var 7)))
 (rss_one (rs_drop (rx_append (rx_var 3) (rx_b1 call_len og_len (rx_var 2) z_len)))))))))))))))))))
 (rss_cons (rs_set (i := 12) nd (rx_callP tk d__law_draw hr (by decide) (ra_cons (rx_var 0) (ra_cons (rx_b1 call_len og_len (rx_var 0) z_len) ra_nil))))
 (rss_cons (rs_set (i := 13) nd (rx_callO tk d_write_record hr (by decide) (ra_cons (rx_callP tk d__law_data hr (by decide) (ra_cons (rx_bin op_fdivW og_div (rx_var 12) rx_int) ra_nil)) ra_nil)))
 (rss_cons (rs_if (rt_cmp (op_eqD (Room_u64 hr)) og_eq (rx_bin op_mod og_mod (rx_var 12) rx_int) rx_int (nomark _)) (rss_one (rs_set (i := 13) nd (rx_slice true (rx_var 13) ro_none (ro_some (rx_bin op_mod og_mod (rx_bin op_fdivW og_div (rx_var 12) rx_int) (rx_b1 call_len og_len (rx_var 13) z_len)))))) (rss_one (rs_if (rt_cmp (op_eqD (Room_u64 hr)) og_eq (rx_bin op_mod og_mod (rx_var 12) rx_int) rx_int (nomark _)) (rss_cons (rs_set (i := 14) nd (rx_bin op_sub og_sub (rx_bin op_sub og_sub (rx_b1 call_len og_len (rx_var 13) z_len) rx_int) (rx_bin op_mod og_mod (rx_bin op_fdivW og_div (rx_var 12) rx_int) (rx_bin op_addA og_add rx_int (rx_b1 call_len og_len (rx_callP tk d__law_data hr (by decide) (ra_cons (rx_bin op_fdivW og_div (rx_var 12) rx_int) ra_nil)) z_len)))))
 (rss_cons (rs_setL (rx_var 13) (rx_var 14) (rx_bin op_mod og_mod (rx_bin op_addA og_add (rx_bin op_addA og_add (rx_sub (Room_u1 hr) (rx_var 13) (rx_var 14)) rx_int) (rx_bin op_mod og_mod (rx_bin op_fdivW og_div (rx_var 12) rx_int) rx_int)) rx_int))
 (rss_cons (rs_if (RWt.rt (rw_and (rt_cmp op_ge og_ge (rx_var 14) (rx_bin op_sub og_sub (rx_b1 call_len og_len (rx_var 13) z_len) rx_int) (nomark _)) (rw_and1 (rt_cmp (op_eqD (Room_u64 hr)) og_eq (rx_bin op_mod og_mod (rx_bin op_fdivW og_div (rx_var 12) rx_int) rx_int) rx_int (nomark _))))) (rss_cons (rs_set (i := 15) nd (rx_bin op_sub og_sub (rx_bin op_sub og_sub (rx_b1 call_len og_len (rx_var 13) z_len) rx_int) (rx_bin op_mod og_mod (rx_bin op_sub og_sub (rx_b1 call_len og_len (rx_var 13) z_len) (rx_var 14)) rx_int)))
 (rss_one (rs_setL (rx_var 13) (rx_var 15) (rx_bin op_mod og_mod (rx_bin op_addA og_add (rx_bin op_addA og_add (rx_sub (Room_u1 hr) (rx_var 13) (rx_var 15)) rx_int) (rx_bin op_mod og_mod (rx_bin op_fdivW og_div (rx_var 12) rx_int) rx_int)) rx_int)))) rss_nil)
 (rss_one (rs_set (i := 13) nd (rx_bin op_addA og_add (rx_var 13) (rx_callP tk d_write_record hr (by decide) (ra_cons (rx_lst false (ra_cons (rx_bin op_mod og_mod (rx_var 12) rx_int) (ra_cons rx_int ra_nil))) ra_nil)))))))) (rss_one (rs_set (i := 13) nd (rx_lst true ra_nil))))))
 (rss_cons (rs_set (i := 6) nd (rx_bin op_addA og_add (rx_var 2) (rx_var 13)))
 (rss_cons (rs_set (i := 16) nd (rx_call tk d_read_records hr (by decide) (ra_cons (rx_var 6) ra_nil)))
 (rss_cons (rs_if (RWt.rt (rw_or (rt_cmp (op_neD (Room_u64 hr)) og_ne (rx_var 16) (rx_tup (ra_cons (rx_var 1) (ra_cons (rx_b1 call_len og_len (rx_var 2) z_len) ra_nil))) (nomark _)) (rw_or1 (rt_cmp (op_neD (Room_u64 hr)) og_ne (rx_var 6) (rx_bin op_addA og_add (rx_var 2) (rx_var 13)) (nomark _))))) (rss_one (rs_ret rx_bl)) rss_nil)
 (rss_cons (rs_for (is := [5]) hp rfl (ri_items (rx_sub (Room_u1 hr) (rx_var 16) rx_int)) (rg_name (i := 5) nd) (rss_one (rs_drop (rx_append (rx_var 5) rx_int))))
 (rss_cons (rs_drop (rx_append (rx_sub (Room_u1 hr) (rx_var 16) rx_int) (rx_lst false (ra_cons rx_int ra_nil))))
 (rss_cons (rs_if (rt_cmp (op_neD (Room_u64 hr)) og_ne (rx_call tk d_read_records hr (by decide) (ra_cons (rx_var 6) ra_nil)) (rx_tup (ra_cons (rx_var 1) (ra_cons (rx_b1 call_len og_len (rx_var 2) z_len) ra_nil))) (nomark _)) (rss_one (rs_ret rx_bl)) rss_nil)
 (rss_cons (rs_set (i := 17) nd (rx_bin op_mod og_mod (rx_bin op_fdivW og_div (rx_var 12) rx_int) (rx_bin op_addA og_add rx_int (rx_b1 call_len og_len (rx_var 2) z_len))))
 (rss_cons (rs_set (i := 18) nd rx_int)
 (rss_cons (rs_while 1000000 hp (RWt.rt (rw_and (rt_cmp op_lt og_lt (rx_bin op_addA og_add (rx_var 18) rx_int) (rx_b1 call_len og_len (rx_var 3) z_len) (nomark _)) (rw_and1 (rt_cmp op_le og_le (rx_sub (Room_u1 hr) (rx_var 3) (rx_bin op_addA og_add (rx_var 18) rx_int)) (rx_var 17) (nomark _))))) (rss_one (rs_aug (i := 18) nd iop_addA og_iadd rx_int)))
 (rss_one (rs_ret (rx_cmp (op_eqD (Room_u64 hr)) og_eq (rx_call tk d_read_records hr (by decide) (ra_cons (rx_slice false (rx_var 2) ro_none (ro_some (rx_var 17))) ra_nil)) (rx_tup (ra_cons (rx_slice false (rx_var 1) ro_none (ro_some (rx_var 18))) (ra_cons (rx_sub (Room_u1 hr) (rx_var 3) (rx_var 18)) ra_nil))) (nomark _)))))))))))))))))))))
end
/-! ### all defs -/
theorem all_mk {l : PySem.W.OpenLaw} {w : World} {K : PySem.W.Frag} {h : Heap} {mg : Str → Option Value} {fa : Addr} (X : K.In h) (G : h.Ns mainGlobals mg) (hfa : mg "law" = some (.ref fa))
    {f0 f1 f2 f3 f4 f5 f6 f7 f8 f9 f10 f11 C_Reader C_DamagedPacket : Addr} {od0 an0 od1 an1 od2 an2 od3 an3 od4 an4 od5 an5 od6 an6 od7 an7 od8 an8 od9 an9 od10 an10 od11 an11 : Option Addr} {sl0 sl1 sl2 sl3 sl4 sl5 sl6 sl7 sl8 sl9 sl10 sl11 : Array (Option Value)} {oc0 kV0 dc0 pm0 cd0 ct0 oc1 kV1 dc1 pm1 cd1 ct1 oc2 kV2 dc2 pm2 cd2 ct2 oc3 kV3 dc3 pm3 cd3 ct3 oc4 kV4 dc4 pm4 cd4 ct4 oc5 kV5 dc5 pm5 cd5 ct5 oc6 kV6 dc6 pm6 cd6 ct6 oc7 kV7 dc7 pm7 cd7 ct7 oc8 kV8 dc8 pm8 cd8 ct8 oc9 kV9 dc9 pm9 cd9 ct9 oc10 kV10 dc10 pm10 cd10 ct10 oc11 kV11 dc11 pm11 cd11 ct11 : Value} {tk_NUMBER_BYTES : Tok}
    (a_Reader : PySem.W.nsIn K mainGlobals "Reader" = some (some (.ref C_Reader))) (pg_Reader : PySem.W.plainGet K C_Reader Str.empty = true) (hd_Reader : PySem.W.hasDictIn K C_Reader = true) (po_Reader : PySem.W.plainOver K C_Reader = true) (sa_Reader : PySem.W.findIn K (.ref C_Reader) "__setattr__" = some (some (.builtin "object.__setattr__")))
    (n_Reader_data : PySem.W.findIn K (.ref C_Reader) "data" = some none)
    (n_Reader_at : PySem.W.findIn K (.ref C_Reader) "at" = some none)
    (mk_Reader : PySem.W.makesIn K C_Reader = true) (kc_Reader : PySem.W.keepIn K (.ref C_Reader) = true)
    (a_DamagedPacket : PySem.W.nsIn K mainGlobals "DamagedPacket" = some (some (.ref C_DamagedPacket))) (x_DamagedPacket : PySem.W.excIn K C_DamagedPacket [.type "ValueError", .type "Exception", .type "BaseException", .type "object"] "ValueError.__new__" = true) (kc_DamagedPacket : PySem.W.keepIn K (.ref C_DamagedPacket) = true) (b_DamagedPacket : PySem.W.subIn K (.ref C_DamagedPacket) (.type "BaseException") = some true) (t_DamagedPacket : PySem.W.typeIn K (.ref C_DamagedPacket) = some (.type "type"))
    (ic_DamagedPacket : PySem.W.isClsIn K C_DamagedPacket = true)
    (s_DamagedPacket_DamagedPacket : PySem.W.subIn K (.ref C_DamagedPacket) (.ref C_DamagedPacket) = some true)
    (a0 : PySem.W.nsIn K mainGlobals "_law_draw" = some (some (.ref f0)))
    (l0 : K.lookup f0 = some ⟨oc0, od0, .func (PySem.W.fnOf "_law_draw" "_law_draw" (defArgs s__law_draw) (defBody s__law_draw) (defScope s__law_draw) .none kV0 dc0 pm0 an0 cd0 ct0), sl0⟩) (c0 : PySem.W.codeIn K cd0 "_law_draw" = true) (k0 : PySem.W.keepIn K (.ref f0) = true)
    (a1 : PySem.W.nsIn K mainGlobals "checksum" = some (some (.ref f1)))
    (l1 : K.lookup f1 = some ⟨oc1, od1, .func (PySem.W.fnOf "checksum" "checksum" (defArgs s_checksum) (defBody s_checksum) (defScope s_checksum) .none kV1 dc1 pm1 an1 cd1 ct1), sl1⟩) (c1 : PySem.W.codeIn K cd1 "checksum" = true) (k1 : PySem.W.keepIn K (.ref f1) = true)
    (a2 : PySem.W.nsIn K mainGlobals "write_number" = some (some (.ref f2)))
    (l2 : K.lookup f2 = some ⟨oc2, od2, .func (PySem.W.fnOf "write_number" "write_number" (defArgs s_write_number) (defBody s_write_number) (defScope s_write_number) .none kV2 dc2 pm2 an2 cd2 ct2), sl2⟩) (c2 : PySem.W.codeIn K cd2 "write_number" = true) (k2 : PySem.W.keepIn K (.ref f2) = true)
    (a3 : PySem.W.nsIn K mainGlobals "write_record" = some (some (.ref f3)))
    (l3 : K.lookup f3 = some ⟨oc3, od3, .func (PySem.W.fnOf "write_record" "write_record" (defArgs s_write_record) (defBody s_write_record) (defScope s_write_record) .none kV3 dc3 pm3 an3 cd3 ct3), sl3⟩) (c3 : PySem.W.codeIn K cd3 "write_record" = true) (k3 : PySem.W.keepIn K (.ref f3) = true)
    (a4 : PySem.W.findIn K (.ref C_Reader) "__init__" = some (some (.ref f4))) (i4 : PySem.W.isFn K (.ref f4) = true)
    (l4 : K.lookup f4 = some ⟨oc4, od4, .func (PySem.W.fnOf "__init__" "Reader.__init__" (defArgs s_Reader____init__) (defBody s_Reader____init__) (defScope s_Reader____init__) .none kV4 dc4 pm4 an4 cd4 ct4), sl4⟩) (c4 : PySem.W.codeIn K cd4 "Reader.__init__" = true) (k4 : PySem.W.keepIn K (.ref f4) = true)
    (a5 : PySem.W.findIn K (.ref C_Reader) "read_byte" = some (some (.ref f5))) (i5 : PySem.W.isFn K (.ref f5) = true)
    (l5 : K.lookup f5 = some ⟨oc5, od5, .func (PySem.W.fnOf "read_byte" "Reader.read_byte" (defArgs s_Reader__read_byte) (defBody s_Reader__read_byte) (defScope s_Reader__read_byte) .none kV5 dc5 pm5 an5 cd5 ct5), sl5⟩) (c5 : PySem.W.codeIn K cd5 "Reader.read_byte" = true) (k5 : PySem.W.keepIn K (.ref f5) = true)
    (a6 : PySem.W.findIn K (.ref C_Reader) "read_number" = some (some (.ref f6))) (i6 : PySem.W.isFn K (.ref f6) = true)
    (l6 : K.lookup f6 = some ⟨oc6, od6, .func (PySem.W.fnOf "read_number" "Reader.read_number" (defArgs s_Reader__read_number) (defBody s_Reader__read_number) (defScope s_Reader__read_number) .none kV6 dc6 pm6 an6 cd6 ct6), sl6⟩) (c6 : PySem.W.codeIn K cd6 "Reader.read_number" = true) (k6 : PySem.W.keepIn K (.ref f6) = true)
    (a7 : PySem.W.nsIn K mainGlobals "record_size" = some (some (.ref f7)))
    (l7 : K.lookup f7 = some ⟨oc7, od7, .func (PySem.W.fnOf "record_size" "record_size" (defArgs s_record_size) (defBody s_record_size) (defScope s_record_size) .none kV7 dc7 pm7 an7 cd7 ct7), sl7⟩) (c7 : PySem.W.codeIn K cd7 "record_size" = true) (k7 : PySem.W.keepIn K (.ref f7) = true)
    (a8 : PySem.W.nsIn K mainGlobals "read_records" = some (some (.ref f8)))
    (l8 : K.lookup f8 = some ⟨oc8, od8, .func (PySem.W.fnOf "read_records" "read_records" (defArgs s_read_records) (defBody s_read_records) (defScope s_read_records) .none kV8 dc8 pm8 an8 cd8 ct8), sl8⟩) (c8 : PySem.W.codeIn K cd8 "read_records" = true) (k8 : PySem.W.keepIn K (.ref f8) = true)
    (a9 : PySem.W.nsIn K mainGlobals "_law_data" = some (some (.ref f9)))
    (l9 : K.lookup f9 = some ⟨oc9, od9, .func (PySem.W.fnOf "_law_data" "_law_data" (defArgs s__law_data) (defBody s__law_data) (defScope s__law_data) .none kV9 dc9 pm9 an9 cd9 ct9), sl9⟩) (c9 : PySem.W.codeIn K cd9 "_law_data" = true) (k9 : PySem.W.keepIn K (.ref f9) = true)
    (a10 : PySem.W.nsIn K mainGlobals "_law_sum" = some (some (.ref f10)))
    (l10 : K.lookup f10 = some ⟨oc10, od10, .func (PySem.W.fnOf "_law_sum" "_law_sum" (defArgs s__law_sum) (defBody s__law_sum) (defScope s__law_sum) .none kV10 dc10 pm10 an10 cd10 ct10), sl10⟩) (c10 : PySem.W.codeIn K cd10 "_law_sum" = true) (k10 : PySem.W.keepIn K (.ref f10) = true)
    (a11 : PySem.W.nsIn K mainGlobals "law" = some (some (.ref f11)))
    (l11 : K.lookup f11 = some ⟨oc11, od11, .func (PySem.W.fnOf "law" "law" (defArgs s_law) (defBody s_law) (defScope s_law) .none kV11 dc11 pm11 an11 cd11 ct11), sl11⟩) (c11 : PySem.W.codeIn K cd11 "law" = true) (k11 : PySem.W.keepIn K (.ref f11) = true)
    (y_NUMBER_BYTES : PySem.W.nsIn K mainGlobals "NUMBER_BYTES" = some (some (.int 60 tk_NUMBER_BYTES)))
    (y_int : PySem.W.nsIn K mainGlobals "int" = some none)
    (y_len : PySem.W.nsIn K mainGlobals "len" = some none)
    (y_list : PySem.W.nsIn K mainGlobals "list" = some none)
    (y_min : PySem.W.nsIn K mainGlobals "min" = some none)
    (y_range : PySem.W.nsIn K mainGlobals "range" = some none)
    : ∃ fd : FuncData, (∀ (s : Shared) (v : Value), BindsTo s fd ⟨[v], []⟩ [("script", v)]) ∧ ∀ base : Heap, K.In base → base.Ns mainGlobals mg → FnOk l.prog w K mg base CX0 5 fa fd ["script"] (fun vs H Q _ => spQ K 1 sem_law vs H Q E0) := by
  have e := hfa.symm.trans (PySem.W.mg_of X G a11)
  cases e
  have gl_Reader : glAt K "Reader" = some C_Reader := by unfold glAt; rw [a_Reader]
  have cl_Reader : Cls K C_Reader := ⟨pg_Reader, hd_Reader, po_Reader, sa_Reader⟩
  have hT : ClsT K FT := (clsT_cons gl_Reader cl_Reader (fun f hf => by
    simp only [List.mem_cons, List.not_mem_nil, or_false] at hf
    rcases hf with rfl | rfl
    · exact n_Reader_data
    · exact n_Reader_at) clsT_nil)
  have F0 := fun_mk (st := s__law_draw) l0 c0 k0
  have S0 : Src K mg "_law_draw" s__law_draw ["script", "k"] := ⟨_, _, F0, PySem.W.mg_of X G a0, F0.binds fun _ _ _ _ _ _ us hl => match us, hl with | [_, _], _ => rfl⟩
  have F1 := fun_mk (st := s_checksum) l1 c1 k1
  have S1 : Src K mg "checksum" s_checksum ["data"] := ⟨_, _, F1, PySem.W.mg_of X G a1, F1.binds fun _ _ _ _ _ _ us hl => match us, hl with | [_], _ => rfl⟩
  have F2 := fun_mk (st := s_write_number) l2 c2 k2
  have S2 : Src K mg "write_number" s_write_number ["number"] := ⟨_, _, F2, PySem.W.mg_of X G a2, F2.binds fun _ _ _ _ _ _ us hl => match us, hl with | [_], _ => rfl⟩
  have F3 := fun_mk (st := s_write_record) l3 c3 k3
  have S3 : Src K mg "write_record" s_write_record ["data"] := ⟨_, _, F3, PySem.W.mg_of X G a3, F3.binds fun _ _ _ _ _ _ us hl => match us, hl with | [_], _ => rfl⟩
  have F4 := fun_mk (st := s_Reader____init__) l4 c4 k4
  have S4 : SrcM K "Reader" "__init__" s_Reader____init__ ["self", "data"] "Reader.__init__" := ⟨_, _, _, gl_Reader, cl_Reader, ⟨a4, i4, k4⟩, F4, F4.binds fun _ _ _ _ _ _ us hl => match us, hl with | [_, _], _ => rfl⟩
  have F5 := fun_mk (st := s_Reader__read_byte) l5 c5 k5
  have S5 : SrcM K "Reader" "read_byte" s_Reader__read_byte ["self"] "Reader.read_byte" := ⟨_, _, _, gl_Reader, cl_Reader, ⟨a5, i5, k5⟩, F5, F5.binds fun _ _ _ _ _ _ us hl => match us, hl with | [_], _ => rfl⟩
  have F6 := fun_mk (st := s_Reader__read_number) l6 c6 k6
  have S6 : SrcM K "Reader" "read_number" s_Reader__read_number ["self"] "Reader.read_number" := ⟨_, _, _, gl_Reader, cl_Reader, ⟨a6, i6, k6⟩, F6, F6.binds fun _ _ _ _ _ _ us hl => match us, hl with | [_], _ => rfl⟩
  have F7 := fun_mk (st := s_record_size) l7 c7 k7
  have S7 : Src K mg "record_size" s_record_size ["data", "start"] := ⟨_, _, F7, PySem.W.mg_of X G a7, F7.binds fun _ _ _ _ _ _ us hl => match us, hl with | [_, _], _ => rfl⟩
  have F8 := fun_mk (st := s_read_records) l8 c8 k8
  have S8 : Src K mg "read_records" s_read_records ["data"] := ⟨_, _, F8, PySem.W.mg_of X G a8, F8.binds fun _ _ _ _ _ _ us hl => match us, hl with | [_], _ => rfl⟩
  have F9 := fun_mk (st := s__law_data) l9 c9 k9
  have S9 : Src K mg "_law_data" s__law_data ["number"] := ⟨_, _, F9, PySem.W.mg_of X G a9, F9.binds fun _ _ _ _ _ _ us hl => match us, hl with | [_], _ => rfl⟩
  have F10 := fun_mk (st := s__law_sum) l10 c10 k10
  have S10 : Src K mg "_law_sum" s__law_sum ["data"] := ⟨_, _, F10, PySem.W.mg_of X G a10, F10.binds fun _ _ _ _ _ _ us hl => match us, hl with | [_], _ => rfl⟩
  have F11 := fun_mk (st := s_law) l11 c11 k11
  have S11 : Src K mg "law" s_law ["script"] := ⟨_, _, F11, PySem.W.mg_of X G a11, F11.binds fun _ _ _ _ _ _ us hl => match us, hl with | [_], _ => rfl⟩
  have k_Reader : MkC K mg "Reader" := ⟨_, _, gl_Reader, PySem.W.mg_of X G a_Reader, ⟨mk_Reader, a4, i4, kc_Reader⟩, a4⟩
  have gl_DamagedPacket : glAt K "DamagedPacket" = some C_DamagedPacket := by unfold glAt; rw [a_DamagedPacket]
  have e_DamagedPacket : ExC K mg "DamagedPacket" := ⟨_, _, _, _, _, PySem.F.excBase_ValueError, x_DamagedPacket, PySem.W.mg_of X G a_DamagedPacket, gl_DamagedPacket, kc_DamagedPacket, b_DamagedPacket, t_DamagedPacket⟩
  have tt_DamagedPacket : XTok K mg "DamagedPacket" XT_DamagedPacket := ⟨_, .inl (PySem.W.mg_of X G a_DamagedPacket), (xall_own gl_DamagedPacket (exm_own b_DamagedPacket ic_DamagedPacket t_DamagedPacket s_DamagedPacket_DamagedPacket) xall_nil)⟩
  have g_NUMBER_BYTES := PySem.W.mg_of X G y_NUMBER_BYTES
  have z_int := PySem.W.mg_none_of X G y_int
  have z_len := PySem.W.mg_none_of X G y_len
  have z_list := PySem.W.mg_none_of X G y_list
  have z_min := PySem.W.mg_none_of X G y_min
  have z_range := PySem.W.mg_none_of X G y_range
  refine ⟨PySem.W.fnOf "law" "law" (defArgs s_law) (defBody s_law) (defScope s_law) .none kV11 dc11 pm11 an11 cd11 ct11, fun s v => .of_eq rfl, fun base _ _ => ?_⟩
  have d__law_draw := ok__law_draw (Pr := l.prog) (w := w) (mg := mg) (base := base) hT S0 z_int z_len z_min z_range
  have d_checksum := ok_checksum (Pr := l.prog) (w := w) (mg := mg) (base := base) hT S1 
  have d_write_number := ok_write_number (Pr := l.prog) (w := w) (mg := mg) (base := base) hT S2 
  have d_write_record := ok_write_record (Pr := l.prog) (w := w) (mg := mg) (base := base) hT S3 d_checksum d_write_number z_len z_list
  have d_Reader____init__ := ok_Reader____init__ (Pr := l.prog) (w := w) (mg := mg) (base := base) hT S4 z_list
  have d_Reader__read_byte := ok_Reader__read_byte (Pr := l.prog) (w := w) (mg := mg) (base := base) hT S5 e_DamagedPacket z_len
  have d_Reader__read_number := ok_Reader__read_number (Pr := l.prog) (w := w) (mg := mg) (base := base) hT S6 d_Reader__read_byte e_DamagedPacket g_NUMBER_BYTES z_range
  have d_record_size := ok_record_size (Pr := l.prog) (w := w) (mg := mg) (base := base) hT S7 d_Reader____init__ d_Reader__read_number k_Reader tt_DamagedPacket
  have d_read_records := ok_read_records (Pr := l.prog) (w := w) (mg := mg) (base := base) hT S8 d_record_size d_write_record z_len
  have d__law_data := ok__law_data (Pr := l.prog) (w := w) (mg := mg) (base := base) hT S9 z_range
  have d__law_sum := ok__law_sum (Pr := l.prog) (w := w) (mg := mg) (base := base) hT S10 
  exact ok_law (Pr := l.prog) (w := w) (mg := mg) (base := base) hT F11 d__law_data d__law_draw d__law_sum d_checksum d_read_records d_write_record z_len z_list z_min z_range
end K52

set_option maxHeartbeats 1000000
namespace K52
open PySem PySem.Spec PyProof.Rows L2 Tq
/-! ### sums -/
def step7 (t b : Int) : Int := (31 * t + b + 1) % 4294967296
def sum7 (xs : List Int) : Int := xs.foldl step7 7
theorem sum7_snoc (xs : List Int) (b : Int) : sum7 (xs ++ [b]) = step7 (sum7 xs) b := by unfold sum7; rw [List.foldl_append]; rfl
theorem step7_rng (t b : Int) : 0 ≤ step7 t b ∧ step7 t b < 4294967296 := by unfold step7; omega
theorem fold7_rng : ∀ (xs : List Int) (t : Int), 0 ≤ t ∧ t < 4294967296 → 0 ≤ xs.foldl step7 t ∧ xs.foldl step7 t < 4294967296
  | [], t, h => h
  | b :: r, t, h => fold7_rng r _ (step7_rng t b)
theorem sum7_rng (xs : List Int) : 0 ≤ sum7 xs ∧ sum7 xs < 4294967296 := fold7_rng xs 7 (by decide)
theorem take_succ {α : Type} {xs : List α} {n : Nat} {x : α} (h : xs[n]? = some x) : xs.take (n + 1) = xs.take n ++ [x] := by
  rw [List.take_add_one, h]
  rfl
theorem sum_loop {mb : MS} (hmb : mb = mSet 1 (mBin gMod (mBin (gAdd false) (mBin (gAdd false) (mBin gMul (mC (.int 31)) (mVar 1)) (mVar 2)) (mC (.int 1))) (mC (.int 4294967296)))) {xs : List Int} (hl : xs.length ≤ LIM) :
    ∃ v2, mFor (mItems (mVar 0)) (mgName 2) mb [some (.d (LD xs)), some (.d (.int 7)), none] [] = some (.nx [some (.d (LD xs)), some (.d (.int (sum7 xs))), v2] []) := by
  obtain ⟨τ', h', e, ⟨v2, rfl⟩, rfl⟩ := forL_inv (g := mgName 2) (mb := mb) (ws := LI xs)
    (fun n τ h => (∃ v2, τ = [some (.d (LD xs)), some (.d (.int (sum7 (xs.take n)))), v2]) ∧ h = [])
    (τ := [some (.d (LD xs)), some (.d (.int 7)), none]) (h := []) ⟨⟨none, rfl⟩, rfl⟩
    (fun n w τ h hw hi => by
      obtain ⟨⟨v2, rfl⟩, rfl⟩ := hi
      rw [LI_get] at hw
      cases e : xs[n]? with
      | none => rw [e] at hw; cases hw
      | some b =>
        rw [e] at hw
        cases hw
        refine ⟨_, [some (.d (LD xs)), some (.d (.int (sum7 (xs.take (n + 1))))), some (.d (.int b))], [], rfl, .inl ?_, ⟨_, rfl⟩, rfl⟩
        show mb [some (.d (LD xs)), some (.d (.int (sum7 (xs.take n)))), some (.d (.int b))] [] = _
        rw [hmb, take_succ e, sum7_snoc]
        have hr := sum7_rng (xs.take n)
        generalize sum7 (xs.take n) = t at hr
        exact set_of (mod_of (add_of (add_of (mul_of rfl (var_of rfl) (mul_small (by decide) (by omega))) (var_of rfl)) rfl) rfl (by decide))) (by rw [LI_len]; exact hl)
  rw [LI_len, List.take_length] at e
  refine ⟨v2, ?_⟩
  rw [mFor_of (nx := nxL (LI xs)) (h1 := []) rfl]
  exact e
theorem checksum_ok {xs : List Int} (hl : xs.length ≤ LIM) : sem_checksum [.d (LD xs)] [] = some (.ok (.d (.int (sum7 xs))) []) := by
  obtain ⟨v2, e⟩ := sum_loop (mb := B1_checksum) rfl hl
  refine runB_rt rfl ?_
  show b_checksum [some (.d (LD xs)), none, none] [] = _
  unfold b_checksum L1_checksum
  rw [seq_nx (τ1 := [some (.d (LD xs)), some (.d (.int 7)), none]) (h1 := []) rfl, seq_nx e]
  rfl
theorem lsum_ok {xs : List Int} (hl : xs.length ≤ LIM) : sem__law_sum [.d (LD xs)] [] = some (.ok (.d (.int (sum7 xs))) []) := by
  obtain ⟨v2, e⟩ := sum_loop (mb := B1__law_sum) rfl hl
  refine runB_rt rfl ?_
  show b__law_sum [some (.d (LD xs)), none, none] [] = _
  unfold b__law_sum L1__law_sum
  rw [seq_nx (τ1 := [some (.d (LD xs)), some (.d (.int 7)), none]) (h1 := []) rfl, seq_nx e]
  rfl
/-! ### numbers written -/
def leb (n : Nat) : List Int := if n < 128 then [(n : Int)] else if n < 16384 then [(n : Int) % 128 + 128, (n : Int) / 128] else [(n : Int) % 128 + 128, (n : Int) / 128 % 128 + 128, (n : Int) / 128 / 128]
/-- the loop, with the number in slot i and the list (cell k) in slot j -/
theorem leb_turn {i j k : Nat} {n : Int} {xs : List Int} {τ : Sl} {h : Hq} (ei : τ[i]? = some (some (.d (.int n)))) (ej : τ[j]? = some (some (.r k))) (e : h[k]? = some (.lst (LI xs))) (hl : xs.length < LIM) :
    mSeq (mDrop (mM1 tokL gApp (mVar j) (mBin (gAdd false) (mBin gMod (mVar i) (mC (.int 128))) (mC (.int 128))))) (mSet i (mBin gDiv (mVar i) (mC (.int 128)))) τ h = some (.nx (τ.set i (some (.d (.int (n / 128))))) (h.set k (.lst (LI (xs ++ [n % 128 + 128]))))) := by
  rw [seq_nx (append_of (k := k) (ws := LI xs) (w := .d (.int (n % 128 + 128))) (var_of ej) e (add_of (mod_of (var_of ei) rfl (by decide)) rfl) (by rw [LI_len]; exact hl))]
  rw [LI_app]
  exact set_of (div_of (var_of ei) rfl rfl)
theorem leb_loop {i j k : Nat} {t : E Bool} {mb : MS} (ht : t = mTB (mBin gGe (mVar i) (mC (.int 128)))) (hmb : mb = mSeq (mDrop (mM1 tokL gApp (mVar j) (mBin (gAdd false) (mBin gMod (mVar i) (mC (.int 128))) (mC (.int 128))))) (mSet i (mBin gDiv (mVar i) (mC (.int 128)))))
    {n : Nat} {τ : Sl} {h : Hq} (hn : n < 2097152) (hij : i ≠ j) (ei : τ[i]? = some (some (.d (.int (n : Nat))))) (ej : τ[j]? = some (some (.r k))) (e : h[k]? = some (.lst [])) :
    ∃ h1 m, mWhile t mb 1000000 τ h = some (.nx (τ.set i (some (.d (.int m)))) h1) ∧ h1 = h.set k (.lst (LI ((leb n).dropLast))) ∧ (leb n).dropLast ++ [m] = leb n := by
  have hi : i < τ.length := (List.getElem?_eq_some_iff.mp ei).1
  have hk : k < h.length := lt_of_get e
  have tt : ∀ (τ : Sl) (h : Hq) (m : Int), τ[i]? = some (some (.d (.int m))) → t τ h = some (.ok (decide (128 ≤ m)) h) := fun τ h m e => by
    rw [ht]
    exact ge_of (var_of e) rfl
  have e0 : h[k]? = some (.lst (LI [])) := e
  have bb : ∀ (τ : Sl) (h : Hq) (m : Int) (xs : List Int), τ[i]? = some (some (.d (.int m))) → τ[j]? = some (some (.r k)) → h[k]? = some (.lst (LI xs)) → xs.length < 4 → mb τ h = some (.nx (τ.set i (some (.d (.int (m / 128))))) (h.set k (.lst (LI (xs ++ [m % 128 + 128]))))) := fun τ h m xs a b c d => by
    rw [hmb]
    exact leb_turn a b c (by show _ < 16777216; omega)
  have self : ∀ {o : O} (e : h[k]? = some o), h = h.set k o := fun e => (set_same e).symm
  unfold leb
  by_cases h1 : n < 128
  · rw [if_pos h1]
    refine ⟨h, (n : Int), ?_, self e, rfl⟩
    have : τ.set i (some (.d (.int (n : Nat)))) = τ := by
      obtain ⟨_, hh⟩ := List.getElem?_eq_some_iff.mp ei
      rw [← hh]
      exact List.set_getElem_self hi
    rw [this]
    exact while_ff (n := 999999) (by rw [tt τ h _ ei, decide_eq_false (by omega)])
  · rw [if_neg h1]
    have s1 := bb τ h n [] ei ej e0 (by decide)
    have w1 : mWhile t mb 1000000 τ h = _ := while_tt (n := 999999) (by rw [tt τ h _ ei, decide_eq_true (by omega)]) s1
    have ei1 : (τ.set i (some (.d (.int ((n : Int) / 128)))))[i]? = some (some (.d (.int ((n : Int) / 128)))) := List.getElem?_set_self hi
    have ej1 : (τ.set i (some (.d (.int ((n : Int) / 128)))))[j]? = some (some (.r k)) := by rw [List.getElem?_set_ne hij]; exact ej
    have ek1 : (h.set k (.lst (LI ([] ++ [(n : Int) % 128 + 128]))))[k]? = some (.lst (LI ([] ++ [(n : Int) % 128 + 128]))) := List.getElem?_set_self hk
    by_cases h2 : n < 16384
    · rw [if_pos h2]
      refine ⟨_, (n : Int) / 128, ?_, rfl, rfl⟩
      rw [w1]
      exact while_ff (n := 999998) (by rw [tt _ _ _ ei1, decide_eq_false (by omega)]; rfl)
    · rw [if_neg h2]
      have s2 := bb _ _ _ _ ei1 ej1 ek1 (by simp)
      have w2 : mWhile t mb 999999 (τ.set i (some (.d (.int ((n : Int) / 128))))) (h.set k (.lst (LI ([] ++ [(n : Int) % 128 + 128])))) = _ := while_tt (n := 999998) (by rw [tt _ _ _ ei1, decide_eq_true (by omega)]) s2
      have ei2 : ((τ.set i (some (.d (.int ((n : Int) / 128))))).set i (some (.d (.int ((n : Int) / 128 / 128)))))[i]? = some (some (.d (.int ((n : Int) / 128 / 128)))) := List.getElem?_set_self (by rw [List.length_set]; exact hi)
      refine ⟨_, (n : Int) / 128 / 128, ?_, rfl, rfl⟩
      rw [w1, w2, while_ff (n := 999997) (by rw [tt _ _ _ ei2, decide_eq_false (by omega)]), List.set_set, List.set_set]
      rfl
theorem leb_len (n : Nat) : 1 ≤ (leb n).length ∧ (leb n).length ≤ 3 := by
  unfold leb
  split
  · show 1 ≤ 1 ∧ 1 ≤ 3
    decide
  · split
    · show 1 ≤ 2 ∧ 2 ≤ 3
      decide
    · show 1 ≤ 3 ∧ 3 ≤ 3
      decide
theorem write_number_ok {n : Nat} (hn : n < 2097152) : ∃ k h, sem_write_number [.d (.int (n : Nat))] [] = some (.ok (.r k) h) ∧ h[k]? = some (.lst (LI (leb n))) := by
  obtain ⟨h1, m, e1, rfl, e3⟩ := leb_loop (i := 0) (j := 1) (k := 0) (t := W1_write_number) (mb := B1_write_number) rfl rfl (τ := [some (.d (.int (n : Nat))), some (.r 0)]) (h := [.lst []]) hn (by decide) rfl rfl rfl
  refine ⟨0, [.lst (LI (leb n))], runB_rt rfl ?_, rfl⟩
  show b_write_number [some (.d (.int (n : Nat))), none] [] = _
  unfold b_write_number L1_write_number
  rw [seq_nx (τ1 := [some (.d (.int (n : Nat))), some (.r 0)]) (h1 := [.lst []]) rfl, seq_nx e1]
  have hl := leb_len n
  rw [seq_nx (append_of (k := 0) (ws := LI (leb n).dropLast) (w := .d (.int m)) (var_of rfl) rfl (var_of rfl) (by rw [LI_len, List.length_dropLast]; show _ < 16777216; omega))]
  show some (So.rt (A.r 0) [O.lst (LI (leb n).dropLast ++ LI [m])]) = _
  rw [← LI_app, e3]
def tail4 (t : Int) : List Int := [t / 16777216, t / 65536 % 256, t / 256 % 256, t % 256]
def rec4 (xs : List Int) : List Int := leb xs.length ++ xs ++ tail4 (sum7 xs)
theorem tail_ok {τ : Sl} {h : Hq} {i : Nat} {t : Int} (e : τ[i]? = some (some (.d (.int t)))) : mLst false (maCons (mBin gDiv (mVar i) (mC (.int 16777216))) (maCons (mBin gMod (mBin gDiv (mVar i) (mC (.int 65536))) (mC (.int 256))) (maCons (mBin gMod (mBin gDiv (mVar i) (mC (.int 256))) (mC (.int 256))) (maCons (mBin gMod (mVar i) (mC (.int 256))) maNil)))) τ h = some (.ok (.d (LD (tail4 t))) h) := by
  unfold mLst
  rw [cons_of (div_of (var_of e) rfl rfl) (cons_of (dm_of e rfl (by decide)) (cons_of (dm_of e rfl (by decide)) (cons_of (r := []) (mod_of (var_of e) rfl (by decide)) rfl))), bd_ok]
  rfl
theorem rec4_len (xs : List Int) : xs.length + 5 ≤ (rec4 xs).length ∧ (rec4 xs).length ≤ xs.length + 7 := by
  have := leb_len xs.length
  unfold rec4
  rw [List.length_append, List.length_append]
  show _ ≤ _ + 4 ∧ _ + 4 ≤ _
  omega
theorem write_record_ok {xs : List Int} (hl : xs.length ≤ 20000) : ∃ k h, sem_write_record [.d (LD xs)] [] = some (.ok (.r k) h) ∧ h[k]? = some (.lst (LI (rec4 xs))) := by
  have hL : LIM = 16777216 := rfl
  obtain ⟨k, h', w1, w2⟩ := write_number_ok (n := xs.length) (by omega)
  have hr := rec4_len xs
  refine ⟨0, [.lst (LI (rec4 xs))], runB_rt rfl ?_, rfl⟩
  show b_write_record [some (.d (LD xs)), none, none] [] = _
  unfold b_write_record
  have e1 : mCallP sem_checksum (lenIs 1 (maCons (mVar 0) maNil)) [some (.d (LD xs)), none, none] [] = some (.ok (.d (.int (sum7 xs))) []) := callP_of (ds := [LD xs]) (len_of (n := 1) (cons_of (r := []) (var_of rfl) rfl) rfl) (checksum_ok (by omega)) (vw_d _ _ _)
  rw [seq_nx (τ1 := [some (.d (LD xs)), some (.d (.int (sum7 xs))), none]) (h1 := []) (set_of e1)]
  rw [seq_nx (τ1 := [some (.d (LD xs)), some (.d (.int (sum7 xs))), some (.d (LD (tail4 (sum7 xs))))]) (h1 := []) (set_of (tail_ok (t := sum7 xs) rfl))]
  have e2 : mCallP sem_write_number (lenIs 1 (maCons (mUn gLen (mVar 0)) maNil)) [some (.d (LD xs)), some (.d (.int (sum7 xs))), some (.d (LD (tail4 (sum7 xs))))] [] = some (.ok (.d (LD (leb xs.length))) []) := callP_of (ds := [.int (xs.length : Nat)]) (len_of (n := 1) (cons_of (r := []) (by rw [un_of (var_of rfl)]; exact gLen_d xs []) rfl) rfl) w1 (view_LI w2)
  have e3 : mUn (gLstOf false) (mVar 0) [some (.d (LD xs)), some (.d (.int (sum7 xs))), some (.d (LD (tail4 (sum7 xs))))] [] = some (.ok (.d (LD xs)) []) := by
    rw [un_of (var_of rfl)]
    exact mkL_i (by omega)
  refine ret_of ?_
  rw [bin_of (a := .d (LD (leb xs.length ++ xs))) (h1 := []) (by
    rw [bin_of e2 e3, gAdd_ll]
    have := leb_len xs.length
    exact mkL_i (by rw [List.length_append]; omega)) (var_of rfl), gAdd_ll]
  exact mkL_c (by rw [LI_len]; have := hr.2; unfold rec4 at this; omega)
end K52

set_option maxHeartbeats 1000000
namespace K52
open PySem PySem.Spec PyProof.Rows L2 Tq
def RD (xs : List Int) (n : Nat) : O := .nd (.ins "Reader" ["data", "at"]) [.d (LD xs), .d (.int (n : Nat))]
theorem fok_d : fOk FT "Reader" "data" = true := by decide +kernel
theorem fok_a : fOk FT "Reader" "at" = true := by decide +kernel
theorem fg_d (x y : A) : fGet "data" ["data", "at"] [x, y] = some x := by with_unfolding_all rfl
theorem fg_a (x y : A) : fGet "at" ["data", "at"] [x, y] = some y := by with_unfolding_all rfl
theorem fp_a (w x y : A) : fPut "at" w ["data", "at"] [x, y] = (([("data" : Str), "at"] : List Str), [x, w]) := by with_unfolding_all rfl
theorem fp_a1 (w x : A) : fPut "at" w ["data"] [x] = (([("data" : Str), "at"] : List Str), [x, w]) := by with_unfolding_all rfl
section
variable {h : Hq} {a n : Nat} {xs : List Int} {τ : Sl} {i : Nat}
theorem rd_d (e : h[a]? = some (RD xs n)) (ei : τ[i]? = some (some (.r a))) : mUn (gFld FT "data") (mVar i) τ h = some (.ok (.d (LD xs)) h) := by
  rw [un_of (var_of ei)]
  unfold gFld dicOf
  simp only [e, RD, fok_d, if_true, fg_d]
theorem rd_a0 (e : h[a]? = some (RD xs n)) : gFld FT "at" (.r a) h = some (.ok (.d (.int (n : Nat))) h) := by
  unfold gFld dicOf
  simp only [e, RD, fok_a, if_true, fg_a]
theorem rd_a (e : h[a]? = some (RD xs n)) (ei : τ[i]? = some (some (.r a))) : mUn (gFld FT "at") (mVar i) τ h = some (.ok (.d (.int (n : Nat))) h) := by
  rw [un_of (var_of ei)]
  exact rd_a0 e
theorem rd_ins {f : Str} (e : h[a]? = some (RD xs n)) (hf : decide (f ∈ ([("data" : Str), "at"] : List Str)) = false) : insOf "Reader" f (.r a) h = true := by
  unfold insOf dicOf
  simp only [e, RD]
  rw [hf]
  simp
theorem byte_ok {b : Int} (e : h[a]? = some (RD xs n)) (eb : xs[n]? = some b) : sem_Reader__read_byte [.r a] h = some (.ok (.d (.int b)) (h.set a (RD xs (n + 1)))) := by
  have hn : n < xs.length := (List.getElem?_eq_some_iff.mp eb).1
  refine runB_rt rfl ?_
  show b_Reader__read_byte [some (.r a)] h = _
  unfold b_Reader__read_byte
  rw [seq_nx (τ1 := [some (.r a)]) (h1 := h) (by
    rw [if_ff (h1 := h) (by rw [ge_of (rd_a e rfl) (by rw [un_of (rd_d e rfl)]; exact gLen_d xs h), decide_eq_false (by omega)])]
    rfl)]
  have e2 : (h.set a (RD xs (n + 1)))[a]? = some (RD xs (n + 1)) := List.getElem?_set_self (lt_of_get e)
  rw [seq_nx (τ1 := [some (.r a)]) (h1 := h.set a (RD xs (n + 1))) (by
    unfold mAugF
    rw [var_of rfl, sb_ok, rd_a0 e, sb_ok, show mC (.int 1) [some (A.r a)] h = some (.ok (.d (.int 1)) h) from rfl, sb_ok, show gIAdd (.d (.int (n : Nat))) (.d (.int 1)) h = some (.ok (.d (.int ((n + 1 : Nat) : Int))) h) from rfl, sb_ok]
    dsimp only
    rw [e]
    dsimp only [RD]
    rw [if_pos ⟨rfl, fok_a, by decide⟩, fp_a])]
  refine ret_of ?_
  rw [bin_of (rd_d e2 rfl) (b := .d (.int (n : Nat))) (h2 := h.set a (RD xs (n + 1))) (by rw [sub_of (rd_a e2 rfl) rfl, show (((n + 1 : Nat) : Int) - 1) = (n : Int) from by omega])]
  exact gGet_d _ eb
theorem byte_ex (e : h[a]? = some (RD xs n)) (hn : xs.length ≤ n) : sem_Reader__read_byte [.r a] h = some (.ex (.own "DamagedPacket") h) := by
  refine runB_ex (τ := [some (.r a)]) rfl ?_
  show b_Reader__read_byte [some (.r a)] h = _
  unfold b_Reader__read_byte
  exact seq_ex (by
    rw [if_tt (h1 := h) (by rw [ge_of (rd_a e rfl) (by rw [un_of (rd_d e rfl)]; exact gLen_d xs h), decide_eq_true (by omega)])]
    rfl)
end
abbrev R5 (a : Nat) (t f : Int) (v3 v4 : Option A) : Sl := [some (.r a), some (.d (.int t)), some (.d (.int f)), v3, v4]
section
variable {h : Hq} {a n : Nat} {xs : List Int} {b t f c : Int} {v4 : Option A}
theorem mb_ok (e : h[a]? = some (RD xs n)) (eb : xs[n]? = some b) (v3 : Option A) : mMeth "Reader" "read_byte" 1 sem_Reader__read_byte (mVar 0) maNil (R5 a t f v3 v4) h = some (.ok (.d (.int b)) (h.set a (RD xs (n + 1)))) := by
  rw [meth_of (n := 1) (ws := []) (var_of rfl) (rd_ins e (by decide +kernel)) rfl rfl]
  exact byte_ok e eb
theorem rn_pre (e : h[a]? = some (RD xs n)) (eb : xs[n]? = some b) (hb : 0 ≤ b ∧ b < 256) (hf : 0 ≤ f ∧ f ≤ 2097152) {m : MS} : mSeq (mSet 4 (mMeth "Reader" "read_byte" 1 sem_Reader__read_byte (mVar 0) maNil)) (mSeq (mAug 1 gIAdd (mBin gMul (mBin gMod (mVar 4) (mC (.int 128))) (mVar 2))) (mSeq (mSet 2 (mBin gMul (mVar 2) (mC (.int 128)))) m)) (R5 a t f (some (.d (.int c))) v4) h =
    m (R5 a (t + b % 128 * f) (f * 128) (some (.d (.int c))) (some (.d (.int b)))) (h.set a (RD xs (n + 1))) := by
  rw [seq_nx (τ1 := R5 a t f (some (.d (.int c))) (some (.d (.int b)))) (set_of (mb_ok e eb _))]
  generalize h.set a (RD xs (n + 1)) = h1
  rw [seq_nx (τ1 := R5 a (t + b % 128 * f) f (some (.d (.int c))) (some (.d (.int b)))) (h1 := h1) (by
    unfold mAug
    have em : mBin gMul (mBin gMod (mVar 4) (mC (.int 128))) (mVar 2) (R5 a t f (some (.d (.int c))) (some (.d (.int b)))) h1 = some (.ok (.d (.int (b % 128 * f))) h1) := mul_of (mod_of (var_of rfl) rfl (by decide)) (var_of rfl) (mul_small (by omega) (by omega))
    show sb _ (mBin gMul (mBin gMod (mVar 4) (mC (.int 128))) (mVar 2) (R5 a t f (some (.d (.int c))) (some (.d (.int b)))) h1) _ = _
    rw [em, sb_ok]
    rfl)]
  rw [seq_nx (τ1 := R5 a (t + b % 128 * f) (f * 128) (some (.d (.int c))) (some (.d (.int b)))) (h1 := h1) (set_of (mul_of (var_of rfl) rfl (mul_small (by omega) (by decide))))]
theorem rn_go (e : h[a]? = some (RD xs n)) (eb : xs[n]? = some b) (hb : 128 ≤ b ∧ b < 256) (hf : 0 ≤ f ∧ f ≤ 2097152) : B1_Reader__read_number (R5 a t f (some (.d (.int c))) v4) h = some (.nx (R5 a (t + b % 128 * f) (f * 128) (some (.d (.int c))) (some (.d (.int b)))) (h.set a (RD xs (n + 1)))) := by
  unfold B1_Reader__read_number
  rw [rn_pre e eb (by omega) hf, if_ff (by rw [lt_of (var_of rfl) rfl, decide_eq_false (by omega)])]
  rfl
theorem rn_end (e : h[a]? = some (RD xs n)) (eb : xs[n]? = some b) (hb : 0 ≤ b ∧ b < 128) (hf : 0 ≤ f ∧ f ≤ 2097152) (hc : b ≠ 0 ∨ c = 0) : B1_Reader__read_number (R5 a t f (some (.d (.int c))) v4) h = some (.rt (.d (.int (t + b % 128 * f))) (h.set a (RD xs (n + 1)))) := by
  unfold B1_Reader__read_number
  rw [rn_pre e eb (by omega) hf, if_tt (by rw [lt_of (var_of rfl) rfl, decide_eq_true (by omega)])]
  generalize h.set a (RD xs (n + 1)) = h1
  rw [seq_nx (τ1 := R5 a (t + b % 128 * f) (f * 128) (some (.d (.int c))) (some (.d (.int b)))) (h1 := h1) (by
    rw [if_ff (h1 := h1) (by
      rw [and_of (tb_of (eqi_of (var_of rfl) rfl)) (gt_of (var_of rfl) rfl)]
      have : (decide (b = 0) && decide ((0 : Int) < c)) = false := by
        rcases hc with z | z
        · rw [decide_eq_false z]; rfl
        · rw [z, Bool.and_comm]; rfl
      rw [this])]
    rfl)]
  rfl
theorem rn_out (e : h[a]? = some (RD xs n)) (hn : xs.length ≤ n) {v3 : Option A} : ∃ τ, B1_Reader__read_number (R5 a t f v3 v4) h = some (.ex (.own "DamagedPacket") τ h) := by
  unfold B1_Reader__read_number
  refine ⟨_, seq_ex (setex_of ?_)⟩
  rw [meth_of (n := 1) (ws := []) (var_of rfl) (rd_ins e (by decide +kernel)) rfl rfl]
  exact byte_ex e hn
end
theorem rng_at {i : Nat} (hi : i < 60) (h : Hq) : nxL (rangeA 0 60) i h = some (some (.d (.int (i : Nat)))) := by
  unfold nxL rangeA
  rw [List.getElem?_map, List.getElem?_range hi]
  show some (some (A.d (D.int (0 + ((i : Nat) : Int))))) = _
  rw [Int.zero_add]
/-- the three ways in, by turns -/
theorem rn_for {a : Nat} {h : Hq} {R : Option So} (e : forM (nxL (rangeA 0 60)) (mgName 3) B1_Reader__read_number FU 0 (R5 a 0 1 none none) h = R) : L1_Reader__read_number (R5 a 0 1 none none) h = R := by
  unfold L1_Reader__read_number
  rw [mFor_of (nx := nxL (rangeA 0 60)) (h1 := h) rfl]
  exact e
theorem number_rt {a : Nat} {h h1 : Hq} {w : A} (e : forM (nxL (rangeA 0 60)) (mgName 3) B1_Reader__read_number FU 0 (R5 a 0 1 none none) h = some (.rt w h1)) : sem_Reader__read_number [.r a] h = some (.ok w h1) := by
  refine runB_rt rfl ?_
  show b_Reader__read_number [some (.r a), none, none, none, none] h = _
  unfold b_Reader__read_number
  rw [seq_nx (τ1 := [some (.r a), some (.d (.int 0)), none, none, none]) (h1 := h) rfl, seq_nx (τ1 := R5 a 0 1 none none) (h1 := h) rfl]
  exact seq_rt (rn_for e)
theorem number_exc {a : Nat} {h h1 : Hq} {x : Xc} {τ : Sl} (e : forM (nxL (rangeA 0 60)) (mgName 3) B1_Reader__read_number FU 0 (R5 a 0 1 none none) h = some (.ex x τ h1)) : sem_Reader__read_number [.r a] h = some (.ex x h1) := by
  refine runB_ex (τ := τ) rfl ?_
  show b_Reader__read_number [some (.r a), none, none, none, none] h = _
  unfold b_Reader__read_number
  rw [seq_nx (τ1 := [some (.r a), some (.d (.int 0)), none, none, none]) (h1 := h) rfl, seq_nx (τ1 := R5 a 0 1 none none) (h1 := h) rfl]
  exact seq_ex (rn_for e)
theorem number_ok {a n : Nat} {h : Hq} {r : List Int} (hn : n < 2097152) (e : h[a]? = some (RD (leb n ++ r) 0)) : sem_Reader__read_number [.r a] h = some (.ok (.d (.int (n : Nat))) (h.set a (RD (leb n ++ r) (leb n).length))) := by
  have ha := lt_of_get e
  revert e
  unfold leb
  by_cases h1 : n < 128
  · rw [if_pos h1]
    intro e
    refine number_rt ((for_rt (f := 16777216) (rng_at (i := 0) (by decide) h) rfl (rn_end (c := 0) e rfl (by omega) (by decide) (.inr rfl))).trans ?_)
    rw [show (0 : Int) + (n : Int) % 128 * 1 = n from by omega]
    rfl
  · rw [if_neg h1]
    by_cases h2 : n < 16384
    · rw [if_pos h2]
      intro e
      refine number_rt ((for_step (f := 16777216) (rng_at (i := 0) (by decide) h) rfl (rn_go (c := 0) e rfl (by omega) (by decide))).trans ?_)
      have e1 : (h.set a (RD ([(n : Int) % 128 + 128, (n : Int) / 128] ++ r) (0 + 1)))[a]? = some (RD ([(n : Int) % 128 + 128, (n : Int) / 128] ++ r) (0 + 1)) := List.getElem?_set_self ha
      refine ((for_rt (f := 16777215) (rng_at (i := 1) (by decide) _) rfl (rn_end (c := 1) e1 rfl (by omega) (by decide) (.inl (by omega)))).trans ?_)
      rw [List.set_set, show (0 : Int) + ((n : Int) % 128 + 128) % 128 * 1 + (n : Int) / 128 % 128 * (1 * 128) = n from by omega]
      rfl
    · rw [if_neg h2]
      intro e
      refine number_rt ((for_step (f := 16777216) (rng_at (i := 0) (by decide) h) rfl (rn_go (c := 0) e rfl (by omega) (by decide))).trans ?_)
      have e1 : (h.set a (RD ([(n : Int) % 128 + 128, (n : Int) / 128 % 128 + 128, (n : Int) / 128 / 128] ++ r) (0 + 1)))[a]? = some (RD ([(n : Int) % 128 + 128, (n : Int) / 128 % 128 + 128, (n : Int) / 128 / 128] ++ r) (0 + 1)) := List.getElem?_set_self ha
      refine ((for_step (f := 16777215) (rng_at (i := 1) (by decide) _) rfl (rn_go (c := 1) e1 rfl (by omega) (by decide))).trans ?_)
      rw [List.set_set]
      have e2 : (h.set a (RD ([(n : Int) % 128 + 128, (n : Int) / 128 % 128 + 128, (n : Int) / 128 / 128] ++ r) (0 + 1 + 1)))[a]? = some (RD ([(n : Int) % 128 + 128, (n : Int) / 128 % 128 + 128, (n : Int) / 128 / 128] ++ r) (0 + 1 + 1)) := List.getElem?_set_self ha
      refine ((for_rt (f := 16777214) (rng_at (i := 2) (by decide) _) rfl (rn_end (c := 2) e2 rfl (by omega) (by decide) (.inl (by omega)))).trans ?_)
      rw [List.set_set, show (0 : Int) + ((n : Int) % 128 + 128) % 128 * 1 + ((n : Int) / 128 % 128 + 128) % 128 * (1 * 128) + (n : Int) / 128 / 128 % 128 * (1 * 128 * 128) = n from by omega]
      rfl
/-- bytes of a number that does not end -/
def Open (z : List Int) : Prop := z = [] ∨ (∃ x, z = [x] ∧ 128 ≤ x ∧ x < 256) ∨ ∃ x y, z = [x, y] ∧ (128 ≤ x ∧ x < 256) ∧ 128 ≤ y ∧ y < 256
theorem number_open {a : Nat} {h : Hq} {z : List Int} (hz : Open z) (e : h[a]? = some (RD z 0)) : ∃ h1, sem_Reader__read_number [.r a] h = some (.ex (.own "DamagedPacket") h1) := by
  have ha := lt_of_get e
  rcases hz with rfl | ⟨x, rfl, hx⟩ | ⟨x, y, rfl, hx, hy⟩
  · obtain ⟨τ, x1⟩ := rn_out (t := 0) (f := 1) (v3 := some (.d (.int 0))) (v4 := none) e (Nat.le_refl _)
    exact ⟨h, number_exc (for_ex (f := 16777216) (rng_at (i := 0) (by decide) h) rfl x1)⟩
  · have e1 : (h.set a (RD [x] (0 + 1)))[a]? = some (RD [x] (0 + 1)) := List.getElem?_set_self ha
    obtain ⟨τ, x1⟩ := rn_out (t := 0 + x % 128 * 1) (f := 1 * 128) (v3 := some (.d (.int 1))) (v4 := some (.d (.int x))) e1 (Nat.le_refl _)
    exact ⟨_, number_exc ((for_step (f := 16777216) (rng_at (i := 0) (by decide) h) rfl (rn_go (c := 0) e rfl hx (by decide))).trans (for_ex (f := 16777215) (rng_at (i := 1) (by decide) _) rfl x1))⟩
  · have e1 : (h.set a (RD [x, y] (0 + 1)))[a]? = some (RD [x, y] (0 + 1)) := List.getElem?_set_self ha
    have e2 : ((h.set a (RD [x, y] (0 + 1))).set a (RD [x, y] (0 + 1 + 1)))[a]? = some (RD [x, y] (0 + 1 + 1)) := List.getElem?_set_self (by rw [List.length_set]; exact ha)
    obtain ⟨τ, x1⟩ := rn_out (t := 0 + x % 128 * 1 + y % 128 * (1 * 128)) (f := 1 * 128 * 128) (v3 := some (.d (.int 2))) (v4 := some (.d (.int y))) e2 (Nat.le_refl _)
    exact ⟨_, number_exc ((for_step (f := 16777216) (rng_at (i := 0) (by decide) h) rfl (rn_go (c := 0) e rfl hx (by decide))).trans ((for_step (f := 16777215) (rng_at (i := 1) (by decide) _) rfl (rn_go (c := 1) e1 rfl hy (by decide))).trans (for_ex (f := 16777214) (rng_at (i := 2) (by decide) _) rfl x1)))⟩
theorem leb_open {n j : Nat} (hn : n < 2097152) (hj : j < (leb n).length) : Open ((leb n).take j) := by
  revert hj
  unfold leb
  split
  · intro hj
    have hj : j < 1 := hj
    obtain rfl : j = 0 := by omega
    exact .inl rfl
  · split
    · intro hj
      have hj : j < 2 := hj
      rcases (by omega : j = 0 ∨ j = 1) with rfl | rfl
      · exact .inl rfl
      · exact .inr (.inl ⟨_, rfl, by omega⟩)
    · intro hj
      have hj : j < 3 := hj
      rcases (by omega : j = 0 ∨ j = 1 ∨ j = 2) with rfl | rfl | rfl
      · exact .inl rfl
      · exact .inr (.inl ⟨_, rfl, by omega⟩)
      · exact .inr (.inr ⟨_, _, rfl, by omega, by omega⟩)
/-! ### record_size -/
theorem reader_ok {τ : Sl} {ds : List Int} (s : Nat) (hl : ds.length ≤ LIM) (e0 : τ[0]? = some (some (.d (LD ds)))) (e1 : τ[1]? = some (some (.d (.int (s : Nat))))) : mMake "Reader" 2 sem_Reader____init__ (maCons (mSl false (mVar 0) (moS (mVar 1)) moN) maNil) τ [] = some (.ok (.r 0) [RD (ds.drop s) 0]) := by
  have hd : (ds.drop s).length ≤ LIM := by rw [List.length_drop]; omega
  unfold mMake
  have ea : mSl false (mVar 0) (moS (mVar 1)) moN τ [] = some (.ok (.d (LD (ds.drop s))) []) := by
    have : mSl false (mVar 0) (moS (mVar 1)) moN τ [] = gSl false (.d (LD ds)) (some (s : Int)) none [] := by
      unfold mSl moS
      rw [var_of e0, bd_ok, var_of e1]
      rfl
    rw [this, gSl_d, cut_drop]
    exact mkL_i hd
  rw [cons_of (r := []) ea rfl, bd_ok, if_pos (show ([A.d (LD (ds.drop s))] : List A).length + 1 = 2 from rfl)]
  have f1 : fPut "data" (.d (LD (ds.drop s))) [] [] = (([("data" : Str)] : List Str), [.d (LD (ds.drop s))]) := rfl
  show (match sem_Reader____init__ [A.r 0, A.d (LD (List.drop s ds))] [O.nd (Hd.ins "Reader" []) []] with | some (Rs.ok (A.d D.non) h2) => some (Rs.ok (A.r 0) h2) | _ => none) = _
  rw [show sem_Reader____init__ [.r 0, .d (LD (ds.drop s))] [.nd (.ins "Reader" []) []] = some (.ok (.d .non) [RD (ds.drop s) 0]) from runB_nx (τ := [some (.r 0), some (.d (LD (ds.drop s)))]) rfl (by
    show b_Reader____init__ [some (.r 0), some (.d (LD (ds.drop s)))] [.nd (.ins "Reader" []) []] = _
    unfold b_Reader____init__
    rw [seq_nx (τ1 := [some (.r 0), some (.d (LD (ds.drop s)))]) (h1 := [.nd (.ins "Reader" ["data"]) [.d (LD (ds.drop s))]]) (by
      unfold mSetF
      rw [show mUn (gLstOf false) (mVar 1) [some (.r 0), some (.d (LD (ds.drop s)))] [.nd (.ins "Reader" []) []] = some (.ok (.d (LD (ds.drop s))) [.nd (.ins "Reader" []) []]) from mkL_i hd, sb_ok, var_of rfl, sb_ok]
      show (if fOk FT "Reader" "data" = true ∧ _ then _ else _) = _
      rw [if_pos ⟨fok_d, by decide⟩, f1]
      rfl)]
    unfold mSetF
    rw [show mC (.int 0) [some (.r 0), some (.d (LD (ds.drop s)))] [.nd (.ins "Reader" ["data"]) [.d (LD (ds.drop s))]] = some (.ok (.d (.int 0)) [.nd (.ins "Reader" ["data"]) [.d (LD (ds.drop s))]]) from rfl, sb_ok, var_of rfl, sb_ok]
    show (if fOk FT "Reader" "at" = true ∧ _ then _ else _) = _
    rw [if_pos ⟨fok_a, by decide⟩, fp_a1]
    rfl)]
theorem size_ok {ds : List Int} {s n : Nat} {r : List Int} (hl : ds.length ≤ LIM) (hn : n < 2097152) (hd : ds.drop s = leb n ++ r) : ∃ h, sem_record_size [.d (LD ds), .d (.int (s : Nat))] [] = some (.ok (.d (.tup [.int ((leb n).length : Nat), .int (n : Nat)])) h) := by
  have e1 := reader_ok (τ := [some (.d (LD ds)), some (.d (.int (s : Nat))), none, none]) s hl rfl rfl
  rw [hd] at e1
  have e2 := number_ok (a := 0) (h := [RD (leb n ++ r) 0]) hn rfl
  refine ⟨[RD (leb n ++ r) (leb n).length], runB_rt rfl ?_⟩
  show b_record_size [some (.d (LD ds)), some (.d (.int (s : Nat))), none, none] [] = _
  unfold b_record_size
  rw [seq_nx (τ1 := [some (.d (LD ds)), some (.d (.int (s : Nat))), some (.r 0), none]) (set_of e1)]
  have e3 : Y1_record_size [some (.d (LD ds)), some (.d (.int (s : Nat))), some (.r 0), none] [RD (leb n ++ r) 0] = some (.nx [some (.d (LD ds)), some (.d (.int (s : Nat))), some (.r 0), some (.d (.int (n : Nat)))] [RD (leb n ++ r) (leb n).length]) := set_of (by
    rw [meth_of (n := 1) (ws := []) (var_of rfl) (rd_ins (xs := leb n ++ r) (n := 0) rfl (by decide +kernel)) rfl rfl]
    exact e2)
  rw [seq_nx (τ1 := [some (.d (LD ds)), some (.d (.int (s : Nat))), some (.r 0), some (.d (.int (n : Nat)))]) (h1 := [RD (leb n ++ r) (leb n).length]) (by unfold mTry; rw [e3])]
  refine ret_of ?_
  unfold mTup
  rw [cons_of (rd_a (xs := leb n ++ r) (n := (leb n).length) rfl rfl) (cons_of (r := []) (var_of rfl) rfl), bd_ok]
  rfl
theorem size_no {ds : List Int} {s : Nat} (hl : ds.length ≤ LIM) (hd : Open (ds.drop s)) : ∃ h, sem_record_size [.d (LD ds), .d (.int (s : Nat))] [] = some (.ok (.d .non) h) := by
  have e1 := reader_ok (τ := [some (.d (LD ds)), some (.d (.int (s : Nat))), none, none]) s hl rfl rfl
  obtain ⟨h1, e2⟩ := number_open (a := 0) (h := [RD (ds.drop s) 0]) hd rfl
  refine ⟨h1, runB_rt rfl ?_⟩
  show b_record_size [some (.d (LD ds)), some (.d (.int (s : Nat))), none, none] [] = _
  unfold b_record_size
  rw [seq_nx (τ1 := [some (.d (LD ds)), some (.d (.int (s : Nat))), some (.r 0), none]) (set_of e1)]
  have e3 : Y1_record_size [some (.d (LD ds)), some (.d (.int (s : Nat))), some (.r 0), none] [RD (ds.drop s) 0] = some (.ex (.own "DamagedPacket") [some (.d (LD ds)), some (.d (.int (s : Nat))), some (.r 0), none] h1) := setex_of (by
    rw [meth_of (n := 1) (ws := []) (var_of rfl) (rd_ins (xs := ds.drop s) (n := 0) rfl (by decide +kernel)) rfl rfl]
    exact e2)
  refine seq_rt (h1 := h1) ?_
  unfold mTry
  rw [e3]
  dsimp only
  rw [show xLook XT_DamagedPacket (Xc.nm (.own "DamagedPacket")) = some true from by decide +kernel]
  rfl
end K52

set_option maxHeartbeats 1000000
namespace K52
open PySem PySem.Spec PyProof.Rows L2 Tq
theorem append2_of {τ : Sl} {h h2 : Hq} {k : Nat} {ws0 ws : List A} {w : A} {mo mv : E A} (h1 : mo τ h = some (.ok (.r k) h)) (e0 : h[k]? = some (.lst ws0)) (e1 : mv τ h = some (.ok w h2)) (e : h2[k]? = some (.lst ws)) (hl : ws.length < LIM) : mDrop (mM1 tokL gApp mo mv) τ h = some (.nx τ (h2.set k (.lst (ws ++ [w])))) := by
  have t : tokL (.r k) h = true := by
    unfold tokL lstOf
    dsimp only
    rw [e0]
    rfl
  have ga : gApp (.r k) w h2 = some (.ok (.d .non) (h2.set k (.lst (ws ++ [w])))) := by
    unfold gApp
    dsimp only
    rw [e]
    dsimp only
    rw [if_pos hl]
  unfold mDrop mM1
  rw [h1, bd_ok, if_pos t, e1, bd_ok, ga, sb_ok]
theorem ifbk_of {t : E Bool} {m2 : MS} {τ : Sl} {h h1 : Hq} (e : t τ h = some (.ok true h1)) : mSeq (mIf t mBk mNx) m2 τ h = some (.bk τ h1) := seq_bk (by rw [if_tt e]; rfl)
abbrev R6 (ds : List Int) (k s : Nat) (v3 v4 v5 : Option A) : Sl := [some (.d (LD ds)), some (.r k), some (.d (.int (s : Nat))), v3, v4, v5]
def Stops (z : List Int) : Prop := z = [] ∨ (z ≠ [] ∧ Open z) ∨ (∃ n y, z = leb n ++ y ∧ n < 2097152 ∧ y.length < n + 4) ∨ (∃ p q y, z = leb p.length ++ (p ++ (q ++ y)) ∧ p.length ≤ 20000 ∧ q.length = 4 ∧ q ≠ tail4 (sum7 p))
section
variable {ds : List Int} {k s : Nat} {v3 v4 v5 : Option A} {h : Hq}
theorem dlen {z : List Int} (e : ds.drop s = z) (hz : z ≠ []) : ds.length = s + z.length := by
  have := congrArg List.length e
  rw [List.length_drop] at this
  have : 0 < z.length := List.length_pos_iff.mpr hz
  omega
theorem leb_ne (n : Nat) : leb n ≠ [] := fun e => by
  have := leb_len n
  rw [e] at this
  exact absurd this.1 (by decide)
/-- up to the test: found -/
theorem rr_pre {n : Nat} {y : List Int} (hl : ds.length ≤ LIM) (hn : n < 2097152) (hd : ds.drop s = leb n ++ y) {m : MS} : mSeq (mSet 3 (mCallP sem_record_size (lenIs 2 (maCons (mVar 0) (maCons (mVar 2) maNil))))) (mSeq (mIf (mTB (mBin (gIs false) (mVar 3) (mC .non))) mBk mNx) (mSeq (mSet 4 (mBin (gAdd false) (mVar 2) (mBin gGet (mVar 3) (mC (.int 0))))) (mSeq (mSet 5 (mBin (gAdd false) (mVar 4) (mBin gGet (mVar 3) (mC (.int 1))))) m))) (R6 ds k s v3 v4 v5) h =
    m (R6 ds k s (some (.d (.tup [.int ((leb n).length : Nat), .int (n : Nat)]))) (some (.d (.int ((s + (leb n).length : Nat) : Int)))) (some (.d (.int ((s + (leb n).length + n : Nat) : Int))))) h := by
  obtain ⟨h', e⟩ := size_ok hl hn hd
  have e1 : mCallP sem_record_size (lenIs 2 (maCons (mVar 0) (maCons (mVar 2) maNil))) (R6 ds k s v3 v4 v5) h = some (.ok (.d (.tup [.int ((leb n).length : Nat), .int (n : Nat)])) h) := callP_of (ds := [LD ds, .int (s : Nat)]) (len_of (n := 2) (cons_of (var_of rfl) (cons_of (r := []) (var_of rfl) rfl)) rfl) e (vw_d _ _ _)
  generalize hL : (leb n).length = l at e1
  rw [seq_nx (τ1 := R6 ds k s (some (.d (.tup [.int (l : Nat), .int (n : Nat)]))) v4 v5) (h1 := h) (set_of e1)]
  rw [seq_nx (τ1 := R6 ds k s (some (.d (.tup [.int (l : Nat), .int (n : Nat)]))) v4 v5) (h1 := h) rfl]
  rw [seq_nx (τ1 := R6 ds k s (some (.d (.tup [.int (l : Nat), .int (n : Nat)]))) (some (.d (.int ((s + l : Nat) : Int)))) v5) (h1 := h) (set_of (by
    rw [add_of (i := (s : Nat)) (j := (l : Nat)) (var_of rfl) rfl, Int.natCast_add]))]
  rw [seq_nx (τ1 := R6 ds k s (some (.d (.tup [.int (l : Nat), .int (n : Nat)]))) (some (.d (.int ((s + l : Nat) : Int)))) (some (.d (.int ((s + l + n : Nat) : Int))))) (h1 := h) (set_of (by
    rw [add_of (i := ((s + l : Nat) : Int)) (j := (n : Nat)) (var_of rfl) rfl, ← Int.natCast_add]))]
theorem rr_none (hl : ds.length ≤ LIM) (hd : Open (ds.drop s)) : ∃ u3 u4 u5, B1_read_records (R6 ds k s v3 v4 v5) h = some (.bk (R6 ds k s u3 u4 u5) h) := by
  obtain ⟨h', e⟩ := size_no hl hd
  have e1 : mCallP sem_record_size (lenIs 2 (maCons (mVar 0) (maCons (mVar 2) maNil))) (R6 ds k s v3 v4 v5) h = some (.ok (.d .non) h) := callP_of (ds := [LD ds, .int (s : Nat)]) (len_of (n := 2) (cons_of (var_of rfl) (cons_of (r := []) (var_of rfl) rfl)) rfl) e (vw_d _ _ _)
  unfold B1_read_records
  rw [seq_nx (τ1 := R6 ds k s (some (.d .non)) v4 v5) (h1 := h) (set_of e1)]
  exact ⟨_, _, _, seq_bk rfl⟩
theorem gt_len {e : Nat} (e5 : v5 = some (.d (.int (e : Nat)))) : mTB (mBin gGt (mBin (gAdd false) (mVar 5) (mC (.int 4))) (mUn gLen (mVar 0))) (R6 ds k s v3 v4 v5) h = some (.ok (decide (ds.length < e + 4)) h) := by
  subst e5
  rw [gt_of (add_of (var_of rfl) rfl) (by rw [un_of (var_of rfl)]; exact gLen_d ds h)]
  rw [show decide ((ds.length : Int) < (e : Int) + 4) = decide (ds.length < e + 4) from decide_eq_decide.mpr (by omega)]
theorem rr_short {n : Nat} {y : List Int} (hl : ds.length ≤ LIM) (hn : n < 2097152) (hd : ds.drop s = leb n ++ y) (hy : y.length < n + 4) : ∃ u3 u4 u5, B1_read_records (R6 ds k s v3 v4 v5) h = some (.bk (R6 ds k s u3 u4 u5) h) := by
  have hz : ds.length = s + (leb n ++ y).length := dlen hd (fun e => leb_ne n (List.append_eq_nil_iff.mp e).1)
  rw [List.length_append] at hz
  unfold B1_read_records
  rw [rr_pre hl hn hd]
  refine ⟨_, _, _, ifbk_of ?_⟩
  unfold mOrT
  rw [gt_len (e := s + (leb n).length + n) rfl, bd_ok, decide_eq_true (by omega)]
/-- the slices -/
theorem sl_of {o : Bool} {τ : Sl} {a b : Nat} {ma mb : E A} (hl : ds.length ≤ LIM) (e0 : τ[0]? = some (some (.d (LD ds)))) (e1 : ma τ h = some (.ok (.d (.int (a : Nat))) h)) (e2 : mb τ h = some (.ok (.d (.int (b : Nat))) h)) : mSl o (mVar 0) (moS ma) (moS mb) τ h = mkL o (LI ((ds.drop a).take (b - a))) h := by
  unfold mSl moS
  rw [var_of e0, bd_ok, e1]
  show bd (bd (mb τ h) _) _ = _
  rw [e2]
  show gSl o (.d (LD ds)) (some (a : Int)) (some (b : Int)) h = _
  rw [gSl_d, cut_mid]
theorem rr_cmp {p q y : List Int} (hl : ds.length ≤ LIM) (hp : p.length ≤ 20000) (hq : q.length = 4) (hd : ds.drop s = leb p.length ++ (p ++ (q ++ y))) :
    mOrT (mTB (mBin gGt (mBin (gAdd false) (mVar 5) (mC (.int 4))) (mUn gLen (mVar 0)))) (mTB (mBin (gEq true) (mCallP sem_write_record (lenIs 1 (maCons (mSl false (mVar 0) (moS (mVar 4)) (moS (mVar 5))) maNil))) (mSl false (mVar 0) (moS (mVar 2)) (moS (mBin (gAdd false) (mVar 5) (mC (.int 4)))))))
      (R6 ds k s (some (.d (.tup [.int ((leb p.length).length : Nat), .int (p.length : Nat)]))) (some (.d (.int ((s + (leb p.length).length : Nat) : Int)))) (some (.d (.int ((s + (leb p.length).length + p.length : Nat) : Int))))) h = some (.ok (!decide (q = tail4 (sum7 p))) h) := by
  have hz : ds.length = s + (leb p.length ++ (p ++ (q ++ y))).length := dlen hd (fun e => leb_ne _ (List.append_eq_nil_iff.mp e).1)
  rw [List.length_append, List.length_append, List.length_append] at hz
  obtain ⟨k', h', w1, w2⟩ := write_record_ok hp
  have d1 : (ds.drop (s + (leb p.length).length)).take (s + (leb p.length).length + p.length - (s + (leb p.length).length)) = p := by
    rw [← List.drop_drop, hd, List.drop_left, show s + (leb p.length).length + p.length - (s + (leb p.length).length) = p.length from by omega, List.take_left]
  have d2 : (ds.drop s).take (s + (leb p.length).length + p.length + 4 - s) = leb p.length ++ p ++ q := by
    rw [hd, show s + (leb p.length).length + p.length + 4 - s = (leb p.length ++ p ++ q).length from by rw [List.length_append, List.length_append]; omega, ← List.append_assoc, ← List.append_assoc, List.take_left]
  generalize hτ : R6 ds k s (some (.d (.tup [.int ((leb p.length).length : Nat), .int (p.length : Nat)]))) (some (.d (.int ((s + (leb p.length).length : Nat) : Int)))) (some (.d (.int ((s + (leb p.length).length + p.length : Nat) : Int)))) = τ
  have t0 : τ[0]? = some (some (.d (LD ds))) := by rw [← hτ]; rfl
  have t2 : τ[2]? = some (some (.d (.int (s : Nat)))) := by rw [← hτ]; rfl
  have t4 : τ[4]? = some (some (.d (.int ((s + (leb p.length).length : Nat) : Int)))) := by rw [← hτ]; rfl
  have t5 : τ[5]? = some (some (.d (.int ((s + (leb p.length).length + p.length : Nat) : Int)))) := by rw [← hτ]; rfl
  have e1 : mSl false (mVar 0) (moS (mVar 4)) (moS (mVar 5)) τ h = some (.ok (.d (LD p)) h) := by
    rw [sl_of hl t0 (var_of t4) (var_of t5), d1]
    exact mkL_i (by show _ ≤ 16777216; omega)
  have e2 : mCallP sem_write_record (lenIs 1 (maCons (mSl false (mVar 0) (moS (mVar 4)) (moS (mVar 5))) maNil)) τ h = some (.ok (.d (LD (rec4 p))) h) := callP_of (ds := [LD p]) (len_of (n := 1) (cons_of (r := []) e1 rfl) rfl) w1 (view_LI w2)
  have e3 : mSl false (mVar 0) (moS (mVar 2)) (moS (mBin (gAdd false) (mVar 5) (mC (.int 4)))) τ h = some (.ok (.d (LD (leb p.length ++ p ++ q))) h) := by
    rw [sl_of (b := s + (leb p.length).length + p.length + 4) hl t0 (var_of t2) (by rw [add_of (j := 4) (var_of t5) rfl]; rfl), d2]
    exact mkL_i (by rw [List.length_append, List.length_append]; omega)
  have g1 := gt_len (ds := ds) (k := k) (s := s) (v3 := some (.d (.tup [.int ((leb p.length).length : Nat), .int (p.length : Nat)]))) (v4 := some (.d (.int ((s + (leb p.length).length : Nat) : Int)))) (h := h) (e := s + (leb p.length).length + p.length) rfl
  rw [hτ, decide_eq_false (by omega)] at g1
  rw [orff_of g1 (tb_of (eqv_of e2 e3 (vw_d _ _ _) (vw_d _ _ _) (eqD_LD _ _ _)))]
  have : decide (rec4 p = leb p.length ++ p ++ q) = decide (q = tail4 (sum7 p)) := decide_eq_decide.mpr ⟨fun e => (List.append_cancel_left e).symm, fun e => by rw [e]; rfl⟩
  rw [this]
  rfl
theorem rr_bad {p q y : List Int} (hl : ds.length ≤ LIM) (hp : p.length ≤ 20000) (hq : q.length = 4) (hd : ds.drop s = leb p.length ++ (p ++ (q ++ y))) (hne : q ≠ tail4 (sum7 p)) : ∃ u3 u4 u5, B1_read_records (R6 ds k s v3 v4 v5) h = some (.bk (R6 ds k s u3 u4 u5) h) := by
  unfold B1_read_records
  rw [rr_pre hl (by omega) hd]
  refine ⟨_, _, _, ifbk_of ?_⟩
  rw [rr_cmp hl hp hq hd, decide_eq_false hne]
  rfl
theorem rr_good {p y : List Int} {ws : List A} (hl : ds.length ≤ LIM) (hp : p.length ≤ 20000) (hd : ds.drop s = rec4 p ++ y) (hk : h[k]? = some (.lst ws)) (hw : ws.length < LIM) : ∃ v3 v4 v5, B1_read_records (R6 ds k s v3' v4' v5') h = some (.nx (R6 ds k (s + (rec4 p).length) v3 v4 v5) ((h ++ [O.lst (LI p)]).set k (O.lst (ws ++ [A.r h.length])))) := by
  have hd2 : ds.drop s = leb p.length ++ (p ++ (tail4 (sum7 p) ++ y)) := by
    rw [hd]
    unfold rec4
    rw [List.append_assoc, List.append_assoc]
  have d1 : (ds.drop (s + (leb p.length).length)).take (s + (leb p.length).length + p.length - (s + (leb p.length).length)) = p := by
    rw [← List.drop_drop, hd2, List.drop_left, show s + (leb p.length).length + p.length - (s + (leb p.length).length) = p.length from by omega, List.take_left]
  have hr : (rec4 p).length = (leb p.length).length + p.length + 4 := by
    unfold rec4
    rw [List.length_append, List.length_append]
    rfl
  have hkl := lt_of_get hk
  refine ⟨some (.d (.tup [.int ((leb p.length).length : Nat), .int (p.length : Nat)])), some (.d (.int ((s + (leb p.length).length : Nat) : Int))), some (.d (.int ((s + (leb p.length).length + p.length : Nat) : Int))), ?_⟩
  unfold B1_read_records
  rw [rr_pre hl (by omega) hd2]
  have ec := rr_cmp (k := k) (h := h) hl hp rfl hd2
  rw [decide_eq_true rfl] at ec
  generalize hτ : R6 ds k s (some (.d (.tup [.int ((leb p.length).length : Nat), .int (p.length : Nat)]))) (some (.d (.int ((s + (leb p.length).length : Nat) : Int)))) (some (.d (.int ((s + (leb p.length).length + p.length : Nat) : Int)))) = τ at ec
  have t0 : τ[0]? = some (some (.d (LD ds))) := by rw [← hτ]; rfl
  have t1 : τ[1]? = some (some (.r k)) := by rw [← hτ]; rfl
  have t4 : τ[4]? = some (some (.d (.int ((s + (leb p.length).length : Nat) : Int)))) := by rw [← hτ]; rfl
  have t5 : τ[5]? = some (some (.d (.int ((s + (leb p.length).length + p.length : Nat) : Int)))) := by rw [← hτ]; rfl
  rw [seq_nx (τ1 := τ) (h1 := h) (by rw [if_ff ec]; rfl)]
  have e1 : mSl true (mVar 0) (moS (mVar 4)) (moS (mVar 5)) τ h = some (.ok (.r h.length) (h ++ [O.lst (LI p)])) := by
    rw [sl_of hl t0 (var_of t4) (var_of t5), d1]
    exact mkL_c (by rw [LI_len]; show _ ≤ 16777216; omega)
  rw [seq_nx (append2_of (var_of t1) hk e1 (app_keep hk) hw)]
  rw [set_of (add_of (var_of t5) rfl), ← hτ]
  show some (So.nx [some (.d (LD ds)), some (.r k), some (.d (.int (((s + (leb p.length).length + p.length : Nat) : Int) + 4))), _, _, _] _) = some (So.nx [some (.d (LD ds)), some (.r k), some (.d (.int ((s + (rec4 p).length : Nat) : Int))), _, _, _] _)
  rw [show ((s + (leb p.length).length + p.length : Nat) : Int) + 4 = ((s + (rec4 p).length : Nat) : Int) from by rw [hr]; omega]
end
/-! ### the loop -/
def flat (rs : List (List Int)) : List Int := (rs.map rec4).flatten
theorem flat_cons (r : List Int) (rs : List (List Int)) : flat (r :: rs) = rec4 r ++ flat rs := rfl
theorem flat_snoc (rs : List (List Int)) (r : List Int) : flat (rs ++ [r]) = flat rs ++ rec4 r := by
  unfold flat
  rw [List.map_append, List.flatten_append]
  simp
def Cells (h : Hq) (k : Nat) (ws : List A) (rs : List (List Int)) : Prop := ws.length = rs.length ∧ ∀ (i : Nat) (r : List Int), rs[i]? = some r → ∃ j : Nat, ws[i]? = some (A.r j) ∧ k < j ∧ h[j]? = some (O.lst (LI r))
theorem Cells.snoc {h : Hq} {k : Nat} {ws : List A} {rs : List (List Int)} {r : List Int} (c : Cells h k ws rs) (hk : h[k]? = some (.lst ws)) : Cells ((h ++ [O.lst (LI r)]).set k (O.lst (ws ++ [A.r h.length]))) k (ws ++ [A.r h.length]) (rs ++ [r]) := by
  have hkl := lt_of_get hk
  obtain ⟨c1, c2⟩ := c
  refine ⟨by rw [List.length_append, List.length_append, c1]; rfl, fun i r' e => ?_⟩
  by_cases hi : i < rs.length
  · rw [List.getElem?_append_left hi] at e
    obtain ⟨j, j1, j2, j3⟩ := c2 i r' e
    refine ⟨j, by rw [List.getElem?_append_left (by omega)]; exact j1, j2, ?_⟩
    rw [List.getElem?_set_ne (by omega)]
    exact app_keep j3
  · rw [List.getElem?_append_right (by omega)] at e
    have hi2 : i - rs.length = 0 := by
      have := (List.getElem?_eq_some_iff.mp e).1
      simp only [List.length_singleton] at this
      omega
    rw [hi2] at e
    cases e
    refine ⟨h.length, ?_, hkl, ?_⟩
    · rw [List.getElem?_append_right (by omega), c1, hi2]
      rfl
    · rw [List.getElem?_set_ne (by omega)]
      exact cell_app _ _
theorem rr_test {ds : List Int} {k s : Nat} {v3 v4 v5 : Option A} {h : Hq} : W1_read_records (R6 ds k s v3 v4 v5) h = some (.ok (decide (s < ds.length)) h) := by
  unfold W1_read_records
  rw [lt_of (i := (s : Nat)) (j := (ds.length : Nat)) (var_of rfl) (by rw [un_of (var_of rfl)]; exact gLen_d ds h)]
  rw [show decide ((s : Int) < (ds.length : Int)) = decide (s < ds.length) from decide_eq_decide.mpr (by omega)]
theorem rec4_ne (r : List Int) : rec4 r ≠ [] := fun e => by
  have := rec4_len r
  rw [e] at this
  have := this.1
  simp at this
theorem rr_loop {ds z : List Int} (hl : ds.length ≤ LIM) (hz : Stops z) {k : Nat} : ∀ (rs done : List (List Int)) (s N : Nat) (h : Hq) (ws : List A) (v3 v4 v5 : Option A), rs.length < N → (∀ r ∈ rs, r.length ≤ 20000) → ds.drop s = flat rs ++ z → s ≤ ds.length → h[k]? = some (.lst ws) → done.length + rs.length < 1000000 → Cells h k ws done →
    ∃ h' ws' u3 u4 u5, mWhile W1_read_records B1_read_records N (R6 ds k s v3 v4 v5) h = some (.nx (R6 ds k (s + (flat rs).length) u3 u4 u5) h') ∧ h'[k]? = some (.lst ws') ∧ Cells h' k ws' (done ++ rs) ∧ (∀ (i : Nat) (o : O), i ≠ k → h[i]? = some o → h'[i]? = some o) := by
  intro rs
  induction rs with
  | nil =>
    intro done s N h ws v3 v4 v5 hN hr hd hs hk hN2 hc
    obtain ⟨N, rfl⟩ : ∃ N', N = N' + 1 := ⟨N - 1, by omega⟩
    have hd : ds.drop s = z := hd
    have fin : ∀ u3 u4 u5, mWhile W1_read_records B1_read_records (N + 1) (R6 ds k s v3 v4 v5) h = some (.nx (R6 ds k s u3 u4 u5) h) → ∃ h' ws' u3 u4 u5, mWhile W1_read_records B1_read_records (N + 1) (R6 ds k s v3 v4 v5) h = some (.nx (R6 ds k (s + (flat []).length) u3 u4 u5) h') ∧ h'[k]? = some (.lst ws') ∧ Cells h' k ws' (done ++ []) ∧ (∀ (i : Nat) (o : O), i ≠ k → h[i]? = some o → h'[i]? = some o) := fun u3 u4 u5 e => ⟨h, ws, u3, u4, u5, e, hk, by rw [List.append_nil]; exact hc, fun _ _ _ e => e⟩
    by_cases zn : z = []
    · have hsl : ds.length ≤ s := by
        have := congrArg List.length hd
        rw [List.length_drop, zn, List.length_nil] at this
        omega
      exact fin v3 v4 v5 (while_ff (by rw [rr_test, decide_eq_false (by omega)]))
    · have hlen := dlen hd zn
      have : 0 < z.length := List.length_pos_iff.mpr zn
      have tt : W1_read_records (R6 ds k s v3 v4 v5) h = some (.ok true h) := by rw [rr_test, decide_eq_true (by omega)]
      rcases hz with hz | ⟨_, hz⟩ | ⟨n, y, hz, hn, hy⟩ | ⟨p, q, y, hz, hp, hq, hne⟩
      · exact absurd hz zn
      · obtain ⟨u3, u4, u5, e⟩ := rr_none (k := k) (v3 := v3) (v4 := v4) (v5 := v5) (h := h) hl (by rw [hd]; exact hz)
        exact fin _ _ _ (while_bk tt e)
      · obtain ⟨u3, u4, u5, e⟩ := rr_short (k := k) (v3 := v3) (v4 := v4) (v5 := v5) (h := h) hl hn (by rw [hd, hz]) hy
        exact fin _ _ _ (while_bk tt e)
      · obtain ⟨u3, u4, u5, e⟩ := rr_bad (k := k) (v3 := v3) (v4 := v4) (v5 := v5) (h := h) hl hp hq (by rw [hd, hz]) hne
        exact fin _ _ _ (while_bk tt e)
  | cons r rs ih =>
    intro done s N h ws v3 v4 v5 hN hr hd hs hk hN2 hc
    obtain ⟨N, rfl⟩ : ∃ N', N = N' + 1 := ⟨N - 1, by omega⟩
    rw [flat_cons, List.append_assoc] at hd
    have hlen := dlen hd (fun e => rec4_ne r (List.append_eq_nil_iff.mp e).1)
    have hr4 := rec4_len r
    rw [List.length_append] at hlen
    rw [List.length_cons] at hN hN2
    have hp := hr r (List.mem_cons_self ..)
    obtain ⟨w3, w4, w5, e1⟩ := rr_good (v3' := v3) (v4' := v4) (v5' := v5) hl hp hd hk (by have := hc.1; show ws.length < 16777216; omega)
    have hd2 : ds.drop (s + (rec4 r).length) = flat rs ++ z := by rw [← List.drop_drop, hd, List.drop_left]
    obtain ⟨h', ws', u3, u4, u5, e2, e3, e4, e5⟩ := ih (done ++ [r]) (s + (rec4 r).length) N _ _ w3 w4 w5 (by omega) (fun q hq => hr q (List.mem_cons_of_mem _ hq)) hd2 (by omega) (List.getElem?_set_self (by rw [List.length_append]; have := lt_of_get hk; omega)) (by rw [List.length_append, List.length_singleton]; omega) (hc.snoc hk)
    refine ⟨h', ws', u3, u4, u5, ?_, e3, by rw [List.append_assoc] at e4; exact e4, fun i o ik e => e5 i o ik (by rw [List.getElem?_set_ne (Ne.symm ik)]; exact app_keep e)⟩
    rw [while_tt (by rw [rr_test, decide_eq_true (by omega)]) e1, e2, flat_cons, List.length_append, Nat.add_assoc]
theorem records_ok {rs : List (List Int)} {z : List Int} (hl : (flat rs ++ z).length ≤ LIM) (hz : Stops z) (hr : ∀ r ∈ rs, r.length ≤ 20000) (hn : rs.length < 900000) (h0 : Hq) :
    ∃ h' ws, sem_read_records [.d (LD (flat rs ++ z))] h0 = some (.ok (.tup [.r h0.length, .d (.int ((flat rs).length : Nat))]) h') ∧ h'[h0.length]? = some (.lst ws) ∧ Cells h' h0.length ws rs ∧ (∀ (i : Nat) (o : O), h0[i]? = some o → h'[i]? = some o) := by
  obtain ⟨h', ws, u3, u4, u5, e1, e2, e3, e4⟩ := rr_loop (ds := flat rs ++ z) hl hz (k := h0.length) rs [] 0 1000000 (h0 ++ [.lst []]) [] none none none (by omega) hr rfl (Nat.zero_le _) (cell_app _ _) (by rw [List.length_nil]; omega) ⟨rfl, fun i r e => by simp at e⟩
  refine ⟨h', ws, runB_rt rfl ?_, e2, e3, fun i o e => e4 i o (Nat.ne_of_lt (lt_of_get e)) (app_keep e)⟩
  show b_read_records [some (.d (LD (flat rs ++ z))), none, none, none, none, none] h0 = _
  unfold b_read_records L1_read_records
  rw [seq_nx (τ1 := [some (.d (LD (flat rs ++ z))), some (.r h0.length), none, none, none, none]) (h1 := h0 ++ [.lst []]) rfl, seq_nx (τ1 := R6 (flat rs ++ z) h0.length 0 none none none) (h1 := h0 ++ [.lst []]) rfl]
  rw [Nat.zero_add] at e1
  rw [seq_nx e1]
  rfl
end K52

set_option maxHeartbeats 1000000
namespace K52
open PySem PySem.Spec PyProof.Rows L2 Tq
/-! ### the data of a record -/
def Byte (b : Int) : Prop := 0 ≤ b ∧ b < 256
def Good (xs : List Int) : Prop := xs.length ≤ 16391 ∧ ∀ b ∈ xs, Byte b
abbrev R3 (n : Int) (s : Int) : Sl := [some (.d (.int n)), some (.d (.int s)), none]
def fE (n : Int) : A → A
  | .d (.int k) => .d (.int ((n + 7 * k * k) % 256))
  | w => w
def bytes (n : Int) (j : Nat) : List Int := (List.range j).map fun i => (n + 7 * (0 + ((i : Nat) : Int)) * (0 + ((i : Nat) : Int))) % 256
theorem data_if {n s c v : Int} {b : Nat} {m : E A} (hs : 0 ≤ s ∧ s ≤ 16391) (hv : 0 ≤ v ∧ v ≤ 16391) (hb : 0 < c) (e : ∀ s, m (R3 n s) [] = some (.ok (.d (.int v)) [])) {j : Int} : ∃ s', 0 ≤ s' ∧ s' ≤ 16391 ∧ mIf (mTB (mBin (gEq false) (mBin gMod (mBin gDiv (mVar 0) (mC (.int 12))) (mC (.int c))) (mC (.int j)))) (mSet 1 m) mNx (R3 n s) [] = some (.nx (R3 n s') []) := by
  have t := tb_of (eqi_of (dm_of (τ := R3 n s) (h := []) (j := 0) (i := n) (a := 12) (b := c) rfl rfl hb) (show mC (.int j) (R3 n s) [] = some (.ok (.d (.int j)) []) from rfl))
  by_cases z : n / 12 % c = j
  · rw [decide_eq_true z] at t
    refine ⟨v, hv.1, hv.2, ?_⟩
    rw [if_tt t]
    exact set_of (e s)
  · rw [decide_eq_false z] at t
    refine ⟨s, hs.1, hs.2, ?_⟩
    rw [if_ff t]
    rfl
theorem data_ok {n : Int} (hn : 0 ≤ n ∧ n < 2147483647) : ∃ xs, sem__law_data [.d (.int n)] [] = some (.ok (.d (LD xs)) []) ∧ Good xs := by
  obtain ⟨s1, a1, b1, e1⟩ := data_if (n := n) (s := n % 12) (c := 5) (b := 0) (v := 100 + n % 41) (m := mBin (gAdd false) (mC (.int 100)) (mBin gMod (mVar 0) (mC (.int 41)))) (by omega) (by omega) (by decide) (fun s => add_of rfl (mod_of (var_of rfl) rfl (by decide))) (j := 0)
  obtain ⟨s2, a2, b2, e2⟩ := data_if (n := n) (s := s1) (c := 5) (b := 0) (v := 12 + n % 88) (m := mBin (gAdd false) (mC (.int 12)) (mBin gMod (mVar 0) (mC (.int 88)))) (by omega) (by omega) (by decide) (fun s => add_of rfl (mod_of (var_of rfl) rfl (by decide))) (j := 1)
  obtain ⟨v, ev, hv⟩ := pick2 (140 + n % 400) (16376 + n % 16) (n / 420 % 2) [] (by omega) (by omega)
  obtain ⟨s3, a3, b3, e3⟩ := data_if (n := n) (s := s2) (c := 35) (b := 0) (v := v) (m := mBin gGet (mLst false (maCons (mBin (gAdd false) (mC (.int 140)) (mBin gMod (mVar 0) (mC (.int 400)))) (maCons (mBin (gAdd false) (mC (.int 16376)) (mBin gMod (mVar 0) (mC (.int 16)))) maNil))) (mBin gMod (mBin gDiv (mVar 0) (mC (.int 420))) (mC (.int 2)))) (by omega) (by omega) (by decide) (fun s => by
    rw [bin_of (a := .d (.lst [.int (140 + n % 400), .int (16376 + n % 16)])) (h1 := []) (by
      unfold mLst
      rw [cons_of (add_of rfl (mod_of (var_of rfl) rfl (by decide))) (cons_of (r := []) (add_of rfl (mod_of (var_of rfl) rfl (by decide))) rfl), bd_ok]
      rfl) (dm_of rfl rfl (by decide))]
    exact ev) (j := 2)
  have hlen : (bytes n s3.toNat).length = s3.toNat := by unfold bytes; rw [List.length_map, List.length_range]
  refine ⟨bytes n s3.toNat, runB_rt rfl ?_, by rw [hlen]; omega, fun b hb => ?_⟩
  · show b__law_data [some (.d (.int n)), none, none] [] = _
    unfold b__law_data
    rw [seq_nx (τ1 := R3 n (n % 12)) (h1 := []) (set_of (mod_of (var_of rfl) rfl (by decide))), seq_nx e1, seq_nx e2, seq_nx e3]
    refine ret_of ?_
    unfold C1__law_data
    rw [lc_of (ws := rangeA 0 s3.toNat) (h1 := []) (fE n) (mRange1_of (var_of rfl) (by omega) (by omega)) (fun w hw => by
      obtain ⟨i, hi, rfl⟩ := rangeA_mem hw
      refine ⟨[some (.d (.int n)), some (.d (.int s3)), some (.d (.int (0 + ((i : Nat) : Int))))], rfl, ?_⟩
      generalize hk : (0 + ((i : Nat) : Int)) = k
      have hk2 : 0 ≤ k ∧ k < 16400 := by omega
      have h49 : (7 * k).natAbs < 2 ^ 64 := by omega
      exact mod_of (add_of (var_of rfl) (mul_of (mul_of rfl (var_of rfl) (mul_small (by decide) (by omega))) (var_of rfl) (mul_small h49 (by omega)))) rfl (by decide)) (by rw [rangeA_len]; show _ ≤ 16777216; omega)]
    rw [rangeA_map]
    have : ((List.range s3.toNat).map fun i => fE n (.d (.int (0 + ((i : Nat) : Int))))) = LI (bytes n s3.toNat) := by
      unfold LI bytes
      rw [List.map_map, List.map_map]
      rfl
    rw [this]
    exact mkL_i (by rw [hlen]; show _ ≤ 16777216; omega)
  · unfold bytes at hb
    obtain ⟨i, _, rfl⟩ := List.mem_map.mp hb
    exact ⟨Int.emod_nonneg _ (by decide), Int.emod_lt_of_pos _ (by decide)⟩
/-! ### what stops the reader -/
theorem stops_take {P : List Int} (hp : P.length ≤ 20000) {j : Nat} (hj : j < (rec4 P).length) : Stops ((rec4 P).take j) := by
  have hl := leb_len P.length
  have hr : rec4 P = leb P.length ++ (P ++ tail4 (sum7 P)) := by unfold rec4; rw [List.append_assoc]
  have hr4 : (rec4 P).length = (leb P.length).length + (P.length + 4) := by rw [hr, List.length_append, List.length_append]; rfl
  by_cases z : j = 0
  · subst z
    exact .inl List.take_zero
  · by_cases z2 : j < (leb P.length).length
    · have e : (rec4 P).take j = (leb P.length).take j := by rw [hr, List.take_append_of_le_length (by omega)]
      rw [e]
      refine .inr (.inl ⟨fun q => ?_, leb_open (by omega) z2⟩)
      have := congrArg List.length q
      rw [List.length_take, List.length_nil] at this
      omega
    · refine .inr (.inr (.inl ⟨P.length, (P ++ tail4 (sum7 P)).take (j - (leb P.length).length), ?_, by omega, ?_⟩))
      · rw [hr, List.take_append, List.take_of_length_le (by omega)]
      · rw [List.length_take]
        omega
theorem step7_inj {t t' b : Int} (h : 0 ≤ t ∧ t < 4294967296) (h' : 0 ≤ t' ∧ t' < 4294967296) (n : t ≠ t') : step7 t b ≠ step7 t' b := by
  unfold step7
  omega
theorem step7_inj2 {t b b' : Int} (hb : Byte b) (hb' : Byte b') (n : b ≠ b') : step7 t b ≠ step7 t b' := by
  unfold step7 Byte at *
  omega
theorem fold7_inj : ∀ (xs : List Int) {t t' : Int}, 0 ≤ t ∧ t < 4294967296 → 0 ≤ t' ∧ t' < 4294967296 → t ≠ t' → xs.foldl step7 t ≠ xs.foldl step7 t'
  | [], _, _, _, _, n => n
  | b :: r, _, _, h, h', n => fold7_inj r (step7_rng _ _) (step7_rng _ _) (step7_inj h h' n)
theorem fold7_set : ∀ (P : List Int) (i : Nat) (t b b' : Int), 0 ≤ t ∧ t < 4294967296 → P[i]? = some b → Byte b → Byte b' → b' ≠ b → (P.set i b').foldl step7 t ≠ P.foldl step7 t
  | [], i, _, _, _, _, e, _, _, _ => by simp at e
  | x :: r, 0, t, b, b', h, e, hb, hb', n => by
    cases e
    exact fold7_inj r (step7_rng _ _) (step7_rng _ _) (step7_inj2 hb' hb n)
  | x :: r, i + 1, t, b, b', h, e, hb, hb', n => fold7_set r i (step7 t x) b b' (step7_rng _ _) (by simpa using e) hb hb' n
theorem sum7_set {P : List Int} {i : Nat} {b b' : Int} (e : P[i]? = some b) (hb : Byte b) (hb' : Byte b') (n : b' ≠ b) : sum7 (P.set i b') ≠ sum7 P := fold7_set P i 7 b b' (by decide) e hb hb' n
theorem tail4_inj {t t' : Int} (h : 0 ≤ t ∧ t < 4294967296) (h' : 0 ≤ t' ∧ t' < 4294967296) (e : tail4 t = tail4 t') : t = t' := by
  unfold tail4 at e
  simp only [List.cons.injEq, and_true] at e
  obtain ⟨e1, e2, e3, e4⟩ := e
  omega
theorem tail4_byte {t : Int} (h : 0 ≤ t ∧ t < 4294967296) {i : Nat} {b : Int} (e : (tail4 t)[i]? = some b) : Byte b := by
  have hm : b ∈ tail4 t := List.mem_of_getElem? e
  unfold tail4 at hm
  simp only [List.mem_cons, List.not_mem_nil, or_false] at hm
  unfold Byte
  omega
/-- a byte of the record's data or of its sum -/
theorem rec4_byte {P : List Int} (g : Good P) {i : Nat} (hi : (leb P.length).length ≤ i) {b : Int} (e : (rec4 P)[i]? = some b) : Byte b := by
  have hr : rec4 P = leb P.length ++ (P ++ tail4 (sum7 P)) := by unfold rec4; rw [List.append_assoc]
  rw [hr, List.getElem?_append_right hi] at e
  by_cases z : i - (leb P.length).length < P.length
  · rw [List.getElem?_append_left z] at e
    exact g.2 b (List.mem_of_getElem? e)
  · rw [List.getElem?_append_right (by omega)] at e
    exact tail4_byte (sum7_rng P) e
theorem set_right {α : Type} (xs ys : List α) {i : Nat} (h : xs.length ≤ i) (a : α) : (xs ++ ys).set i a = xs ++ ys.set (i - xs.length) a := List.set_append_right i a h
/-- one byte of the data -/
theorem stops_data {P w : List Int} (g : Good P) {i : Nat} {b b' : Int} (hi : (leb P.length).length ≤ i) (hi2 : i < (leb P.length).length + P.length) (e : (rec4 P)[i]? = some b) (hb' : Byte b') (n : b' ≠ b) : Stops ((rec4 P).set i b' ++ w) := by
  have hr : rec4 P = leb P.length ++ (P ++ tail4 (sum7 P)) := by unfold rec4; rw [List.append_assoc]
  have hb := rec4_byte g hi e
  rw [hr, List.getElem?_append_right hi, List.getElem?_append_left (by omega)] at e
  have hs : (rec4 P).set i b' = leb P.length ++ (P.set (i - (leb P.length).length) b' ++ tail4 (sum7 P)) := by
    rw [hr, set_right _ _ hi, List.set_append_left _ _ (by omega)]
  refine .inr (.inr (.inr ⟨P.set (i - (leb P.length).length) b', tail4 (sum7 P), w, ?_, by rw [List.length_set]; have := g.1; omega, rfl, fun q => ?_⟩))
  · rw [hs, List.length_set, List.append_assoc, List.append_assoc]
  · exact sum7_set e hb hb' n (tail4_inj (sum7_rng _) (sum7_rng _) q).symm
/-- bytes of the sum -/
theorem stops_tail {P w q : List Int} (g : Good P) (hq : q.length = 4) (n : q ≠ tail4 (sum7 P)) : Stops ((leb P.length ++ (P ++ q)) ++ w) := by
  refine .inr (.inr (.inr ⟨P, q, w, by rw [List.append_assoc, List.append_assoc], by have := g.1; omega, hq, n⟩))
theorem stops_one {P w : List Int} (g : Good P) {i : Nat} {b b' : Int} (hi : (leb P.length).length ≤ i) (e : (rec4 P)[i]? = some b) (hb' : Byte b') (n : b' ≠ b) : Stops ((rec4 P).set i b' ++ w) := by
  by_cases z : i < (leb P.length).length + P.length
  · exact stops_data g hi z e hb' n
  · have hr : rec4 P = leb P.length ++ (P ++ tail4 (sum7 P)) := by unfold rec4; rw [List.append_assoc]
    have hs : (rec4 P).set i b' = leb P.length ++ (P ++ (tail4 (sum7 P)).set (i - (leb P.length).length - P.length) b') := by
      rw [hr, set_right _ _ hi, set_right _ _ (by omega)]
    rw [hs]
    refine stops_tail g (by rw [List.length_set]; rfl) fun q => ?_
    rw [hr, List.getElem?_append_right hi, List.getElem?_append_right (by omega)] at e
    have hlt := (List.getElem?_eq_some_iff.mp e).1
    have := congrArg (fun l => l[i - (leb P.length).length - P.length]?) q
    rw [List.getElem?_set_self hlt, e] at this
    exact n (by simpa using this)
/-- two bytes of the sum -/
theorem stops_two {P w : List Int} (g : Good P) {i i2 : Nat} {b b' b2 : Int} (hi : (leb P.length).length + P.length ≤ i) (hi2 : (leb P.length).length + P.length ≤ i2) (ne : i ≠ i2) (e : (rec4 P)[i]? = some b) (n : b' ≠ b) : Stops (((rec4 P).set i b').set i2 b2 ++ w) := by
  have hr : rec4 P = leb P.length ++ (P ++ tail4 (sum7 P)) := by unfold rec4; rw [List.append_assoc]
  have hs : ((rec4 P).set i b').set i2 b2 = leb P.length ++ (P ++ ((tail4 (sum7 P)).set (i - (leb P.length).length - P.length) b').set (i2 - (leb P.length).length - P.length) b2) := by
    rw [hr, set_right _ _ (by omega), set_right _ _ (by omega), set_right _ _ (by omega), set_right _ _ (by omega)]
  rw [hs]
  refine stops_tail g (by rw [List.length_set, List.length_set]; rfl) fun q => ?_
  rw [hr, List.getElem?_append_right (by omega), List.getElem?_append_right (by omega)] at e
  have hlt := (List.getElem?_eq_some_iff.mp e).1
  have := congrArg (fun l => l[i - (leb P.length).length - P.length]?) q
  rw [List.getElem?_set_ne (by omega), List.getElem?_set_self hlt, e] at this
  exact n (by simpa using this)
end K52

set_option maxHeartbeats 1000000
namespace K52
open PySem PySem.Spec PyProof.Rows L2 Tq
theorem draw_ok {ns : List Int} (hl : ns.length ≤ 63) (hb : ∀ z ∈ ns, Builtin.Int.intBits z ≤ 1048576) {k : Int} (hk : 0 ≤ k) (hk2 : k < 1000) :
    ∃ v h', sem__law_draw [.d (.scr ns), .d (.int k)] [] = some (.ok (.d (.int v)) h') ∧ 0 ≤ v ∧ v < 2147483647 := by
  by_cases hn : ns = []
  · subst hn
    refine ⟨k * 5 % 7, [], runB_rt rfl ?_, by omega, by omega⟩
    show b__law_draw [some (.d (.scr [])), some (.d (.int k)), none, none, none] [] = _
    unfold b__law_draw
    rw [seq_rt (w := .d (.int (k * 5 % 7))) (h1 := []) (by
      rw [if_tt (h1 := []) rfl]
      refine ret_of ?_
      rw [bin_of (show mBin gMul (mVar 1) (mC (.int 5)) [some (.d (.scr [])), some (.d (.int k)), none, none, none] [] = some (.ok (.d (.int (k * 5))) []) by
        rw [bin_of (var_of rfl) rfl]
        exact gMul_ok _ (mul_small (by omega) (by decide))) rfl]
      exact gMod_ok _ (by decide))]
  · have hlen : 0 < ns.length := List.length_pos_iff.mpr hn
    have hlc : (0 : Int) < (ns.length : Int) := by omega
    generalize hN : (ns.length : Int) = N at hlc
    have hN2 : N ≤ 63 := by omega
    have hm0 : 0 ≤ k % N := Int.emod_nonneg _ (by omega)
    have hm1 : k % N < N := Int.emod_lt_of_pos _ hlc
    have hat := atI_in (xs := ns) hm0 (by omega)
    have hmem : ns[(k % N).toNat]'(by omega) ∈ ns := List.getElem_mem _
    generalize hcell : ns[(k % N).toNat]'(by omega) = cell at hat hmem
    have hbits := bits_log (hb cell hmem)
    have ht0 : 0 ≤ k / N := Int.ediv_nonneg hk (by omega)
    have ht1 : k / N ≤ k := Int.ediv_le_self _ hk
    have s1 : ∀ (τ : Sl) (h : Hq), τ[0]? = some (some (.d (.scr ns))) → mUn gLen (mVar 0) τ h = some (.ok (.d (.int N)) h) := fun τ h e => by
      rw [un_of (var_of e), ← hN]
      rfl
    have e1 : mSet 2 (mUn gInt (mBin gGet (mVar 0) (mBin gMod (mVar 1) (mUn gLen (mVar 0))))) [some (.d (.scr ns)), some (.d (.int k)), none, none, none] [] = some (.nx [some (.d (.scr ns)), some (.d (.int k)), some (.d (.int cell)), none, none] []) := by
      refine set_of ?_
      rw [un_of (a := .d (.int cell)) (h1 := [])]
      · rfl
      · rw [bin_of (a := .d (.scr ns)) (b := .d (.int (k % N))) (h1 := []) (h2 := []) (var_of rfl) (by
          rw [bin_of (var_of rfl) (s1 _ _ rfl)]
          exact gMod_ok _ hlc)]
        show gIx (.d (.scr ns)) (.d (.int (k % N))) [] = _
        show (match atI ns (k % N) with | some n => some (Rs.ok (A.d (D.int n)) []) | none => none) = _
        rw [hat]
    have e2 : mSet 3 (mBin gDiv (mVar 1) (mUn gLen (mVar 0))) [some (.d (.scr ns)), some (.d (.int k)), some (.d (.int cell)), none, none] [] = some (.nx [some (.d (.scr ns)), some (.d (.int k)), some (.d (.int cell)), some (.d (.int (k / N))), none] []) := by
      refine set_of ?_
      rw [bin_of (var_of rfl) (s1 _ _ rfl)]
      exact gDiv_ok _ (divOk_of hlc (b := 6) (by omega) (by decide) (by decide))
    have e0 : mIf (mNotT (mTru (mVar 0))) (mRet (mBin gMod (mBin gMul (mVar 1) (mC (.int 5))) (mC (.int 7)))) mNx [some (.d (.scr ns)), some (.d (.int k)), none, none, none] [] = some (.nx [some (.d (.scr ns)), some (.d (.int k)), none, none, none] []) := by
      have ht : mNotT (mTru (mVar 0)) [some (.d (.scr ns)), some (.d (.int k)), none, none, none] [] = some (.ok false []) := by
        have : ns.isEmpty = false := by
          cases ns with
          | nil => exact absurd rfl hn
          | cons _ _ => rfl
        show some (Rs.ok (!(!ns.isEmpty)) []) = _
        rw [this]
        rfl
      rw [if_ff ht]
      rfl
    by_cases hc : 1000000000000000000 ≤ cell
    · have hT : mTB (mBin gGe (mVar 2) (mC (.int 1000000000000000000))) [some (.d (.scr ns)), some (.d (.int k)), some (.d (.int cell)), some (.d (.int (k / N))), none] [] = some (.ok true []) := by
        refine tb_of ?_
        rw [bin_of (var_of rfl) rfl]
        show some (Rs.ok (A.d (D.bl (decide ((1000000000000000000 : Int) ≤ cell)))) []) = _
        rw [decide_eq_true hc]
      obtain ⟨τ', h', e3, ⟨c, v4, rfl, hc0⟩, rfl⟩ := forL_inv (g := mgName 4) (mb := B1__law_draw) (ws := rangeA 0 (if (60 : Int) < k / N then 60 else k / N).toNat)
        (fun n τ h => (∃ c v4, τ = [some (.d (.scr ns)), some (.d (.int k)), some (.d (.int c)), some (.d (.int (k / N))), v4] ∧ 0 ≤ c) ∧ h = [])
        (τ := [some (.d (.scr ns)), some (.d (.int k)), some (.d (.int cell)), some (.d (.int (k / N))), none]) (h := []) ⟨⟨cell, none, rfl, by omega⟩, rfl⟩
        (fun n w τ h hw hi => by
          obtain ⟨⟨c, v4, rfl, hc0⟩, rfl⟩ := hi
          refine ⟨_, [some (.d (.scr ns)), some (.d (.int k)), some (.d (.int (c / 100003))), some (.d (.int (k / N))), some w], [], rfl, .inl ?_, ⟨_, _, rfl, Int.ediv_nonneg hc0 (by decide)⟩, rfl⟩
          show B1__law_draw [some (.d (.scr ns)), some (.d (.int k)), some (.d (.int c)), some (.d (.int (k / N))), some w] [] = _
          unfold B1__law_draw
          rw [set_of (w := .d (.int (c / 100003))) (h1 := []) (by
            rw [bin_of (var_of rfl) rfl]
            exact gDiv_ok _ rfl)]
          rfl) (by rw [rangeA_len]; show _ ≤ 16777216; split <;> omega)
      refine ⟨c % 100003, [], runB_rt rfl ?_, by omega, by omega⟩
      show b__law_draw [some (.d (.scr ns)), some (.d (.int k)), none, none, none] [] = _
      unfold b__law_draw
      rw [seq_nx e0, seq_nx e1, seq_nx e2]
      rw [seq_rt (w := .d (.int (c % 100003))) (h1 := []) (by
        rw [if_tt hT]
        rw [seq_nx (τ1 := [some (.d (.scr ns)), some (.d (.int k)), some (.d (.int c)), some (.d (.int (k / N))), v4]) (h1 := []) (by
          unfold L1__law_draw
          rw [mFor_of (nx := nxL (rangeA 0 (if (60 : Int) < k / N then 60 else k / N).toNat)) (h1 := []) (mRange1_of (j := if (60 : Int) < k / N then 60 else k / N) (by
            rw [bin_of (var_of rfl) rfl]
            rfl) (by split <;> omega) (by split <;> omega))]
          exact e3)]
        refine ret_of ?_
        rw [bin_of (var_of rfl) rfl]
        exact gMod_ok _ (by decide))]
    · have hT : mTB (mBin gGe (mVar 2) (mC (.int 1000000000000000000))) [some (.d (.scr ns)), some (.d (.int k)), some (.d (.int cell)), some (.d (.int (k / N))), none] [] = some (.ok false []) := by
        refine tb_of ?_
        rw [bin_of (var_of rfl) rfl]
        show some (Rs.ok (A.d (D.bl (decide ((1000000000000000000 : Int) ≤ cell)))) []) = _
        rw [decide_eq_false hc]
      refine ⟨(cell * 48271 + k * 69621 + 13) % 2147483647 * 16807 % 2147483629, [], runB_rt rfl ?_, by omega, by omega⟩
      show b__law_draw [some (.d (.scr ns)), some (.d (.int k)), none, none, none] [] = _
      unfold b__law_draw
      rw [seq_nx e0, seq_nx e1, seq_nx e2]
      generalize hτ : ([some (.d (.scr ns)), some (.d (.int k)), some (.d (.int cell)), some (.d (.int (k / N))), none] : Sl) = τ
      have v1 : τ[1]? = some (some (.d (.int k))) := by rw [← hτ]; rfl
      have v2 : τ[2]? = some (some (.d (.int cell))) := by rw [← hτ]; rfl
      rw [hτ] at hT
      rw [seq_nx (τ1 := τ) (h1 := []) (by rw [if_ff hT]; rfl)]
      refine ret_of ?_
      have a1 : mBin gMul (mVar 2) (mC (.int 48271)) τ [] = some (.ok (.d (.int (cell * 48271))) []) := by
        rw [bin_of (var_of v2) rfl]
        refine gMul_ok _ ?_
        unfold mulOk
        refine decide_eq_true ?_
        have : (48271 : Int).natAbs.log2 < 16 := by decide
        omega
      have a2 : mBin gMul (mVar 1) (mC (.int 69621)) τ [] = some (.ok (.d (.int (k * 69621))) []) := by
        rw [bin_of (var_of v1) rfl]
        exact gMul_ok _ (mul_small (by omega) (by decide))
      have a3 : mBin (gAdd false) (mBin (gAdd false) (mBin gMul (mVar 2) (mC (.int 48271))) (mBin gMul (mVar 1) (mC (.int 69621)))) (mC (.int 13)) τ [] = some (.ok (.d (.int (cell * 48271 + k * 69621 + 13))) []) := by
        rw [bin_of (a := .d (.int (cell * 48271 + k * 69621))) (h1 := []) (by rw [bin_of a1 a2]; rfl) rfl]
        rfl
      have a4 : mBin gMod (mBin (gAdd false) (mBin (gAdd false) (mBin gMul (mVar 2) (mC (.int 48271))) (mBin gMul (mVar 1) (mC (.int 69621)))) (mC (.int 13))) (mC (.int 2147483647)) τ [] = some (.ok (.d (.int ((cell * 48271 + k * 69621 + 13) % 2147483647))) []) := by
        rw [bin_of a3 rfl]
        exact gMod_ok _ (by decide)
      rw [bin_of (a := .d (.int ((cell * 48271 + k * 69621 + 13) % 2147483647 * 16807))) (h1 := []) (by
        rw [bin_of a4 rfl]
        exact gMul_ok _ (mul_small (by omega) (by decide))) rfl]
      exact gMod_ok _ (by decide)
theorem drawp_ok {ns : List Int} (hl : ns.length ≤ 63) (hb : ∀ z ∈ ns, Builtin.Int.intBits z ≤ 1048576) {k : Int} (hk : 0 ≤ k) (hk2 : k < 1000) {τ : Sl} {h : Hq} {m : E A} (e0 : τ[0]? = some (some (.d (.scr ns)))) (e1 : m τ h = some (.ok (.d (.int k)) h)) :
    ∃ v, mCallP sem__law_draw (lenIs 2 (maCons (mVar 0) (maCons m maNil))) τ h = some (.ok (.d (.int v)) h) ∧ 0 ≤ v ∧ v < 2147483647 := by
  obtain ⟨v, h', e, r⟩ := draw_ok hl hb hk hk2
  refine ⟨v, callP_of (ds := [.scr ns, .int k]) (len_of (n := 2) (cons_of (var_of e0) (cons_of (r := []) e1 rfl)) rfl) e (vw_d _ _ _), r⟩
theorem datap_ok {n : Int} (hn : 0 ≤ n ∧ n < 2147483647) : ∃ xs, Good xs ∧ ∀ (τ : Sl) (h : Hq) (m : E A), m τ h = some (.ok (.d (.int n)) h) → mCallP sem__law_data (lenIs 1 (maCons m maNil)) τ h = some (.ok (.d (LD xs)) h) := by
  obtain ⟨xs, e, g⟩ := data_ok hn
  exact ⟨xs, g, fun τ h m em => callP_of (ds := [.int n]) (len_of (n := 1) (cons_of (r := []) em rfl) rfl) e (vw_d _ _ _)⟩
theorem gAdd_cl {o : Bool} {h : Hq} {k : Nat} {xs : List Int} (e : h[k]? = some (.lst (LI xs))) (ys : List Int) : gAdd o (.r k) (.d (LD ys)) h = mkL o (LI (xs ++ ys)) h := by
  rw [LI_app]
  unfold gAdd
  simp only [tupOf, lstOf, e]
  rfl
theorem gAdd_lc {o : Bool} {h : Hq} {k : Nat} {xs ys : List Int} (e : h[k]? = some (.lst (LI ys))) : gAdd o (.d (LD xs)) (.r k) h = mkL o (LI (xs ++ ys)) h := by
  rw [LI_app]
  unfold gAdd
  simp only [tupOf, lstOf, e]
  rfl
def sizes (rs : List (List Int)) : List Int := (List.range (rs.length + 1)).map fun i => ((flat (rs.take i)).length : Int)
theorem sizes_snoc (rs : List (List Int)) (r : List Int) : sizes (rs ++ [r]) = sizes rs ++ [((flat (rs ++ [r])).length : Int)] := by
  unfold sizes
  rw [List.length_append, List.length_singleton, List.range_succ, List.map_append]
  congr 1
  · refine List.map_congr_left fun i hi => ?_
    have := List.mem_range.mp hi
    rw [List.take_append_of_le_length (by omega)]
  · rw [List.map_singleton, List.take_of_length_le (by rw [List.length_append, List.length_singleton]; exact Nat.le_refl _)]
theorem sizes_len (rs : List (List Int)) : (sizes rs).length = rs.length + 1 := by unfold sizes; rw [List.length_map, List.length_range]
theorem sizes_get {rs : List (List Int)} {i : Nat} (hi : i ≤ rs.length) : (sizes rs)[i]? = some ((flat (rs.take i)).length : Int) := by
  unfold sizes
  rw [List.getElem?_map, List.getElem?_range (by omega)]
  rfl
theorem flat_len : ∀ (rs : List (List Int)), (∀ r ∈ rs, r.length ≤ 16391) → (flat rs).length ≤ 16400 * rs.length
  | [], _ => Nat.le_refl _
  | r :: rs, h => by
    rw [flat_cons, List.length_append, List.length_cons]
    have h1 := flat_len rs fun q hq => h q (List.mem_cons_of_mem _ hq)
    have h2 := h r (List.mem_cons_self ..)
    have h3 := rec4_len r
    omega
def RSC (rs : List (List Int)) : O := .lst (rs.map fun r => .d (LD r))
abbrev R19 (ns : List Int) (rs : List (List Int)) (a4 a5 a6 a7 a8 a9 a10 a11 : Option A) (tl : Sl) : Sl := some (.d (.scr ns)) :: some (.r 0) :: some (.d (LD (flat rs))) :: some (.r 1) :: a4 :: a5 :: a6 :: a7 :: a8 :: a9 :: a10 :: a11 :: tl
abbrev TL : Sl := [none, none, none, none, none, none, none]
structure Base (h : Hq) (rs : List (List Int)) : Prop where
  r : h[0]? = some (RSC rs)
  s : h[1]? = some (.lst (LI (sizes rs)))
  g : ∀ r ∈ rs, Good r
theorem Base.keep {h h' : Hq} {rs : List (List Int)} (b : Base h rs) (p : ∀ (i : Nat) (o : O), h[i]? = some o → h'[i]? = some o) : Base h' rs := ⟨p _ _ b.r, p _ _ b.s, b.g⟩
def Inv52 (ns : List Int) (n : Nat) (τ : Sl) (h : Hq) : Prop := ∃ rs a4 a5 a6 a7 a8 a9 a10 a11, τ = R19 ns rs a4 a5 a6 a7 a8 a9 a10 a11 TL ∧ Base h rs ∧ rs.length = n
theorem body_ok {ns : List Int} (hl : ns.length ≤ 63) (hb : ∀ z ∈ ns, Builtin.Int.intBits z ≤ 1048576) {n : Nat} {w : A} {τ : Sl} {h : Hq} (hn : n < 13) (hw : w = .d (.int (0 + ((n : Nat) : Int)))) (i : Inv52 ns n τ h) :
    ∃ τ1 τ2 h2, mgName 4 w τ h = some τ1 ∧ (B2_law τ1 h = some (.nx τ2 h2) ∨ B2_law τ1 h = some (.ct τ2 h2)) ∧ Inv52 ns (n + 1) τ2 h2 := by
  obtain ⟨rs, a4, a5, a6, a7, a8, a9, a10, a11, rfl, B, hrs⟩ := i
  have hL : LIM = 16777216 := rfl
  generalize hk : (0 + ((n : Nat) : Int)) = k at hw
  subst hw
  obtain ⟨v, ev, hv⟩ := drawp_ok hl hb (k := k) (by omega) (by omega) (τ := R19 ns rs (some (.d (.int k))) a5 a6 a7 a8 a9 a10 a11 TL) (h := h) (m := mVar 4) rfl rfl
  obtain ⟨r, g, er⟩ := datap_ok hv
  have hfl := flat_len rs fun q hq => (B.g q hq).1
  have hr4 := rec4_len r
  have g1 := g.1
  have l0 := lt_of_get B.r
  have l1 := lt_of_get B.s
  suffices G : ∃ b9 b10 h2, B2_law (R19 ns rs (some (.d (.int k))) a5 a6 a7 a8 a9 a10 a11 TL) h = some (.nx (R19 ns (rs ++ [r]) (some (.d (.int k))) (some (.d (LD r))) (some (.d (LD r))) (some (.d (LD (rec4 r)))) (some (.d (.int (sum7 r)))) b9 b10 (some (.d (LD (tail4 (sum7 r))))) TL) h2) ∧ Base h2 (rs ++ [r]) by
    obtain ⟨b9, b10, h2, e, B2⟩ := G
    exact ⟨_, _, h2, rfl, .inl e, rs ++ [r], _, _, _, _, _, _, _, _, rfl, B2, by rw [List.length_append, hrs]; rfl⟩
  unfold B2_law
  rw [seq_nx (τ1 := R19 ns rs (some (.d (.int k))) (some (.d (LD r))) a6 a7 a8 a9 a10 a11 TL) (h1 := h) (set_of (er _ _ _ ev))]
  rw [seq_nx (append_of (k := 0) (ws := rs.map fun r => .d (LD r)) (w := .d (LD r)) (var_of rfl) B.r (var_of rfl) (by rw [List.length_map]; omega))]
  have c0 : (h.set 0 (.lst ((rs.map fun r => .d (LD r)) ++ [A.d (LD r)])))[0]? = some (RSC (rs ++ [r])) := by
    rw [List.getElem?_set_self l0]
    unfold RSC
    rw [List.map_append]
    rfl
  have c1 : (h.set 0 (.lst ((rs.map fun r => .d (LD r)) ++ [A.d (LD r)])))[1]? = some (.lst (LI (sizes rs))) := by rw [List.getElem?_set_ne (by decide)]; exact B.s
  generalize h.set 0 (.lst ((rs.map fun r => .d (LD r)) ++ [A.d (LD r)])) = h2 at c0 c1
  rw [seq_nx (τ1 := R19 ns rs (some (.d (.int k))) (some (.d (LD r))) (some (.d (LD r))) a7 a8 a9 a10 a11 TL) (h1 := h2) (set_of (by rw [un_of (var_of rfl)]; exact mkL_i (by omega)))]
  rw [seq_nx (τ1 := R19 ns rs (some (.d (.int k))) (some (.d (LD r))) (some (.d (LD r))) a7 a8 a9 a10 a11 TL) (h1 := h2) (by
    rw [if_ff (h1 := h2) (by
      rw [tb_of (nei_of (i := sum7 r) (j := sum7 r) (callP_of (ds := [LD r]) (len_of (n := 1) (cons_of (r := []) (var_of rfl) rfl) rfl) (checksum_ok (by omega)) (vw_d _ _ _)) (callP_of (ds := [LD r]) (len_of (n := 1) (cons_of (r := []) (var_of rfl) rfl) rfl) (lsum_ok (by omega)) (vw_d _ _ _))), decide_eq_true rfl]
      rfl)]
    rfl)]
  obtain ⟨kw, hw, w1, w2⟩ := write_record_ok (xs := r) (by omega)
  rw [seq_nx (τ1 := R19 ns rs (some (.d (.int k))) (some (.d (LD r))) (some (.d (LD r))) (some (.d (LD (rec4 r)))) a8 a9 a10 a11 TL) (h1 := h2) (set_of (callP_of (ds := [LD r]) (len_of (n := 1) (cons_of (r := []) (var_of rfl) rfl) rfl) w1 (view_LI w2)))]
  rw [seq_nx (τ1 := R19 ns rs (some (.d (.int k))) (some (.d (LD r))) (some (.d (LD r))) (some (.d (LD (rec4 r)))) a8 a9 a10 a11 TL) (h1 := h2) (by
    rw [if_ff (h1 := h2) (tb_of (eqv_of (var_of rfl) (var_of rfl) (vw_d _ _ _) (vw_d _ _ _) (by rw [eqD_LD, decide_eq_true rfl]; rfl)))]
    rfl)]
  rw [seq_nx (τ1 := R19 ns rs (some (.d (.int k))) (some (.d (LD r))) (some (.d (LD r))) (some (.d (LD (rec4 r)))) (some (.d (.int (sum7 r)))) a9 a10 a11 TL) (h1 := h2) (set_of (callP_of (ds := [LD r]) (len_of (n := 1) (cons_of (r := []) (var_of rfl) rfl) rfl) (lsum_ok (by omega)) (vw_d _ _ _)))]
  rw [seq_nx (τ1 := R19 ns rs (some (.d (.int k))) (some (.d (LD r))) (some (.d (LD r))) (some (.d (LD (rec4 r)))) (some (.d (.int (sum7 r)))) (some (.r h2.length)) a10 a11 TL) (h1 := h2 ++ [.lst []]) (set_of rfl)]
  have c2 := cell_app h2 (.lst [])
  have d0 : (h2 ++ [O.lst []])[0]? = some (RSC (rs ++ [r])) := app_keep c0
  have d1 : (h2 ++ [O.lst []])[1]? = some (.lst (LI (sizes rs))) := app_keep c1
  have k0 := lt_of_get c0
  have k1 := lt_of_get c1
  generalize hkk : h2.length = kk at c2 k0 k1
  generalize h2 ++ [O.lst []] = h3 at c2 d0 d1
  rw [seq_nx (τ1 := R19 ns rs (some (.d (.int k))) (some (.d (LD r))) (some (.d (LD r))) (some (.d (LD (rec4 r)))) (some (.d (.int (sum7 r)))) (some (.r kk)) (some (.d (.int (r.length : Nat)))) a11 TL) (h1 := h3) (set_of (by rw [un_of (var_of rfl)]; exact gLen_d r h3))]
  obtain ⟨h4, m, e4, eh, em⟩ := leb_loop (i := 10) (j := 9) (k := kk) (t := W1_law) (mb := B1_law) rfl rfl (n := r.length) (τ := R19 ns rs (some (.d (.int k))) (some (.d (LD r))) (some (.d (LD r))) (some (.d (LD (rec4 r)))) (some (.d (.int (sum7 r)))) (some (.r kk)) (some (.d (.int (r.length : Nat)))) a11 TL) (h := h3) (by omega) (by decide) rfl rfl c2
  unfold L1_law
  rw [seq_nx (τ1 := R19 ns rs (some (.d (.int k))) (some (.d (LD r))) (some (.d (LD r))) (some (.d (LD (rec4 r)))) (some (.d (.int (sum7 r)))) (some (.r kk)) (some (.d (.int m))) a11 TL) (h1 := h4) e4]
  have kkl := lt_of_get c2
  have d2 : h4[kk]? = some (.lst (LI (leb r.length).dropLast)) := by rw [eh]; exact List.getElem?_set_self kkl
  have f0 : h4[0]? = some (RSC (rs ++ [r])) := by rw [eh, List.getElem?_set_ne (by omega)]; exact d0
  have f1 : h4[1]? = some (.lst (LI (sizes rs))) := by rw [eh, List.getElem?_set_ne (by omega)]; exact d1
  have hll := leb_len r.length
  rw [seq_nx (append_of (k := kk) (ws := LI (leb r.length).dropLast) (w := .d (.int m)) (var_of rfl) d2 (var_of rfl) (by rw [LI_len, List.length_dropLast]; omega))]
  have g2 : (h4.set kk (.lst (LI (leb r.length).dropLast ++ [A.d (.int m)])))[kk]? = some (.lst (LI (leb r.length))) := by
    rw [List.getElem?_set_self (lt_of_get d2)]
    show some (O.lst (LI (leb r.length).dropLast ++ LI [m])) = _
    rw [← LI_app, em]
  have g0 : (h4.set kk (.lst (LI (leb r.length).dropLast ++ [A.d (.int m)])))[0]? = some (RSC (rs ++ [r])) := by rw [List.getElem?_set_ne (by omega)]; exact f0
  have g1' : (h4.set kk (.lst (LI (leb r.length).dropLast ++ [A.d (.int m)])))[1]? = some (.lst (LI (sizes rs))) := by rw [List.getElem?_set_ne (by omega)]; exact f1
  generalize h4.set kk (.lst (LI (leb r.length).dropLast ++ [A.d (.int m)])) = h5 at g2 g0 g1'
  rw [seq_nx (τ1 := R19 ns rs (some (.d (.int k))) (some (.d (LD r))) (some (.d (LD r))) (some (.d (LD (rec4 r)))) (some (.d (.int (sum7 r)))) (some (.r kk)) (some (.d (.int m))) (some (.d (LD (tail4 (sum7 r))))) TL) (h1 := h5) (set_of (tail_ok (i := 8) (t := sum7 r) rfl))]
  have es : mBin (gAdd false) (mBin (gAdd false) (mVar 9) (mVar 5)) (mVar 11) (R19 ns rs (some (.d (.int k))) (some (.d (LD r))) (some (.d (LD r))) (some (.d (LD (rec4 r)))) (some (.d (.int (sum7 r)))) (some (.r kk)) (some (.d (.int m))) (some (.d (LD (tail4 (sum7 r))))) TL) h5 = some (.ok (.d (LD (rec4 r))) h5) := by
    rw [bin_of (a := .d (LD (leb r.length ++ r))) (h1 := h5) (by
      rw [bin_of (var_of rfl) (var_of rfl), gAdd_cl g2]
      exact mkL_i (by rw [List.length_append]; omega)) (var_of rfl), gAdd_ll]
    exact mkL_i (by have := hr4.2; unfold rec4 at this; omega)
  rw [seq_nx (τ1 := R19 ns rs (some (.d (.int k))) (some (.d (LD r))) (some (.d (LD r))) (some (.d (LD (rec4 r)))) (some (.d (.int (sum7 r)))) (some (.r kk)) (some (.d (.int m))) (some (.d (LD (tail4 (sum7 r))))) TL) (h1 := h5) (by
    rw [if_ff (h1 := h5) (tb_of (eqv_of (var_of rfl) es (vw_d _ _ _) (vw_d _ _ _) (by rw [eqD_LD, decide_eq_true rfl]; rfl)))]
    rfl)]
  rw [seq_nx (τ1 := R19 ns (rs ++ [r]) (some (.d (.int k))) (some (.d (LD r))) (some (.d (LD r))) (some (.d (LD (rec4 r)))) (some (.d (.int (sum7 r)))) (some (.r kk)) (some (.d (.int m))) (some (.d (LD (tail4 (sum7 r))))) TL) (h1 := h5) (set_of (by
    rw [bin_of (var_of rfl) (var_of rfl), gAdd_ll, ← flat_snoc]
    exact mkL_i (by rw [flat_snoc, List.length_append]; omega)))]
  refine ⟨_, _, _, append_of (k := 1) (ws := LI (sizes rs)) (w := .d (.int ((flat (rs ++ [r])).length : Nat))) (var_of rfl) g1' (by rw [un_of (var_of rfl)]; exact gLen_d _ _) (by rw [LI_len, sizes_len]; omega), ?_, ?_, ?_⟩
  · rw [List.getElem?_set_ne (by decide)]; exact g0
  · rw [List.getElem?_set_self (lt_of_get g1'), sizes_snoc, LI_app]
    rfl
  · intro q hq
    rcases List.mem_append.mp hq with hq | hq
    · exact B.g q hq
    · rw [List.mem_singleton.mp hq]
      exact g
end K52

set_option maxHeartbeats 1000000
namespace K52
open PySem PySem.Spec PyProof.Rows L2 Tq
theorem callO_of {sem : Sem1} {mr : E (List A)} {τ : Sl} {h h1 h' : Hq} {ds : List D} {k : Nat} {es : List D} (e : mr τ h = some (.ok (ds.map A.d) h1)) (e2 : sem (ds.map A.d) [] = some (.ok (.r k) h')) (e3 : h'[k]? = some (.lst (es.map A.d))) : mCallO sem mr τ h = some (.ok (.r h1.length) (h1 ++ [.lst (es.map A.d)])) := by
  unfold mCallO
  rw [e, bd_ok]
  unfold callO
  rw [mapMn_d _ _ (vw_d 32 h1)]
  dsimp only
  rw [e2]
  dsimp only
  rw [e3]
  dsimp only
  rw [mapMn_d _ _ (vwA_d k 32 h'), allD_map]
  rfl
theorem setI_of {τ : Sl} {h : Hq} {i j k p : Nat} {xs : List Int} {z : Int} {mv : E A} (ei : τ[i]? = some (some (.r k))) (ej : τ[j]? = some (some (.d (.int (p : Nat))))) (ev : mv τ h = some (.ok (.d (.int z)) h)) (e : h[k]? = some (.lst (LI xs))) (hp : p < xs.length) : mSetI true (mVar i) (mVar j) mv τ h = some (.nx τ (h.set k (.lst (LI (xs.set p z))))) := by
  unfold mSetI
  rw [ev, sb_ok, var_of ei, sb_ok, var_of ej, sb_ok, if_pos (by unfold isLst; dsimp only; rw [e])]
  unfold putA
  dsimp only
  rw [e]
  dsimp only
  have : ixN (LI xs).length (p : Int) = some p := by
    unfold ixN
    rw [LI_len, if_pos (Int.natCast_nonneg p), if_pos (by omega), Int.toNat_natCast]
  rw [this]
  dsimp only
  rw [LI_set]
abbrev X19 (ns : List Int) (rs : List (List Int)) (a4 a5 a6 a7 a8 a9 a10 a11 : Option A) (v : Int) (a13 a14 a15 : Option A) : Sl := R19 ns rs a4 a5 a6 a7 a8 a9 a10 a11 [some (.d (.int v)), a13, a14, a15, none, none, none]
def xT : E Bool := (mAndT (mTB (mBin gGe (mVar 14) (mBin gSub (mUn gLen (mVar 13)) (mC (.int 4))))) (mTB (mBin (gEq false) (mBin gMod (mBin gDiv (mVar 12) (mC (.int 13))) (mC (.int 2))) (mC (.int 0)))))
def xS : MS := (mSeq (mSet 15 (mBin gSub (mBin gSub (mUn gLen (mVar 13)) (mC (.int 1))) (mBin gMod (mBin gSub (mUn gLen (mVar 13)) (mVar 14)) (mC (.int 4)))))
 (mSetI true (mVar 13) (mVar 15) (mBin gMod (mBin (gAdd false) (mBin (gAdd false) (mBin gGet (mVar 13) (mVar 15)) (mC (.int 1))) (mBin gMod (mBin gDiv (mVar 12) (mC (.int 37))) (mC (.int 255)))) (mC (.int 256)))))
def xW : MS := (mSet 13 (mBin (gAdd true) (mVar 13) (mCallP sem_write_record (lenIs 1 (maCons (mLst false (maCons (mBin gMod (mVar 12) (mC (.int 256))) (maCons (mC (.int 7)) maNil))) maNil)))))
def xM : MS := (mSeq (mSet 14 (mBin gSub (mBin gSub (mUn gLen (mVar 13)) (mC (.int 1))) (mBin gMod (mBin gDiv (mVar 12) (mC (.int 7))) (mBin (gAdd false) (mC (.int 4)) (mUn gLen (mCallP sem__law_data (lenIs 1 (maCons (mBin gDiv (mVar 12) (mC (.int 3))) maNil))))))))
 (mSeq (mSetI true (mVar 13) (mVar 14) (mBin gMod (mBin (gAdd false) (mBin (gAdd false) (mBin gGet (mVar 13) (mVar 14)) (mC (.int 1))) (mBin gMod (mBin gDiv (mVar 12) (mC (.int 31))) (mC (.int 255)))) (mC (.int 256))))
 (mSeq (mIf xT xS mNx) xW)))
def xE : MS := (mIf (mTB (mBin (gEq false) (mBin gMod (mVar 12) (mC (.int 3))) (mC (.int 1)))) (mSet 13 (mSl true (mVar 13) moN (moS (mBin gMod (mBin gDiv (mVar 12) (mC (.int 7))) (mUn gLen (mVar 13)))))) (mIf (mTB (mBin (gEq false) (mBin gMod (mVar 12) (mC (.int 3))) (mC (.int 2)))) xM (mSet 13 (mLst true maNil))))
section
variable {ns : List Int} {rs : List (List Int)} {a4 a5 a6 a7 a8 a9 a10 a11 : Option A} {v : Int} {h : Hq} {kx : Nat} {P : List Int}
/-- the last addition -/
theorem xw_ok {e : List Int} {a14 a15 : Option A} (hl : e.length ≤ 20000) (ek : h[kx]? = some (.lst (LI e))) : xW (X19 ns rs a4 a5 a6 a7 a8 a9 a10 a11 v (some (.r kx)) a14 a15) h = some (.nx (X19 ns rs a4 a5 a6 a7 a8 a9 a10 a11 v (some (.r h.length)) a14 a15) (h ++ [.lst (LI (e ++ rec4 [v % 256, 7]))])) := by
  obtain ⟨kw, hw, w1, w2⟩ := write_record_ok (xs := [v % 256, 7]) (by show 2 ≤ 20000; decide)
  have hr := rec4_len [v % 256, 7]
  have : ([v % 256, 7] : List Int).length = 2 := rfl
  refine set_of ?_
  rw [bin_of (var_of rfl) (callP_of (ds := [LD [v % 256, 7]]) (len_of (n := 1) (cons_of (r := []) (by
    unfold mLst
    rw [cons_of (mod_of (var_of rfl) rfl (by decide)) (cons_of (r := []) rfl rfl), bd_ok]
    exact mkL_i (xs := [v % 256, 7]) (by show 2 ≤ 16777216; decide)) rfl) rfl) w1 (view_LI w2)), gAdd_cl ek]
  exact mkL_c (by rw [LI_len, List.length_append]; show _ ≤ 16777216; omega)
/-- one byte anew -/
theorem xset_ok {e : List Int} {i j kk : Nat} {p : Nat} {b : Int} {c : Int} {τ : Sl} (t12 : τ[12]? = some (some (.d (.int v)))) (ti : τ[i]? = some (some (.r kk))) (tj : τ[j]? = some (some (.d (.int (p : Nat))))) (ek : h[kk]? = some (.lst (LI e))) (eb : e[p]? = some b) (hc : divOk v c = true) :
    mSetI true (mVar i) (mVar j) (mBin gMod (mBin (gAdd false) (mBin (gAdd false) (mBin gGet (mVar i) (mVar j)) (mC (.int 1))) (mBin gMod (mBin gDiv (mVar 12) (mC (.int c))) (mC (.int 255)))) (mC (.int 256))) τ h = some (.nx τ (h.set kk (.lst (LI (e.set p ((b + 1 + v / c % 255) % 256)))))) := by
  refine setI_of ti tj ?_ ek (List.getElem?_eq_some_iff.mp eb).1
  refine mod_of (add_of (add_of ?_ rfl) (dm_of t12 hc (by decide))) rfl (by decide)
  rw [bin_of (var_of ti) (var_of tj)]
  exact gGet_c ek (by rw [LI_get, eb]; rfl)
theorem extra_ok (hv : 0 ≤ v ∧ v < 2147483647) (g : Good P) (ed : ∀ (τ : Sl) (h : Hq) (m : E A), m τ h = some (.ok (.d (.int (v / 3))) h) → mCallP sem__law_data (lenIs 1 (maCons m maNil)) τ h = some (.ok (.d (LD P)) h)) (ek : h[kx]? = some (.lst (LI (rec4 P)))) (hk : 2 ≤ kx) :
    ∃ k' a14 a15 h' z, xE (X19 ns rs a4 a5 a6 a7 a8 a9 a10 a11 v (some (.r kx)) none none) h = some (.nx (X19 ns rs a4 a5 a6 a7 a8 a9 a10 a11 v (some (.r k')) a14 a15) h') ∧ h'[k']? = some (.lst (LI z)) ∧ Stops z ∧ z.length ≤ 40000 ∧ (∀ (i : Nat) (o : O), i < 2 → h[i]? = some o → h'[i]? = some o) := by
  have g1 := g.1
  have hr := rec4_len P
  have hl := leb_len P.length
  have hkl := lt_of_get ek
  have hr4 : (rec4 P).length = (leb P.length).length + P.length + 4 := by unfold rec4; rw [List.length_append, List.length_append]; rfl
  have hlen : ∀ a14 a15, mUn gLen (mVar 13) (X19 ns rs a4 a5 a6 a7 a8 a9 a10 a11 v (some (.r kx)) a14 a15) h = some (.ok (.d (.int ((rec4 P).length : Nat))) h) := fun a14 a15 => by
    rw [un_of (var_of rfl), gLen_c ek, LI_len]
  unfold xE
  by_cases c1 : v % 3 = 1
  · rw [if_tt (h1 := h) (by rw [tb_of (eqi_of (mod_of (var_of rfl) rfl (by decide)) rfl), decide_eq_true c1])]
    have hpos : (0 : Int) < ((rec4 P).length : Nat) := by omega
    have hj0 := Int.emod_nonneg (v / 7) (Int.ne_of_gt hpos)
    have hj1 := Int.emod_lt_of_pos (v / 7) hpos
    have ej : mBin gMod (mBin gDiv (mVar 12) (mC (.int 7))) (mUn gLen (mVar 13)) (X19 ns rs a4 a5 a6 a7 a8 a9 a10 a11 v (some (.r kx)) none none) h = some (.ok (.d (.int ((v / 7 % ((rec4 P).length : Nat)).toNat : Nat))) h) := by
      rw [Int.toNat_of_nonneg hj0]
      exact mod_of (div_of (var_of rfl) rfl rfl) (hlen none none) hpos
    generalize hj : (v / 7 % ((rec4 P).length : Nat)).toNat = j at ej
    refine ⟨h.length, none, none, h ++ [.lst (LI ((rec4 P).take j))], (rec4 P).take j, set_of ?_, cell_app _ _, stops_take (by omega) (by omega), by rw [List.length_take]; omega, fun i o _ e => app_keep e⟩
    unfold mSl moN moS
    rw [var_of rfl, bd_ok]
    show bd (bd (mBin gMod (mBin gDiv (mVar 12) (mC (.int 7))) (mUn gLen (mVar 13)) (X19 ns rs a4 a5 a6 a7 a8 a9 a10 a11 v (some (.r kx)) none none) h) _) _ = _
    rw [ej]
    show gSl true (.r kx) none (some (j : Int)) h = _
    rw [gSl_c ek, cut_take]
    exact mkL_c (by rw [LI_len, List.length_take]; show _ ≤ 16777216; omega)
  · rw [if_ff (h1 := h) (by rw [tb_of (eqi_of (mod_of (var_of rfl) rfl (by decide)) rfl), decide_eq_false c1])]
    by_cases c2 : v % 3 = 2
    · rw [if_tt (h1 := h) (by rw [tb_of (eqi_of (mod_of (var_of rfl) rfl (by decide)) rfl), decide_eq_true c2])]
      have hpos : (0 : Int) < 4 + (P.length : Nat) := by omega
      have hj0 := Int.emod_nonneg (v / 7) (Int.ne_of_gt hpos)
      have hj1 := Int.emod_lt_of_pos (v / 7) hpos
      unfold xM
      generalize hp : (((rec4 P).length : Int) - 1 - v / 7 % (4 + (P.length : Nat))).toNat = p
      have hp1 : (p : Int) = ((rec4 P).length : Int) - 1 - v / 7 % (4 + (P.length : Nat)) := by omega
      rw [seq_nx (τ1 := X19 ns rs a4 a5 a6 a7 a8 a9 a10 a11 v (some (.r kx)) (some (.d (.int (p : Nat)))) none) (h1 := h) (set_of (by
        rw [hp1]
        exact sub_of (sub_of (hlen none none) rfl) (mod_of (div_of (var_of rfl) rfl rfl) (add_of rfl (by rw [un_of (ed _ _ _ (div_of (var_of rfl) rfl rfl))]; exact gLen_d P h)) hpos)))]
      have hpl : p < (rec4 P).length := by omega
      have hpb : (leb P.length).length ≤ p := by omega
      obtain ⟨b, eb⟩ : ∃ b, (rec4 P)[p]? = some b := ⟨_, List.getElem?_eq_getElem hpl⟩
      have bb := rec4_byte g hpb eb
      generalize hb' : (b + 1 + v / 31 % 255) % 256 = b'
      have bb' : Byte b' := by unfold Byte; omega
      have bne : b' ≠ b := by unfold Byte at bb; omega
      have s1 := xset_ok (v := v) (e := rec4 P) (i := 13) (j := 14) (kk := kx) (p := p) (b := b) (c := 31) (h := h) (τ := X19 ns rs a4 a5 a6 a7 a8 a9 a10 a11 v (some (.r kx)) (some (.d (.int (p : Nat)))) none) rfl rfl rfl ek eb rfl
      rw [hb'] at s1
      rw [seq_nx s1]
      have ek1 : (h.set kx (.lst (LI ((rec4 P).set p b'))))[kx]? = some (.lst (LI ((rec4 P).set p b'))) := List.getElem?_set_self hkl
      have kp1 : ∀ (i : Nat) (o : O), i < 2 → h[i]? = some o → (h.set kx (.lst (LI ((rec4 P).set p b'))))[i]? = some o := fun i o hi e => by rw [List.getElem?_set_ne (by omega)]; exact e
      generalize h.set kx (.lst (LI ((rec4 P).set p b'))) = h1 at ek1 kp1
      have hlen1 : mUn gLen (mVar 13) (X19 ns rs a4 a5 a6 a7 a8 a9 a10 a11 v (some (.r kx)) (some (.d (.int (p : Nat)))) none) h1 = some (.ok (.d (.int ((rec4 P).length : Nat))) h1) := by
        rw [un_of (var_of rfl), gLen_c ek1, LI_len, List.length_set]
      have tt : xT (X19 ns rs a4 a5 a6 a7 a8 a9 a10 a11 v (some (.r kx)) (some (.d (.int (p : Nat)))) none) h1 = some (.ok (decide (((rec4 P).length : Int) - 4 ≤ (p : Int)) && decide (v / 13 % 2 = 0)) h1) := by
        unfold xT
        exact and_of (ge_of (var_of rfl) (sub_of hlen1 rfl)) (tb_of (eqi_of (dm_of rfl rfl (by decide)) rfl))
      by_cases c3 : ((rec4 P).length : Int) - 4 ≤ (p : Int) ∧ v / 13 % 2 = 0
      · rw [decide_eq_true c3.1, decide_eq_true c3.2] at tt
        generalize hq : (((rec4 P).length : Int) - 1 - (((rec4 P).length : Int) - (p : Int)) % 4).toNat = q
        have hq1 : (q : Int) = ((rec4 P).length : Int) - 1 - (((rec4 P).length : Int) - (p : Int)) % 4 := by omega
        have hql : q < ((rec4 P).set p b').length := by rw [List.length_set]; omega
        obtain ⟨b2, eb2⟩ : ∃ b2, ((rec4 P).set p b')[q]? = some b2 := ⟨_, List.getElem?_eq_getElem hql⟩
        have s2 := xset_ok (v := v) (e := (rec4 P).set p b') (i := 13) (j := 15) (kk := kx) (p := q) (b := b2) (c := 37) (h := h1) (τ := X19 ns rs a4 a5 a6 a7 a8 a9 a10 a11 v (some (.r kx)) (some (.d (.int (p : Nat)))) (some (.d (.int (q : Nat))))) rfl rfl rfl ek1 eb2 rfl
        generalize (b2 + 1 + v / 37 % 255) % 256 = b3 at s2
        have sx : mIf xT xS mNx (X19 ns rs a4 a5 a6 a7 a8 a9 a10 a11 v (some (.r kx)) (some (.d (.int (p : Nat)))) none) h1 = some (.nx (X19 ns rs a4 a5 a6 a7 a8 a9 a10 a11 v (some (.r kx)) (some (.d (.int (p : Nat)))) (some (.d (.int (q : Nat))))) (h1.set kx (.lst (LI (((rec4 P).set p b').set q b3))))) := by
          rw [if_tt tt]
          unfold xS
          rw [seq_nx (τ1 := X19 ns rs a4 a5 a6 a7 a8 a9 a10 a11 v (some (.r kx)) (some (.d (.int (p : Nat)))) (some (.d (.int (q : Nat))))) (h1 := h1) (set_of (by
            rw [hq1]
            exact sub_of (sub_of hlen1 rfl) (mod_of (sub_of hlen1 (var_of rfl)) rfl (by decide))))]
          exact s2
        rw [seq_nx sx]
        have ek2 : (h1.set kx (.lst (LI (((rec4 P).set p b').set q b3))))[kx]? = some (.lst (LI (((rec4 P).set p b').set q b3))) := List.getElem?_set_self (lt_of_get ek1)
        have kp2 : ∀ (i : Nat) (o : O), i < 2 → h[i]? = some o → (h1.set kx (.lst (LI (((rec4 P).set p b').set q b3))))[i]? = some o := fun i o hi e => by rw [List.getElem?_set_ne (by omega)]; exact kp1 i o hi e
        generalize h1.set kx (.lst (LI (((rec4 P).set p b').set q b3))) = h2 at ek2 kp2
        have hz2 := rec4_len [v % 256, 7]
        have h22 : ([v % 256, 7] : List Int).length = 2 := rfl
        refine ⟨_, _, _, _, _, xw_ok (by rw [List.length_set, List.length_set]; omega) ek2, cell_app _ _, stops_two g (by omega) (by omega) (by omega) eb bne, by rw [List.length_append, List.length_set, List.length_set]; omega, fun i o hi e => app_keep (kp2 i o hi e)⟩
      · have : (decide (((rec4 P).length : Int) - 4 ≤ (p : Int)) && decide (v / 13 % 2 = 0)) = false := by
          rw [← Bool.not_eq_true, Bool.and_eq_true, decide_eq_true_iff, decide_eq_true_iff]
          exact c3
        rw [this] at tt
        rw [seq_nx (τ1 := X19 ns rs a4 a5 a6 a7 a8 a9 a10 a11 v (some (.r kx)) (some (.d (.int (p : Nat)))) none) (h1 := h1) (by rw [if_ff tt]; rfl)]
        have hz2 := rec4_len [v % 256, 7]
        have h22 : ([v % 256, 7] : List Int).length = 2 := rfl
        refine ⟨_, _, _, _, _, xw_ok (by rw [List.length_set]; omega) ek1, cell_app _ _, stops_one g hpb eb bb' bne, by rw [List.length_append, List.length_set]; omega, fun i o hi e => app_keep (kp1 i o hi e)⟩
    · rw [if_ff (h1 := h) (by rw [tb_of (eqi_of (mod_of (var_of rfl) rfl (by decide)) rfl), decide_eq_false c2])]
      exact ⟨h.length, none, none, h ++ [.lst (LI [])], [], set_of rfl, cell_app _ _, .inl rfl, Nat.zero_le _, fun i o _ e => app_keep e⟩
end
end K52

set_option maxHeartbeats 1000000
namespace K52
open PySem PySem.Spec PyProof.Rows L2 Tq
/-! ### what is told -/
theorem mapMn_of {f : A → Option D} : ∀ {ws : List A} {ds : List D}, ws.length = ds.length → (∀ (i : Nat) (d : D), ds[i]? = some d → ∃ w, ws[i]? = some w ∧ f w = some d) → mapMn f ws = some ds
  | [], [], _, _ => rfl
  | [], _ :: _, h, _ => by simp at h
  | _ :: _, [], h, _ => by simp at h
  | w :: ws, d :: ds, h, H => by
    obtain ⟨w', e1, e2⟩ := H 0 d rfl
    cases e1
    unfold mapMn
    rw [e2, mapMn_of (ws := ws) (ds := ds) (by simpa using h) fun i d e => by simpa using H (i + 1) d (by simpa using e)]
theorem view_cells {n k k0 : Nat} {h : Hq} {ws : List A} {rs : List (List Int)} (e : h[k]? = some (.lst ws)) (c : Cells h k0 ws rs) : vw (n + 2) h (.r k) = some (LLD rs) := by
  unfold vw
  rw [e]
  dsimp only
  rw [mapMn_of (ds := rs.map LD) (by rw [List.length_map]; exact c.1) fun i d hd => by
    rw [List.getElem?_map] at hd
    cases er : rs[i]? with
    | none => rw [er] at hd; cases hd
    | some r =>
      rw [er] at hd
      cases hd
      obtain ⟨j, j1, _, j3⟩ := c.2 i r er
      exact ⟨_, j1, vw_cell j3⟩]
  rfl
theorem view_told {k k0 : Nat} {h : Hq} {ws : List A} {rs : List (List Int)} {n : Int} (e : h[k]? = some (.lst ws)) (c : Cells h k0 ws rs) : view h (.tup [.r k, .d (.int n)]) = some (.tup [LLD rs, .int n]) := by
  show (mapMn (vw 31 h) [.r k, .d (.int n)]).map D.tup = _
  unfold mapMn
  rw [view_cells (n := 29) e c]
  rfl
theorem view_mine {h : Hq} {rs : List (List Int)} {n : Int} (e : h[0]? = some (RSC rs)) : view h (.tup [.r 0, .d (.int n)]) = some (.tup [LLD rs, .int n]) := by
  show (mapMn (vw 31 h) [.r 0, .d (.int n)]).map D.tup = _
  have : vw 31 h (.r 0) = some (LLD rs) := vw_cell (n := 30) (ds := rs.map LD) (by rw [e]; unfold RSC; rw [List.map_map]; rfl)
  unfold mapMn
  rw [this]
  rfl
theorem mine_ok {τ : Sl} {h : Hq} {n : Int} (e1 : τ[1]? = some (some (.r 0))) (e2 : mUn gLen (mVar 2) τ h = some (.ok (.d (.int n)) h)) : mTup (maCons (mVar 1) (maCons (mUn gLen (mVar 2)) maNil)) τ h = some (.ok (.tup [.r 0, .d (.int n)]) h) := by
  unfold mTup
  rw [cons_of (var_of e1) (cons_of (r := []) e2 rfl), bd_ok]
  rfl
theorem told_same {n : Bool} {rs : List (List Int)} {m : Int} : eqD n (.tup [LLD rs, .int m]) (.tup [LLD rs, .int m]) = some (!n) := eqD_same (shp_told rs m)
theorem read_of {τ : Sl} {h : Hq} {i : Nat} {rs : List (List Int)} {z : List Int} {m : E A} (em : m τ h = some (.ok (.d (LD (flat rs ++ z))) h)) (hl : (flat rs ++ z).length ≤ LIM) (hz : Stops z) (hr : ∀ r ∈ rs, Good r) (hn : rs.length ≤ 13) :
    ∃ h' ws, mCall sem_read_records (lenIs 1 (maCons m maNil)) τ h = some (.ok (.tup [.r h.length, .d (.int ((flat rs).length : Nat))]) h') ∧ h'[h.length]? = some (.lst ws) ∧ Cells h' h.length ws rs ∧ (∀ (i : Nat) (o : O), h[i]? = some o → h'[i]? = some o) := by
  obtain ⟨h', ws, e1, e2, e3, e4⟩ := records_ok hl hz (fun r hq => by have := (hr r hq).1; omega) (by omega) h
  refine ⟨h', ws, ?_, e2, e3, e4⟩
  rw [call_of (ws := [.d (LD (flat rs ++ z))]) (h1 := h) (len_of (n := 1) (cons_of (r := []) em rfl) rfl)]
  exact e1
/-! ### told lists are spoilt -/
theorem spoil_ok {τ0 : Sl} {h : Hq} {k : Nat} {ws : List A} {rs : List (List Int)} (hk : 2 ≤ k) (t16 : ∀ a, (τ0.set 5 a)[16]? = some (some (.tup [.r k, .d (.int ((flat rs).length : Nat))]))) (l5 : 5 < τ0.length) (e : h[k]? = some (.lst ws)) (c : Cells h k ws rs) (B : Base h rs) (hn : rs.length ≤ 13) (a5 : Option A) :
    ∃ b5 h', L3_law (τ0.set 5 a5) h = some (.nx (τ0.set 5 b5) h') ∧ h'[k]? = some (.lst ws) ∧ Base h' rs := by
  have hL : LIM = 16777216 := rfl
  obtain ⟨τ', h', e1, ⟨b5, rfl⟩, ek, B', _⟩ := forC_inv (k := k) (ws := ws) (g := mgName 5) (mb := B3_law)
    (fun n τ h => (∃ b5, τ = τ0.set 5 b5) ∧ h[k]? = some (.lst ws) ∧ Base h rs ∧ ∀ (i j : Nat), ws[i]? = some (.r j) → k < j ∧ ∃ xs : List A, h[j]? = some (.lst xs) ∧ xs.length ≤ 20000 + n)
    (τ := τ0.set 5 a5) (h := h) (fun n τ h i => i.2.1) ⟨⟨a5, rfl⟩, e, B, fun i j hw => by
      have hi : i < rs.length := by rw [← c.1]; exact (List.getElem?_eq_some_iff.mp hw).1
      obtain ⟨j', j1, j2, j3⟩ := c.2 i rs[i] (List.getElem?_eq_getElem hi)
      rw [hw] at j1
      cases j1
      refine ⟨j2, _, j3, ?_⟩
      rw [LI_len]
      have := (B.g _ (List.getElem_mem hi)).1
      omega⟩
    (fun n w τ h hw hi => by
      obtain ⟨⟨b5, rfl⟩, ek, B, all⟩ := hi
      have hn2 : n < rs.length := by rw [← c.1]; exact (List.getElem?_eq_some_iff.mp hw).1
      obtain ⟨j', j1, _, _⟩ := c.2 n rs[n] (List.getElem?_eq_getElem hn2)
      rw [hw] at j1
      cases j1
      obtain ⟨hj, xs, x1, x2⟩ := all n j' hw
      refine ⟨τ0.set 5 (some (.r j')), τ0.set 5 (some (.r j')), h.set j' (.lst (xs ++ [A.d (.int 7)])), ?_, .inl ?_, ⟨_, rfl⟩, ?_, ?_, ?_⟩
      · unfold mgName
        rw [List.set_set]
      · exact append_of (k := j') (ws := xs) (w := .d (.int 7)) (var_of (List.getElem?_set_self l5)) x1 rfl (by omega)
      · rw [List.getElem?_set_ne (by omega)]; exact ek
      · exact ⟨by rw [List.getElem?_set_ne (by omega)]; exact B.r, by rw [List.getElem?_set_ne (by omega)]; exact B.s, B.g⟩
      · intro i j hij
        obtain ⟨y0, ys, y1, y2⟩ := all i j hij
        by_cases q : j = j'
        · subst q
          rw [x1] at y1
          cases y1
          exact ⟨y0, _, List.getElem?_set_self (lt_of_get x1), by rw [List.length_append]; show _ + 1 ≤ _; omega⟩
        · exact ⟨y0, ys, by rw [List.getElem?_set_ne (Ne.symm q)]; exact y1, by omega⟩) (by rw [c.1]; omega)
  refine ⟨b5, h', ?_, ek, B'⟩
  unfold L3_law
  rw [mFor_of (nx := nxC k) (h1 := h) (by
    unfold mItems
    rw [bin_of (a := .tup [.r k, .d (.int ((flat rs).length : Nat))]) (b := .d (.int 0)) (h1 := h) (h2 := h) (var_of (t16 a5)) rfl, show gGet (.tup [.r k, .d (.int ((flat rs).length : Nat))]) (.d (.int 0)) h = some (.ok (.r k) h) from rfl, bd_ok]
    dsimp only
    rw [e])]
  exact e1
/-! ### the last cut -/
theorem flat_split {rs : List (List Int)} {c : Nat} {r : List Int} (e : rs[c]? = some r) : flat rs = flat (rs.take c) ++ (rec4 r ++ flat (rs.drop (c + 1))) := by
  have hc := (List.getElem?_eq_some_iff.mp e).1
  have : rs = rs.take c ++ r :: rs.drop (c + 1) := by
    have h2 : rs.drop c = r :: rs.drop (c + 1) := by
      rw [List.drop_eq_getElem_cons hc]
      congr 1
      exact (List.getElem?_eq_some_iff.mp e).2
    rw [← h2, List.take_append_drop]
  conv => lhs; rw [this]
  unfold flat
  rw [List.map_append, List.flatten_append, List.map_cons, List.flatten_cons]
theorem cut_end {rs : List (List Int)} {c e : Nat} (hr : ∀ r ∈ rs, Good r) (hc : c ≤ rs.length) (he : e ≤ (flat rs).length) (h1 : (flat (rs.take c)).length ≤ e) (h2 : c = rs.length ∨ (c < rs.length ∧ e < (flat (rs.take (c + 1))).length)) :
    ∃ z, (flat rs).take e = flat (rs.take c) ++ z ∧ Stops z ∧ z.length ≤ 20000 := by
  rcases h2 with h2 | ⟨h2, h3⟩
  · subst h2
    rw [List.take_length] at h1 ⊢
    exact ⟨[], by rw [List.append_nil, List.take_of_length_le h1], .inl rfl, Nat.zero_le _⟩
  · have er : rs[c]? = some rs[c] := List.getElem?_eq_getElem h2
    have g := (hr _ (List.getElem_mem h2)).1
    have hs := flat_split er
    have ht : flat (rs.take (c + 1)) = flat (rs.take c) ++ rec4 rs[c] := by rw [take_succ er, flat_snoc]
    rw [ht, List.length_append] at h3
    have h4 := rec4_len rs[c]
    refine ⟨(rec4 rs[c]).take (e - (flat (rs.take c)).length), ?_, stops_take (by omega) (by omega), by rw [List.length_take]; omega⟩
    conv => lhs; rw [hs]
    rw [List.take_append, List.take_of_length_le h1, List.take_append_of_le_length (by omega)]
/-- the count of whole records -/
theorem count_ok {ns : List Int} {rs : List (List Int)} {a4 a5 a6 a7 a8 a9 a10 a11 a12 a13 a14 a15 a16 : Option A} {h : Hq} (B : Base h rs) (hn : rs.length ≤ 13) {e : Nat} : ∀ (d c N : Nat), rs.length = c + d → d < N → (flat (rs.take c)).length ≤ e →
    ∃ c', mWhile W2_law B4_law N (R19 ns rs a4 a5 a6 a7 a8 a9 a10 a11 [a12, a13, a14, a15, a16, some (.d (.int (e : Nat))), some (.d (.int (c : Nat)))]) h = some (.nx (R19 ns rs a4 a5 a6 a7 a8 a9 a10 a11 [a12, a13, a14, a15, a16, some (.d (.int (e : Nat))), some (.d (.int (c' : Nat)))]) h) ∧ c' ≤ rs.length ∧ (flat (rs.take c')).length ≤ e ∧ (c' = rs.length ∨ (c' < rs.length ∧ e < (flat (rs.take (c' + 1))).length)) := by
  intro d
  induction d with
  | zero =>
    intro c N hc hN he
    obtain ⟨N, rfl⟩ : ∃ N', N = N' + 1 := ⟨N - 1, by omega⟩
    refine ⟨c, while_ff ?_, by omega, he, .inl (by omega)⟩
    unfold W2_law mAndT
    rw [lt_of (i := (c : Int) + 1) (j := ((sizes rs).length : Nat)) (add_of (var_of rfl) rfl) (by rw [un_of (var_of rfl), gLen_c B.s, LI_len]), bd_ok, sizes_len, decide_eq_false (by omega)]
  | succ d ih =>
    intro c N hc hN he
    obtain ⟨N, rfl⟩ : ∃ N', N = N' + 1 := ⟨N - 1, by omega⟩
    have tt : W2_law (R19 ns rs a4 a5 a6 a7 a8 a9 a10 a11 [a12, a13, a14, a15, a16, some (.d (.int (e : Nat))), some (.d (.int (c : Nat)))]) h = some (.ok (decide ((flat (rs.take (c + 1))).length ≤ e)) h) := by
      unfold W2_law
      rw [and_of (lt_of (i := (c : Int) + 1) (j := ((sizes rs).length : Nat)) (add_of (var_of rfl) rfl) (by rw [un_of (var_of rfl), gLen_c B.s, LI_len])) (le_of (i := ((flat (rs.take (c + 1))).length : Nat)) (j := (e : Nat)) (by
        rw [bin_of (a := .r 1) (b := .d (.int ((c + 1 : Nat) : Int))) (h1 := h) (h2 := h) (var_of rfl) (add_of (i := (c : Int)) (j := 1) (var_of rfl) rfl)]
        exact gGet_c B.s (by rw [LI_get, sizes_get (by omega)]; rfl)) (var_of rfl)), sizes_len, decide_eq_true (by omega)]
      rw [show decide (((flat (rs.take (c + 1))).length : Int) ≤ (e : Int)) = decide ((flat (rs.take (c + 1))).length ≤ e) from decide_eq_decide.mpr (by omega)]
      rfl
    by_cases z : (flat (rs.take (c + 1))).length ≤ e
    · rw [decide_eq_true z] at tt
      obtain ⟨c', x1, x2⟩ := ih (c + 1) N (by omega) (by omega) z
      exact ⟨c', (while_tt tt rfl).trans x1, x2⟩
    · rw [decide_eq_false z] at tt
      exact ⟨c, while_ff tt, by omega, he, .inr ⟨by omega, by omega⟩⟩
end K52

set_option maxHeartbeats 1000000
namespace K52
open PySem PySem.Spec PyProof.Rows L2 Tq
def tl4 : MS :=
 (mSeq (mSet 17 (mBin gMod (mBin gDiv (mVar 12) (mC (.int 5))) (mBin (gAdd false) (mC (.int 1)) (mUn gLen (mVar 2)))))
 (mSeq (mSet 18 (mC (.int 0)))
 (mSeq L4_law
 (mRet (mBin (gEq false) (mCall sem_read_records (lenIs 1 (maCons (mSl false (mVar 2) moN (moS (mVar 17))) maNil))) (mTup (maCons (mSl false (mVar 1) moN (moS (mVar 18))) (maCons (mBin gGet (mVar 3) (mVar 18)) maNil))))))))
def tl3 : MS :=
 (mSeq (mSet 6 (mBin (gAdd false) (mVar 2) (mVar 13)))
 (mSeq (mSet 16 (mCall sem_read_records (lenIs 1 (maCons (mVar 6) maNil))))
 (mSeq (mIf (mOrT (mTB (mBin (gEq true) (mVar 16) (mTup (maCons (mVar 1) (maCons (mUn gLen (mVar 2)) maNil))))) (mTB (mBin (gEq true) (mVar 6) (mBin (gAdd false) (mVar 2) (mVar 13))))) (mRet (mC (.bl false))) mNx)
 (mSeq L3_law
 (mSeq (mDrop (mM1 tokL gApp (mBin gGet (mVar 16) (mC (.int 0))) (mLst false (maCons (mC (.int 1)) maNil))))
 (mSeq (mIf (mTB (mBin (gEq true) (mCall sem_read_records (lenIs 1 (maCons (mVar 6) maNil))) (mTup (maCons (mVar 1) (maCons (mUn gLen (mVar 2)) maNil))))) (mRet (mC (.bl false))) mNx) tl4))))))
theorem law_eq : b_law = mSeq (mSet 1 (mLst true maNil)) (mSeq (mSet 2 (mLst false maNil)) (mSeq (mSet 3 (mLst true (maCons (mC (.int 0)) maNil))) (mSeq L2_law (mSeq (mSet 12 (mCallP sem__law_draw (lenIs 2 (maCons (mVar 0) (maCons (mUn gLen (mVar 0)) maNil)))))
 (mSeq (mSet 13 (mCallO sem_write_record (lenIs 1 (maCons (mCallP sem__law_data (lenIs 1 (maCons (mBin gDiv (mVar 12) (mC (.int 3))) maNil))) maNil)))) (mSeq xE tl3)))))) := rfl
section
variable {ns : List Int} {rs : List (List Int)} {a4 a5 a6 a7 a8 a9 a10 a11 a13 a14 a15 a16 : Option A} {v : Int} {h : Hq}
theorem tl4_ok (B : Base h rs) (hn : rs.length ≤ 13) (hv : 0 ≤ v) : ∃ h', tl4 (R19 ns rs a4 a5 a6 a7 a8 a9 a10 a11 [some (.d (.int v)), a13, a14, a15, a16, none, none]) h = some (.rt (.d (.bl true)) h') := by
  have hL : LIM = 16777216 := rfl
  have hfl := flat_len rs fun q hq => (B.g q hq).1
  unfold tl4
  have hpos : (0 : Int) < 1 + ((flat rs).length : Nat) := by omega
  have hj0 := Int.emod_nonneg (v / 5) (Int.ne_of_gt hpos)
  have hj1 := Int.emod_lt_of_pos (v / 5) hpos
  generalize he : (v / 5 % (1 + ((flat rs).length : Nat))).toNat = e
  have he1 : (e : Int) = v / 5 % (1 + ((flat rs).length : Nat)) := by omega
  rw [seq_nx (τ1 := R19 ns rs a4 a5 a6 a7 a8 a9 a10 a11 [some (.d (.int v)), a13, a14, a15, a16, some (.d (.int (e : Nat))), none]) (h1 := h) (set_of (by
    rw [he1]
    exact mod_of (div_of (var_of rfl) rfl rfl) (add_of rfl (by rw [un_of (var_of rfl)]; exact gLen_d _ h)) hpos))]
  rw [seq_nx (τ1 := R19 ns rs a4 a5 a6 a7 a8 a9 a10 a11 [some (.d (.int v)), a13, a14, a15, a16, some (.d (.int (e : Nat))), some (.d (.int ((0 : Nat) : Int)))]) (h1 := h) rfl]
  obtain ⟨c, w1, c1, c2, c3⟩ := count_ok (ns := ns) (a4 := a4) (a5 := a5) (a6 := a6) (a7 := a7) (a8 := a8) (a9 := a9) (a10 := a10) (a11 := a11) (a12 := some (.d (.int v))) (a13 := a13) (a14 := a14) (a15 := a15) (a16 := a16) B hn (e := e) rs.length 0 1000000 (by omega) (by omega) (Nat.zero_le _)
  rw [seq_nx (m1 := L4_law) w1]
  obtain ⟨z, z1, z2, z3⟩ := cut_end B.g c1 (by omega) c2 c3
  generalize hτ : (R19 ns rs a4 a5 a6 a7 a8 a9 a10 a11 [some (.d (.int v)), a13, a14, a15, a16, some (.d (.int (e : Nat))), some (.d (.int (c : Nat)))] : Sl) = τ
  have t1 : τ[1]? = some (some (.r 0)) := by rw [← hτ]; rfl
  have t2 : τ[2]? = some (some (.d (LD (flat rs)))) := by rw [← hτ]; rfl
  have t3 : τ[3]? = some (some (.r 1)) := by rw [← hτ]; rfl
  have t17 : τ[17]? = some (some (.d (.int (e : Nat)))) := by rw [← hτ]; rfl
  have t18 : τ[18]? = some (some (.d (.int (c : Nat)))) := by rw [← hτ]; rfl
  have hfc := flat_len (rs.take c) fun q hq => (B.g q (List.mem_of_mem_take hq)).1
  have e1 : mSl false (mVar 2) moN (moS (mVar 17)) τ h = some (.ok (.d (LD (flat (rs.take c) ++ z))) h) := by
    unfold mSl moN moS
    rw [var_of t2, bd_ok]
    show bd (bd (mVar 17 τ h) _) _ = _
    rw [var_of t17]
    show gSl false (.d (LD (flat rs))) none (some (e : Int)) h = _
    rw [gSl_d, cut_take, z1]
    refine mkL_i ?_
    rw [List.length_append, hL]
    omega
  obtain ⟨h', ws, r1, r2, r3, r4⟩ := read_of (i := 0) (rs := rs.take c) e1 (by rw [List.length_append, hL]; rw [List.length_take] at hfc; omega) z2 (fun r hr => B.g r (List.mem_of_mem_take hr)) (by rw [List.length_take]; omega)
  refine ⟨h', ret_of ?_⟩
  have B' := B.keep r4
  have es : mSl false (mVar 1) moN (moS (mVar 18)) τ h' = some (.ok (.d (LLD (rs.take c))) h') := by
    unfold mSl moN moS
    rw [var_of t1, bd_ok]
    show bd (bd (mVar 18 τ h') _) _ = _
    rw [var_of t18]
    show gSl false (.r 0) none (some (c : Int)) h' = _
    have := B'.r
    unfold RSC at this
    simp only [gSl, tupOf, lstOf, this]
    rw [cut_take, ← List.map_take, show (List.map (fun r => A.d (LD r)) (rs.take c)) = ((rs.take c).map LD).map A.d from by rw [List.map_map]; rfl]
    exact mkL_d (by rw [List.length_map, List.length_take, hL]; omega)
  have eg : mBin gGet (mVar 3) (mVar 18) τ h' = some (.ok (.d (.int ((flat (rs.take c)).length : Nat))) h') := by
    rw [bin_of (var_of t3) (var_of t18)]
    exact gGet_c B'.s (by rw [LI_get, sizes_get c1]; rfl)
  have et : mTup (maCons (mSl false (mVar 1) moN (moS (mVar 18))) (maCons (mBin gGet (mVar 3) (mVar 18)) maNil)) τ h' = some (.ok (.d (.tup [LLD (rs.take c), .int ((flat (rs.take c)).length : Nat)])) h') := by
    unfold mTup
    rw [cons_of es (cons_of (r := []) eg rfl), bd_ok]
    rfl
  exact eqv_of r1 et (view_told r2 r3) (vw_d _ _ _) told_same
theorem tl3_ok {z : List Int} {k : Nat} (B : Base h rs) (hn : rs.length ≤ 13) (hv : 0 ≤ v) (ek : h[k]? = some (.lst (LI z))) (hz : Stops z) (hzl : z.length ≤ 40000) : ∃ h', tl3 (R19 ns rs a4 a5 a6 a7 a8 a9 a10 a11 [some (.d (.int v)), some (.r k), a14, a15, none, none, none]) h = some (.rt (.d (.bl true)) h') := by
  have hL : LIM = 16777216 := rfl
  have hfl := flat_len rs fun q hq => (B.g q hq).1
  have hall : (flat rs ++ z).length ≤ LIM := by rw [List.length_append, hL]; omega
  have l1 := lt_of_get B.s
  unfold tl3
  rw [seq_nx (τ1 := R19 ns rs a4 a5 (some (.d (LD (flat rs ++ z)))) a7 a8 a9 a10 a11 [some (.d (.int v)), some (.r k), a14, a15, none, none, none]) (h1 := h) (set_of (by
    rw [bin_of (var_of rfl) (var_of rfl), gAdd_lc ek]
    exact mkL_i hall))]
  obtain ⟨h', ws, r1, r2, r3, r4⟩ := read_of (i := 0) (rs := rs) (τ := R19 ns rs a4 a5 (some (.d (LD (flat rs ++ z)))) a7 a8 a9 a10 a11 [some (.d (.int v)), some (.r k), a14, a15, none, none, none]) (h := h) (m := mVar 6) (var_of rfl) hall hz B.g hn
  generalize hkt : h.length = kt at r1 r2 r3 l1
  rw [seq_nx (τ1 := R19 ns rs a4 a5 (some (.d (LD (flat rs ++ z)))) a7 a8 a9 a10 a11 [some (.d (.int v)), some (.r k), a14, a15, some (.tup [.r kt, .d (.int ((flat rs).length : Nat))]), none, none]) (h1 := h') (set_of r1)]
  have B' := B.keep r4
  have ek' := r4 _ _ ek
  rw [seq_nx (τ1 := R19 ns rs a4 a5 (some (.d (LD (flat rs ++ z)))) a7 a8 a9 a10 a11 [some (.d (.int v)), some (.r k), a14, a15, some (.tup [.r kt, .d (.int ((flat rs).length : Nat))]), none, none]) (h1 := h') (by
    rw [if_ff (h1 := h') (orff_of (tb_of (eqv_of (var_of rfl) (mine_ok rfl (by rw [un_of (var_of rfl)]; exact gLen_d _ h')) (view_told r2 r3) (view_mine B'.r) told_same)) (tb_of (eqv_of (d := LD (flat rs ++ z)) (e := LD (flat rs ++ z)) (var_of rfl) (by
      rw [bin_of (var_of rfl) (var_of rfl), gAdd_lc ek']
      exact mkL_i hall) (vw_d _ _ _) (vw_d _ _ _) (by rw [eqD_LD, decide_eq_true rfl]; rfl))))]
    rfl)]
  obtain ⟨b5, h2, s1, s2, B2⟩ := spoil_ok (τ0 := R19 ns rs a4 a5 (some (.d (LD (flat rs ++ z)))) a7 a8 a9 a10 a11 [some (.d (.int v)), some (.r k), a14, a15, some (.tup [.r kt, .d (.int ((flat rs).length : Nat))]), none, none]) (h := h') (k := kt) (ws := ws) (rs := rs) (by omega) (fun _ => rfl) (by show 5 < 19; decide) r2 r3 B' hn a5
  have s1' : L3_law (R19 ns rs a4 a5 (some (.d (LD (flat rs ++ z)))) a7 a8 a9 a10 a11 [some (.d (.int v)), some (.r k), a14, a15, some (.tup [.r kt, .d (.int ((flat rs).length : Nat))]), none, none]) h' = some (.nx (R19 ns rs a4 b5 (some (.d (LD (flat rs ++ z)))) a7 a8 a9 a10 a11 [some (.d (.int v)), some (.r k), a14, a15, some (.tup [.r kt, .d (.int ((flat rs).length : Nat))]), none, none]) h2) := s1
  rw [seq_nx s1']
  rw [seq_nx (append_of (k := kt) (ws := ws) (w := .d (.lst [.int 1])) (by rw [bin_of (a := .tup [.r kt, .d (.int ((flat rs).length : Nat))]) (b := .d (.int 0)) (h1 := h2) (h2 := h2) (var_of rfl) rfl]; rfl) s2 rfl (by rw [r3.1, hL]; omega))]
  have B3 : Base (h2.set kt (.lst (ws ++ [A.d (.lst [.int 1])]))) rs := ⟨by rw [List.getElem?_set_ne (by omega)]; exact B2.r, by rw [List.getElem?_set_ne (by omega)]; exact B2.s, B2.g⟩
  generalize h2.set kt (.lst (ws ++ [A.d (.lst [.int 1])])) = h3 at B3
  obtain ⟨h4, ws4, y1, y2, y3, y4⟩ := read_of (i := 0) (rs := rs) (τ := R19 ns rs a4 b5 (some (.d (LD (flat rs ++ z)))) a7 a8 a9 a10 a11 [some (.d (.int v)), some (.r k), a14, a15, some (.tup [.r kt, .d (.int ((flat rs).length : Nat))]), none, none]) (h := h3) (m := mVar 6) (var_of rfl) hall hz B3.g hn
  have B4 := B3.keep y4
  rw [seq_nx (τ1 := R19 ns rs a4 b5 (some (.d (LD (flat rs ++ z)))) a7 a8 a9 a10 a11 [some (.d (.int v)), some (.r k), a14, a15, some (.tup [.r kt, .d (.int ((flat rs).length : Nat))]), none, none]) (h1 := h4) (by
    rw [if_ff (h1 := h4) (tb_of (eqv_of y1 (mine_ok rfl (by rw [un_of (var_of rfl)]; exact gLen_d _ h4)) (view_told y2 y3) (view_mine B4.r) told_same))]
    rfl)]
  exact tl4_ok B4 hn hv
end
theorem law_ok {ns : List Int} (hl : ns.length ≤ 63) (hb : ∀ z ∈ ns, Builtin.Int.intBits z ≤ 1048576) : ∃ h', sem_law [.d (.scr ns)] [] = some (.ok (.d (.bl true)) h') := by
  have hL : LIM = 16777216 := rfl
  obtain ⟨τ', h1, e1, rs, a4, a5, a6, a7, a8, a9, a10, a11, rfl, B, hrs⟩ := forL_inv (g := mgName 4) (mb := B2_law) (ws := rangeA 0 (if (ns.length : Int) < 13 then (ns.length : Int) else 13).toNat) (Inv52 ns) (τ := R19 ns [] none none none none none none none none TL) (h := [RSC [], .lst (LI [0])])
    ⟨[], none, none, none, none, none, none, none, none, rfl, ⟨rfl, rfl, fun r hr => by cases hr⟩, rfl⟩
    (fun n w τ h hw i => by
      obtain ⟨hn, e⟩ := rangeA_get hw
      exact body_ok hl hb (by split at hn <;> omega) e i)
    (by rw [rangeA_len]; split <;> omega)
  have hn : rs.length ≤ 13 := by
    rw [hrs, rangeA_len]
    split <;> omega
  have eL : L2_law (R19 ns [] none none none none none none none none TL) [RSC [], .lst (LI [0])] = some (.nx (R19 ns rs a4 a5 a6 a7 a8 a9 a10 a11 TL) h1) := by
    unfold L2_law
    rw [mFor_of (h1 := [RSC [], .lst (LI [0])]) (mRange1_of (j := if (ns.length : Int) < 13 then (ns.length : Int) else 13) (by
      rw [bin_of (a := .d (.int 13)) (b := .d (.int (ns.length : Nat))) rfl (by rw [un_of (var_of rfl)]; rfl)]
      rfl) (by split <;> omega) (by split <;> omega))]
    exact e1
  obtain ⟨v, ev, hv⟩ := drawp_ok hl hb (k := (ns.length : Nat)) (by omega) (by omega) (τ := R19 ns rs a4 a5 a6 a7 a8 a9 a10 a11 TL) (h := h1) (m := mUn gLen (mVar 0)) rfl (by rw [un_of (var_of rfl)]; rfl)
  obtain ⟨P, g, ed⟩ := datap_ok (n := v / 3) (by omega)
  obtain ⟨kw, hw, w1, w2⟩ := write_record_ok (xs := P) (by have := g.1; omega)
  have l1 := lt_of_get B.s
  have ex : mCallO sem_write_record (lenIs 1 (maCons (mCallP sem__law_data (lenIs 1 (maCons (mBin gDiv (mVar 12) (mC (.int 3))) maNil))) maNil)) (R19 ns rs a4 a5 a6 a7 a8 a9 a10 a11 [some (.d (.int v)), none, none, none, none, none, none]) h1 = some (.ok (.r h1.length) (h1 ++ [.lst (LI (rec4 P))])) := callO_of (ds := [LD P]) (len_of (n := 1) (cons_of (r := []) (ed _ _ _ (div_of (var_of rfl) rfl rfl)) rfl) rfl) w1 w2
  have kx := cell_app h1 (.lst (LI (rec4 P)))
  have p2 : ∀ (i : Nat) (o : O), h1[i]? = some o → (h1 ++ [O.lst (LI (rec4 P))])[i]? = some o := fun i o e => app_keep e
  generalize h1.length = k at ex kx l1
  generalize h1 ++ [O.lst (LI (rec4 P))] = h2 at ex kx p2
  obtain ⟨k', a14, a15, h3, z, x1, x2, x3, x4, x5⟩ := extra_ok (ns := ns) (rs := rs) (a4 := a4) (a5 := a5) (a6 := a6) (a7 := a7) (a8 := a8) (a9 := a9) (a10 := a10) (a11 := a11) (h := h2) hv g ed kx (by omega)
  have B3 : Base h3 rs := ⟨x5 _ _ (by decide) (p2 _ _ B.r), x5 _ _ (by decide) (p2 _ _ B.s), B.g⟩
  obtain ⟨h4, f⟩ := tl3_ok (ns := ns) (a4 := a4) (a5 := a5) (a6 := a6) (a7 := a7) (a8 := a8) (a9 := a9) (a10 := a10) (a11 := a11) (a14 := a14) (a15 := a15) (v := v) B3 hn hv.1 x2 x3 x4
  refine ⟨h4, runB_rt rfl ?_⟩
  show b_law [some (.d (.scr ns)), none, none, none, none, none, none, none, none, none, none, none, none, none, none, none, none, none, none] [] = _
  rw [law_eq]
  rw [seq_nx (τ1 := [some (.d (.scr ns)), some (.r 0), none, none, none, none, none, none, none, none, none, none, none, none, none, none, none, none, none]) (h1 := [RSC []]) rfl]
  rw [seq_nx (τ1 := [some (.d (.scr ns)), some (.r 0), some (.d (LD [])), none, none, none, none, none, none, none, none, none, none, none, none, none, none, none, none]) (h1 := [RSC []]) rfl]
  rw [seq_nx (τ1 := R19 ns [] none none none none none none none none TL) (h1 := [RSC [], .lst (LI [0])]) rfl]
  rw [seq_nx eL]
  rw [seq_nx (τ1 := R19 ns rs a4 a5 a6 a7 a8 a9 a10 a11 [some (.d (.int v)), none, none, none, none, none, none]) (h1 := h1) (set_of ev)]
  rw [seq_nx (τ1 := X19 ns rs a4 a5 a6 a7 a8 a9 a10 a11 v (some (.r k)) none none) (h1 := h2) (set_of ex)]
  rw [seq_nx x1]
  exact f
end K52

open PySem PySem.W PyProof.Rows
set_option maxHeartbeats 0 in
theorem PySem.Challenge.cw_kithwhole_k52_records_read_back_holds : PySem.Challenge.rw_kithwhole_k52_records_read_back.Holds := by
  w_on; o_law; k_head; (case hw => w_witness2)
  k_fill
  refine L2.walk_ofB (l := PySem.Challenge.rw_kithwhole_k52_records_read_back) (n := 63) (k := 5) (x := "script") (CX := fun _ => L2.CX0) (sp := fun w => (fun vs H Q _ => Tq.spQ _ 1 K52.sem_law vs H Q L2.E0)) rfl (by decide) rfl ⟨rfl, by decide, by decide⟩ (fun w h Y => PySem.W.kIn_of Y) ?F (fun _ _ _ ns hl hb _ hS => Tq.sp_law hS (K52.law_ok hl hb)) (fun _ _ _ _ _ h => h)
  case F =>
    intro w mg fa h KX G hmg
    refine' K52.all_mk KX G hmg ?a_Reader ?pg_Reader ?hd_Reader ?po_Reader ?sa_Reader ?n_Reader_data ?n_Reader_at ?mk_Reader ?kc_Reader ?a_DamagedPacket ?x_DamagedPacket ?kc_DamagedPacket ?b_DamagedPacket ?t_DamagedPacket ?ic_DamagedPacket ?s_DamagedPacket_DamagedPacket ?a0 ?l0 ?c0 ?k0 ?a1 ?l1 ?c1 ?k1 ?a2 ?l2 ?c2 ?k2 ?a3 ?l3 ?c3 ?k3 ?a4 ?i4 ?l4 ?c4 ?k4 ?a5 ?i5 ?l5 ?c5 ?k5 ?a6 ?i6 ?l6 ?c6 ?k6 ?a7 ?l7 ?c7 ?k7 ?a8 ?l8 ?c8 ?k8 ?a9 ?l9 ?c9 ?k9 ?a10 ?l10 ?c10 ?k10 ?a11 ?l11 ?c11 ?k11 ?y_NUMBER_BYTES ?y_int ?y_len ?y_list ?y_min ?y_range
    (case a_Reader => k_is); (case pg_Reader => k_is); (case hd_Reader => k_is); (case po_Reader => k_is); (case sa_Reader => k_is); (case n_Reader_data => k_is); (case n_Reader_at => k_is); (case mk_Reader => k_is); (case kc_Reader => k_is); (case a_DamagedPacket => k_is); (case x_DamagedPacket => k_exc); (case kc_DamagedPacket => k_is); (case b_DamagedPacket => k_is); (case t_DamagedPacket => k_is); (case ic_DamagedPacket => k_is); (case s_DamagedPacket_DamagedPacket => (first | rfl | k_is)); (case a0 => k_is); (case l0 => k_is); (case c0 => k_is); (case k0 => k_is); (case a1 => k_is); (case l1 => k_is); (case c1 => k_is); (case k1 => k_is); (case a2 => k_is); (case l2 => k_is); (case c2 => k_is); (case k2 => k_is); (case a3 => k_is); (case l3 => k_is); (case c3 => k_is); (case k3 => k_is); (case a4 => k_is); (case i4 => k_is); (case l4 => k_is); (case c4 => k_is); (case k4 => k_is); (case a5 => k_is); (case i5 => k_is); (case l5 => k_is); (case c5 => k_is); (case k5 => k_is); (case a6 => k_is); (case i6 => k_is); (case l6 => k_is); (case c6 => k_is); (case k6 => k_is); (case a7 => k_is); (case l7 => k_is); (case c7 => k_is); (case k7 => k_is); (case a8 => k_is); (case l8 => k_is); (case c8 => k_is); (case k8 => k_is); (case a9 => k_is); (case l9 => k_is); (case c9 => k_is); (case k9 => k_is); (case a10 => k_is); (case l10 => k_is); (case c10 => k_is); (case k10 => k_is); (case a11 => k_is); (case l11 => k_is); (case c11 => k_is); (case k11 => k_is); (case y_NUMBER_BYTES => k_is); (case y_int => k_is); (case y_len => k_is); (case y_list => k_is); (case y_min => k_is); (case y_range => k_is)

