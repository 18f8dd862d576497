import PyProof.Rows.All
import Wide.All
import OpenK.AllK
import Wide.FinOn
import HandS.ForMost
import HandS.Wide
import HandS.Evl
import HandS.TupAny
import HandS.IsInst
import HandS.Exc
import HandS.TryOnly
import HandS.ExcOwn
import HandS.CallSlots
import HandS.WordsExc
import HandS.Dict
import HandS.More
import HandS.TupLe
import HandS.Deep
import HandS.Words
import HandS.Text
import PyProof.P3Eq
import HandS.Base
import HandS.Call
import HandS.List
import HandS.SortKw
import KE.SortData
import HandS.EndBits
import PySem.Challenge.RW_kithwhole_k02_order_of_changes
set_option Elab.async false
set_option linter.all false
set_option maxRecDepth 100000
/-! Tq1: data as trees, cells that may turn, the state's truth in the heap. -/
namespace Tq
open PySem PySem.Spec PyProof.Rows L2

/-- other objects with parts: a dict by ints and texts, a dict by tuples of these, an instance of the class under a global name -/
inductive Hd where
  | dic (ks : List Key) | dit (ks : List (List Key)) | ins (C : Str) (fs : List Str)
/-- data that nobody changes -/
inductive D where
  | non | bl (b : Bool) | int (i : Int) | str (x : Str) | tup (xs : List D) | kt (xs : List D) | lst (xs : List D) | scr (ns : List Int) | fn (x : Str) | nd (h : Hd) (xs : List D)
/-- values: data, a cell, a tuple with cells in it -/
inductive A where
  | d (x : D) | r (k : Nat) | tup (ws : List A)
/-- what a cell holds -/
inductive O where
  | lst (ws : List A) | nd (h : Hd) (ws : List A) | dead
abbrev Hq := List O
abbrev Sl := List (Option A)
/-- an exception: of an own class, bare or with one field; of a built-in class -/
inductive Xc where
  | own (C : Str) | fld (C f : Str) (w : A) | blt (T : String)

def glAt (K : PySem.W.Frag) (C : Str) : Option Addr := match PySem.W.nsIn K mainGlobals C with | some (some (.ref c)) => some c | _ => none
inductive HdAt (K : PySem.W.Frag) (H : Hp) (a : Addr) : Hd → List V → List Addr → Prop
  | dic {ks : List Key} {vs : List V} : H a = some (.dK (ks.zip vs)) → ks.length = vs.length → HdAt K H a (.dic ks) vs [a]
  | dit {ks : List (List Key)} {vs : List V} : H a = some (.dT (ks.zip vs)) → ks.length = vs.length → HdAt K H a (.dit ks) vs [a]
  | ins {C : Str} {ca dx : Addr} {fs : List Str} {vs : List V} : glAt K C = some ca → H a = some (.ins ca dx (fs.zip vs)) → H dx = some (.own a) → fs.length = vs.length → HdAt K H a (.ins C fs) vs [a, dx]
theorem HdAt.to {K : PySem.W.Frag} {H H' : Hp} {a : Addr} {h : Hd} {vs : List V} {own : List Addr} (x : HdAt K H a h vs own) (e : ∀ b ∈ own, ∀ o, H b = some o → H' b = some o) : HdAt K H' a h vs own := by
  cases x with
  | dic h1 h2 => exact .dic (e _ (by simp) _ h1) h2
  | dit h1 h2 => exact .dit (e _ (by simp) _ h1) h2
  | ins h0 h1 h2 h4 => exact .ins h0 (e _ (by simp) _ h1) (e _ (by simp) _ h2) h4
theorem HdAt.own_or {K : PySem.W.Frag} {H : Hp} {a : Addr} {h : Hd} {vs : List V} {own : List Addr} (x : HdAt K H a h vs own) : a ∈ own ∧ (∀ b ∈ own, b = a ∨ H b = some (.own a)) ∧ (∀ b ∈ own, H b ≠ none) ∧ H a ≠ none ∧ ∀ z, H a ≠ some (.own z) := by
  cases x with
  | dic h1 h2 => exact ⟨by simp, by simp, by simp [h1], by simp [h1], by simp [h1]⟩
  | dit h1 h2 => exact ⟨by simp, by simp, by simp [h1], by simp [h1], by simp [h1]⟩
  | ins h0 h1 h2 h4 => exact ⟨by simp, by simp [h2], by simp [h1, h2], by simp [h1], by simp [h1]⟩
theorem sqt_of {K : PySem.W.Frag} {B : Hp} {a : Addr} {xs : List V} (h : B a = some (.tup xs)) : SqT K B a xs := .inl (.inl h)
theorem sqt_mono {K : PySem.W.Frag} {B B' : Hp} {a : Addr} {xs : List V} (e : Same B B') (h : SqT K B a xs) : SqT K B' a xs := by
  rcases h with (h | ⟨o, h⟩) | h
  · exact .inl (.inl (e _ _ h))
  · exact .inl (.inr ⟨o, e _ _ h⟩)
  · exact .inr h
mutual
inductive Rp (K : PySem.W.Frag) (B : Hp) : V → D → Prop
  | non : Rp K B .non .non
  | bl (b : Bool) : Rp K B (.bl b) (.bl b)
  | int (i : Int) : Rp K B (.int i) (.int i)
  | str (x : Str) : Rp K B (.str x) (.str x)
  | tup {a : Addr} {vs : List V} {ds : List D} : B a = some (.tup vs) → RpL K B vs ds → Rp K B (.ref a) (.tup ds)
  | kt {a : Addr} {vs : List V} {ds : List D} : SqT K B a vs → RpL K B vs ds → Rp K B (.ref a) (.kt ds)
  | lst {a : Addr} {vs : List V} {ds : List D} : B a = some (.lst vs) → RpL K B vs ds → Rp K B (.ref a) (.lst ds)
  | scr {a : Addr} {ns : List Int} : SqL K B a (ns.map V.int) → Rp K B (.ref a) (.scr ns)
  | fn {a : Addr} {x : Str} : glAt K x = some a → Rp K B (.ref a) (.fn x)
  | nd {a : Addr} {h : Hd} {vs : List V} {ds : List D} {own : List Addr} : HdAt K B a h vs own → RpL K B vs ds → Rp K B (.ref a) (.nd h ds)
inductive RpL (K : PySem.W.Frag) (B : Hp) : List V → List D → Prop
  | nil : RpL K B [] []
  | cons {v : V} {vs : List V} {d : D} {ds : List D} : Rp K B v d → RpL K B vs ds → RpL K B (v :: vs) (d :: ds)
end
section
variable {K : PySem.W.Frag} {B B' H H' : Hp}
mutual
theorem Rp.mono (e : Same B B') : ∀ {v : V} {d : D}, Rp K B v d → Rp K B' v d
  | _, _, .non => .non
  | _, _, .bl b => .bl b
  | _, _, .int i => .int i
  | _, _, .str x => .str x
  | _, _, .tup h r => .tup (e _ _ h) (RpL.mono e r)
  | _, _, .kt h r => .kt (sqt_mono e h) (RpL.mono e r)
  | _, _, .lst h r => .lst (e _ _ h) (RpL.mono e r)
  | _, _, .scr h => .scr (e.seq h)
  | _, _, .fn h => .fn h
  | _, _, .nd h r => .nd (h.to fun _ _ _ z => e _ _ z) (RpL.mono e r)
theorem RpL.mono (e : Same B B') : ∀ {vs : List V} {ds : List D}, RpL K B vs ds → RpL K B' vs ds
  | _, _, .nil => .nil
  | _, _, .cons h r => .cons (Rp.mono e h) (RpL.mono e r)
end
theorem RpL.length : ∀ {vs : List V} {ds : List D}, RpL K B vs ds → vs.length = ds.length
  | _, _, .nil => rfl
  | _, _, .cons _ r => congrArg (· + 1) r.length
theorem RpL.get : ∀ {vs : List V} {ds : List D} {i : Nat} {d : D}, RpL K B vs ds → ds[i]? = some d → ∃ v, vs[i]? = some v ∧ Rp K B v d
  | _, _, _, _, .nil, e => by simp at e
  | _, _, 0, _, .cons r _, e => by simp at e; subst e; exact ⟨_, rfl, r⟩
  | _, _, i + 1, d, .cons _ t, e => by
    obtain ⟨u, h1, h2⟩ := RpL.get (i := i) (d := d) t (by simpa using e)
    exact ⟨u, by simpa using h1, h2⟩
theorem RpL.append : ∀ {vs ws : List V} {ds es : List D}, RpL K B vs ds → RpL K B ws es → RpL K B (vs ++ ws) (ds ++ es)
  | _, _, _, _, .nil, s => s
  | _, _, _, _, .cons r t, s => .cons r (RpL.append t s)
end
mutual
inductive RA (K : PySem.W.Frag) (B : Hp) (ρ : Nat → Option Addr) : V → A → Prop
  | d {v : V} {x : D} : Rp K B v x → RA K B ρ v (.d x)
  | r {k : Nat} {a : Addr} : ρ k = some a → RA K B ρ (.ref a) (.r k)
  | tup {a : Addr} {vs : List V} {ws : List A} : B a = some (.tup vs) → RAL K B ρ vs ws → RA K B ρ (.ref a) (.tup ws)
inductive RAL (K : PySem.W.Frag) (B : Hp) (ρ : Nat → Option Addr) : List V → List A → Prop
  | nil : RAL K B ρ [] []
  | cons {v : V} {vs : List V} {w : A} {ws : List A} : RA K B ρ v w → RAL K B ρ vs ws → RAL K B ρ (v :: vs) (w :: ws)
end
/-- from state to state, while Z stands aside -/
structure Gr (Z B : Hp) (ρ : Nat → Option Addr) (B' : Hp) (ρ' : Nat → Option Addr) : Prop where
  bb : Same B B'
  rr : ∀ k a, ρ k = some a → ρ' k = some a
  fz : ∀ a, B a = none → B' a ≠ none → Z a = none
section
variable {K : PySem.W.Frag} {Z B B' B'' H H' : Hp} {ρ ρ' ρ'' : Nat → Option Addr}
theorem Gr.refl : Gr Z B ρ B ρ := ⟨fun _ _ h => h, fun _ _ h => h, fun a h h' => absurd h h'⟩
theorem Gr.trans (f : Gr Z B ρ B' ρ') (g : Gr Z B' ρ' B'' ρ'') : Gr Z B ρ B'' ρ'' := by
  refine ⟨fun a o h => g.bb a o (f.bb a o h), fun k a h => g.rr k a (f.rr k a h), fun a h h' => ?_⟩
  by_cases e : B' a = none
  · exact g.fz a e h'
  · exact f.fz a h e
mutual
theorem RA.mono (g : Gr Z B ρ B' ρ') : ∀ {v : V} {w : A}, RA K B ρ v w → RA K B' ρ' v w
  | _, _, .d r => .d (r.mono g.bb)
  | _, _, .r h => .r (g.rr _ _ h)
  | _, _, .tup h r => .tup (g.bb _ _ h) (RAL.mono g r)
theorem RAL.mono (g : Gr Z B ρ B' ρ') : ∀ {vs : List V} {ws : List A}, RAL K B ρ vs ws → RAL K B' ρ' vs ws
  | _, _, .nil => .nil
  | _, _, .cons h r => .cons (RA.mono g h) (RAL.mono g r)
end
theorem RAL.length : ∀ {vs : List V} {ws : List A}, RAL K B ρ vs ws → vs.length = ws.length
  | _, _, .nil => rfl
  | _, _, .cons _ r => congrArg (· + 1) r.length
theorem RAL.get : ∀ {vs : List V} {ds : List A} {i : Nat} {d : A}, RAL K B ρ vs ds → ds[i]? = some d → ∃ v, vs[i]? = some v ∧ RA K B ρ v d
  | _, _, _, _, .nil, e => by simp at e
  | _, _, 0, _, .cons r _, e => by simp at e; subst e; exact ⟨_, rfl, r⟩
  | _, _, i + 1, d, .cons _ t, e => by
    obtain ⟨u, h1, h2⟩ := RAL.get (i := i) (d := d) t (by simpa using e)
    exact ⟨u, by simpa using h1, h2⟩
theorem RAL.append : ∀ {vs ws : List V} {ds es : List A}, RAL K B ρ vs ds → RAL K B ρ ws es → RAL K B ρ (vs ++ ws) (ds ++ es)
  | _, _, _, _, .nil, s => s
  | _, _, _, _, .cons r t, s => .cons r (RAL.append t s)
theorem RAL.take : ∀ {vs : List V} {ds : List A} (n : Nat), RAL K B ρ vs ds → RAL K B ρ (vs.take n) (ds.take n)
  | _, _, 0, _ => by simpa using RAL.nil
  | _, _, _ + 1, .nil => .nil
  | _, _, n + 1, .cons r t => .cons r (RAL.take n t)
theorem RAL.drop : ∀ {vs : List V} {ds : List A} (n : Nat), RAL K B ρ vs ds → RAL K B ρ (vs.drop n) (ds.drop n)
  | _, _, 0, r => by simpa using r
  | _, _, _ + 1, .nil => .nil
  | _, _, n + 1, .cons _ t => RAL.drop n t
theorem RAL.set : ∀ {vs : List V} {ds : List A} (n : Nat) {v : V} {w : A}, RAL K B ρ vs ds → RA K B ρ v w → RAL K B ρ (vs.set n v) (ds.set n w)
  | _, _, _, _, _, .nil, _ => by simpa using RAL.nil
  | _, _, 0, _, _, .cons _ t, w => .cons w t
  | _, _, n + 1, _, _, .cons r t, w => .cons r (RAL.set n t w)
theorem RAL.reverse {vs : List V} {ds : List A} (h : RAL K B ρ vs ds) : RAL K B ρ vs.reverse ds.reverse := by
  induction vs generalizing ds with
  | nil => cases h; exact .nil
  | cons v vs ih =>
    cases h with
    | cons r t =>
      rw [List.reverse_cons, List.reverse_cons]
      exact (ih t).append (.cons r .nil)
theorem ral_ds : ∀ {vs : List V} {ds : List D}, RpL K B vs ds → RAL K B ρ vs (ds.map A.d)
  | _, _, .nil => .nil
  | _, _, .cons r t => .cons (.d r) (ral_ds t)
theorem ral_rpl : ∀ {ds : List D} {vs : List V}, RAL K B ρ vs (ds.map A.d) → RpL K B vs ds
  | [], _, h => by cases h; exact .nil
  | d :: r, _, h => by
    cases h with
    | cons h t =>
      cases h with
      | d h => exact .cons h (ral_rpl t)
theorem rpl_ints : ∀ (ns : List Int), RpL K B (ns.map V.int) (ns.map D.int)
  | [] => .nil
  | n :: r => .cons (.int n) (rpl_ints r)
end

/-! ### cells -/
inductive CeAt (K : PySem.W.Frag) (Z B H : Hp) (ρ : Nat → Option Addr) (a : Addr) : O → Prop
  | lst {vs : List V} {ws : List A} : H a = some (.lst vs) → RAL K B ρ vs ws → B a = none → Z a = none → CeAt K Z B H ρ a (.lst ws)
  | nd {hd : Hd} {vs : List V} {ws : List A} {own : List Addr} : HdAt K H a hd vs own → RAL K B ρ vs ws → (∀ b ∈ own, B b = none ∧ Z b = none) → CeAt K Z B H ρ a (.nd hd ws)
  | dead : Z a = none → CeAt K Z B H ρ a .dead
structure Ok (K : PySem.W.Frag) (Z B : Hp) (ρ : Nat → Option Addr) (H : Hp) (h : Hq) : Prop where
  ex : Same B H
  zz : Same Z H
  ce : ∀ (k : Nat) (o : O), h[k]? = some o → ∃ a, ρ k = some a ∧ CeAt K Z B H ρ a o
  nj : ∀ i j a, ρ i = some a → ρ j = some a → i = j
  al : ∀ k a, ρ k = some a → H a ≠ none
  up : ∀ k, h.length ≤ k → ρ k = none
section
variable {K : PySem.W.Frag} {Z B B' H H' : Hp} {ρ ρ' : Nat → Option Addr} {h : Hq} {σ : L2.St} {τ : Sl}
/-- a new object that nobody changes -/
theorem Ok.newB {q : Addr} {o : HO} (ok : Ok K Z B ρ H h) (hq : H q = none) : Ok K Z (upd B q o) ρ (upd H q o) h ∧ Gr Z B ρ (upd B q o) ρ := by
  have hb : B q = none := by
    cases z : B q with
    | none => rfl
    | some u => rw [ok.ex q u z] at hq; cases hq
  have hz : Z q = none := by
    cases z : Z q with
    | none => rfl
    | some u => rw [ok.zz q u z] at hq; cases hq
  have g : Gr Z B ρ (upd B q o) ρ := ⟨fun a u e => by rw [upd_ne (ne_of_none e hb)]; exact e, fun _ _ e => e, fun a e e' => by
    by_cases z : a = q
    · rw [z]; exact hz
    · rw [upd_ne z] at e'; exact absurd e e'⟩
  refine ⟨⟨fun a u e => ?_, fun a u e => ?_, fun k c e => ?_, ok.nj, fun k a e => ?_, ok.up⟩, g⟩
  · by_cases z : a = q
    · subst z; rw [upd_same] at e ⊢; exact e
    · rw [upd_ne z] at e ⊢; exact ok.ex a u e
  · rw [upd_ne (ne_of_none e hz)]; exact ok.zz a u e
  · obtain ⟨a, h1, h2⟩ := ok.ce k c e
    refine ⟨a, h1, ?_⟩
    cases h2 with
    | lst e1 e2 e3 e4 =>
      have n : a ≠ q := fun z => by subst z; rw [hq] at e1; cases e1
      exact .lst (by rw [upd_ne n]; exact e1) (e2.mono g) (by rw [upd_ne n]; exact e3) e4
    | nd e1 e2 e3 =>
      have n : ∀ b ∈ _, b ≠ q := fun b hb' z => e1.own_or.2.2.1 b hb' (by rw [z]; exact hq)
      exact .nd (e1.to fun b hb' u e => by rw [upd_ne (n b hb')]; exact e) (e2.mono g) fun b hb' => ⟨by rw [upd_ne (n b hb')]; exact (e3 b hb').1, (e3 b hb').2⟩
    | dead ed => exact .dead ed
  · by_cases z : a = q
    · subst z; rw [upd_same]; simp
    · rw [upd_ne z]; exact ok.al k a e
/-- a new cell -/
theorem Ok.newC {q : Addr} {o : O} (ok : Ok K Z B ρ H h) (hq : H q = none) (hh : ∀ b u, H b = some u → H' b = some u) (hq' : H' q ≠ none) (c : CeAt K Z B H' ρ q o) :
    Ok K Z B (fun k => if k = h.length then some q else ρ k) H' (h ++ [o]) ∧ Gr Z B ρ B (fun k => if k = h.length then some q else ρ k) := by
  have g : Gr Z B ρ B (fun k => if k = h.length then some q else ρ k) := ⟨fun _ _ e => e, fun k a e => by
    have : k ≠ h.length := fun z => by rw [ok.up k (by omega)] at e; cases e
    show (if k = h.length then some q else ρ k) = some a
    rw [if_neg this]; exact e, fun a e e' => absurd e e'⟩
  refine ⟨⟨fun a u e => hh _ _ (ok.ex a u e), fun a u e => hh _ _ (ok.zz a u e), fun k c' e => ?_, fun i j a e1 e2 => ?_, fun k a e => ?_, fun k e => ?_⟩, g⟩
  · by_cases z : k = h.length
    · subst z
      rw [List.getElem?_append_right (by omega), Nat.sub_self] at e
      cases e
      refine ⟨q, if_pos rfl, ?_⟩
      cases c with
      | lst e1 e2 e3 e4 => exact .lst e1 (e2.mono g) e3 e4
      | nd e1 e2 e3 => exact .nd e1 (e2.mono g) e3
      | dead ed => exact .dead ed
    · have hk : k < h.length := by
        have := (List.getElem?_eq_some_iff.mp e).1
        rw [List.length_append, List.length_singleton] at this
        omega
      rw [List.getElem?_append_left hk] at e
      obtain ⟨a, h1, h2⟩ := ok.ce k c' e
      refine ⟨a, g.rr k a h1, ?_⟩
      cases h2 with
      | lst e1 e2 e3 e4 => exact .lst (hh _ _ e1) (e2.mono g) e3 e4
      | nd e1 e2 e3 => exact .nd (e1.to fun b _ u e => hh _ _ e) (e2.mono g) e3
      | dead ed => exact .dead ed
  · have e1 : (if i = h.length then some q else ρ i) = some a := e1
    have e2 : (if j = h.length then some q else ρ j) = some a := e2
    split at e1 <;> split at e2
    · omega
    · cases e1; exact absurd hq (ok.al _ _ e2)
    · cases e2; exact absurd hq (ok.al _ _ e1)
    · exact ok.nj i j a e1 e2
  · have e : (if k = h.length then some q else ρ k) = some a := e
    split at e
    · cases e; exact hq'
    · have := ok.al k a e
      cases z : H a with
      | none => exact absurd z this
      | some u => rw [hh _ _ z]; simp
  · rw [List.length_append, List.length_singleton] at e
    show (if k = h.length then some q else ρ k) = none
    rw [if_neg (by omega)]
    exact ok.up k (by omega)
/-- a cell turns -/
theorem Ok.mut {k : Nat} {a : Addr} {o o' : O} {ob : HO} (ok : Ok K Z B ρ H h) (e : h[k]? = some o) (hr : ρ k = some a) (hn : ∀ z, H a ≠ some (.own z)) (hb : B a = none) (hz : Z a = none) (c : CeAt K Z B (upd H a ob) ρ a o') : Ok K Z B ρ (upd H a ob) (h.set k o') := by
  have hk : k < h.length := (List.getElem?_eq_some_iff.mp e).1
  refine ⟨fun b u q => ?_, fun b u q => ?_, fun j c' q => ?_, ok.nj, fun j b q => ?_, fun j q => ok.up j (by rwa [List.length_set] at q)⟩
  · rw [upd_ne (ne_of_none q hb)]; exact ok.ex b u q
  · rw [upd_ne (ne_of_none q hz)]; exact ok.zz b u q
  · by_cases z : j = k
    · subst z
      rw [List.getElem?_set_self hk] at q
      cases q
      exact ⟨a, hr, c⟩
    · rw [List.getElem?_set_ne (Ne.symm z)] at q
      obtain ⟨b, h1, h2⟩ := ok.ce j c' q
      have nab : b ≠ a := fun y => z (ok.nj j k a (by rw [← y]; exact h1) hr)
      refine ⟨b, h1, ?_⟩
      cases h2 with
      | lst e1 e2 e3 e4 => exact .lst (by rw [upd_ne nab]; exact e1) e2 e3 e4
      | nd e1 e2 e3 =>
        refine .nd (e1.to fun y hy u eu => ?_) e2 e3
        rcases e1.own_or.2.1 y hy with w | w
        · subst w; rw [upd_ne nab]; exact eu
        · rw [upd_ne fun v => hn b (by rw [← v]; exact w)]; exact eu
      | dead ed => exact .dead ed
  · by_cases z : b = a
    · subst z; rw [upd_same]; simp
    · rw [upd_ne z]; exact ok.al j b q
/-- other heaps that agree where it counts -/
theorem Ok.grow {H' : Hp} (ok : Ok K Z B ρ H h) (hh : ∀ b u, H b = some u → H' b = some u) : Ok K Z B ρ H' h := by
  refine ⟨fun a u e => hh _ _ (ok.ex a u e), fun a u e => hh _ _ (ok.zz a u e), fun k c e => ?_, ok.nj, fun k a e => ?_, ok.up⟩
  · obtain ⟨a, h1, h2⟩ := ok.ce k c e
    refine ⟨a, h1, ?_⟩
    cases h2 with
    | lst e1 e2 e3 e4 => exact .lst (hh _ _ e1) e2 e3 e4
    | nd e1 e2 e3 => exact .nd (e1.to fun b _ u e => hh _ _ e) e2 e3
    | dead ed => exact .dead ed
  · have := ok.al k a e
    cases z : H a with
    | none => exact absurd z this
    | some u => rw [hh _ _ z]; simp

/-! ### slots -/
structure SlOk (K : PySem.W.Frag) (B : Hp) (ρ : Nat → Option Addr) (σ : L2.St) (τ : Sl) : Prop where
  ln : σ.length = τ.length
  at_ : ∀ (i : Nat) (w : A), τ[i]? = some (some w) → ∃ v, σ[i]? = some (some v) ∧ RA K B ρ v w
theorem SlOk.mono (s : SlOk K B ρ σ τ) (g : Gr Z B ρ B' ρ') : SlOk K B' ρ' σ τ := ⟨s.ln, fun i w e => let ⟨v, h1, h2⟩ := s.at_ i w e; ⟨v, h1, h2.mono g⟩⟩
theorem SlOk.put (s : SlOk K B ρ σ τ) {i : Nat} {v : V} {w : A} (r : RA K B ρ v w) : SlOk K B ρ (σ.set i (some v)) (τ.set i (some w)) := by
  refine ⟨by rw [List.length_set, List.length_set]; exact s.ln, fun j u e => ?_⟩
  by_cases z : i = j
  · subst z
    have hi : i < τ.length := by
      have := (List.getElem?_eq_some_iff.mp e).1
      rwa [List.length_set] at this
    rw [List.getElem?_set_self hi] at e
    cases e
    exact ⟨v, List.getElem?_set_self (by rw [s.ln]; exact hi), r⟩
  · rw [List.getElem?_set_ne z] at e
    obtain ⟨x, h1, h2⟩ := s.at_ j u e
    exact ⟨x, by rw [List.getElem?_set_ne z]; exact h1, h2⟩
end

/-! ### trees of values -/
def mapMn {α β : Type} (f : α → Option β) : List α → Option (List β)
  | [] => some []
  | a :: r => match f a with | some b => (match mapMn f r with | some bs => some (b :: bs) | none => none) | none => none
def vw : Nat → Hq → A → Option D
  | _, _, .d x => some x
  | 0, _, _ => none
  | n + 1, h, .r k => match h[k]? with
    | some (.lst ws) => (mapMn (vw n h) ws).map .lst
    | some (.nd hd ws) => (mapMn (vw n h) ws).map (.nd hd)
    | _ => none
  | n + 1, h, .tup ws => (mapMn (vw n h) ws).map .tup
abbrev view (h : Hq) (w : A) : Option D := vw 32 h w
@[simp] theorem vw_d (n : Nat) (h : Hq) (x : D) : vw n h (.d x) = some x := by cases n <;> rfl
theorem mapMn_d : ∀ (f : A → Option D) (ds : List D), (∀ x, f (.d x) = some x) → mapMn f (ds.map A.d) = some ds
  | _, [], _ => rfl
  | f, d :: r, h => by
    rw [List.map_cons]
    unfold mapMn
    rw [h, mapMn_d f r h]
theorem vw_cell {n : Nat} {h : Hq} {k : Nat} {ds : List D} (e : h[k]? = some (.lst (ds.map A.d))) : vw (n + 1) h (.r k) = some (.lst ds) := by
  unfold vw
  rw [e]
  dsimp only
  rw [mapMn_d _ _ (vw_d n h)]
  rfl
section
variable {K : PySem.W.Frag} {Z B H : Hp} {ρ : Nat → Option Addr} {h : Hq}
theorem vws_of {f : A → Option D} {P : Hp} (hf : ∀ v w d, RA K B ρ v w → f w = some d → Rp K P v d) : ∀ {vs : List V} {ws : List A} {ds : List D}, RAL K B ρ vs ws → mapMn f ws = some ds → RpL K P vs ds
  | _, _, _, .nil, e => by cases e; exact .nil
  | _, w :: r, ds, .cons ra ral, e => by
    unfold mapMn at e
    split at e
    · rename_i b e1
      split at e
      · rename_i bs e2
        cases e
        exact .cons (hf _ _ _ ra e1) (vws_of hf ral e2)
      · cases e
    · cases e
/-- seen at a heap that holds what is frozen and the cells -/
theorem vw_at {P : Hp} (ok : Ok K Z B ρ H h) (e1 : Same B P) (e2 : ∀ b, Z b = none → B b = none → ∀ u, H b = some u → P b = some u) : ∀ (n : Nat) (v : V) (w : A) (d : D), RA K B ρ v w → vw n h w = some d → Rp K P v d
  | n, _, .d x, d, .d r, e => by rw [vw_d] at e; cases e; exact r.mono e1
  | 0, _, .r k, d, _, e => by cases e
  | 0, _, .tup ws, d, _, e => by cases e
  | n + 1, _, .r k, d, .r hr, e => by
    unfold vw at e
    split at e
    · rename_i ws e3
      obtain ⟨ds, e4, rfl⟩ := Option.map_eq_some_iff.mp e
      obtain ⟨a', h1, h2⟩ := ok.ce k _ e3
      rw [hr] at h1
      cases h1
      cases h2 with
      | lst q1 q2 q3 q4 => exact .lst (e2 _ q4 q3 _ q1) (vws_of (vw_at ok e1 e2 n) q2 e4)
    · rename_i hd ws e3
      obtain ⟨ds, e4, rfl⟩ := Option.map_eq_some_iff.mp e
      obtain ⟨a', h1, h2⟩ := ok.ce k _ e3
      rw [hr] at h1
      cases h1
      cases h2 with
      | nd q1 q2 q3 => exact .nd (q1.to fun b hb u eu => e2 b (q3 b hb).2 (q3 b hb).1 u eu) (vws_of (vw_at ok e1 e2 n) q2 e4)
    · cases e
  | n + 1, _, .tup ws, d, .tup ht rl, e => by
    unfold vw at e
    obtain ⟨ds, e4, rfl⟩ := Option.map_eq_some_iff.mp e
    exact .tup (e1 _ _ ht) (vws_of (vw_at ok e1 e2 n) rl e4)
theorem Ok.see (ok : Ok K Z B ρ H h) {n : Nat} {v : V} {w : A} {d : D} (r : RA K B ρ v w) (e : vw n h w = some d) : Rp K H v d := vw_at ok ok.ex (fun _ _ _ _ e => e) n v w d r e
end

/-! ### outcomes -/
inductive Rs (α : Type) where
  | ok (a : α) (h : Hq) | ex (x : Xc) (h : Hq)
abbrev E (α : Type) := Sl → Hq → Option (Rs α)
def bd {α β : Type} (r : Option (Rs α)) (k : α → Hq → Option (Rs β)) : Option (Rs β) := match r with
  | some (.ok a h) => k a h
  | some (.ex x h) => some (.ex x h)
  | none => none
@[simp] theorem bd_ok {α β : Type} (a : α) (h : Hq) (k : α → Hq → Option (Rs β)) : bd (some (.ok a h)) k = k a h := rfl
@[simp] theorem bd_ex {α β : Type} (x : Xc) (h : Hq) (k : α → Hq → Option (Rs β)) : bd (some (.ex x h)) k = some (.ex x h) := rfl
@[simp] theorem bd_no {α β : Type} (k : α → Hq → Option (Rs β)) : bd none k = none := rfl
inductive XcAt (K : PySem.W.Frag) (B : Hp) (ρ : Nat → Option Addr) (H : Hp) : Xc → Value → Option Addr → Prop
  | own {C : Str} {c : Addr} : glAt K C = some c → XcAt K B ρ H (.own C) (.ref c) none
  | fld {C f : Str} {c d : Addr} {v : V} {w : A} : glAt K C = some c → H d = some (.xd [(f, v)]) → RA K B ρ v w → XcAt K B ρ H (.fld C f w) (.ref c) (some d)
  | blt {T : String} : XcAt K B ρ H (.blt T) (.type T) none
def Post {α : Type} (K : PySem.W.Frag) (Z : Hp) (W : XK) (B : Hp) (ρ : Nat → Option Addr) (R : α → Hq → Hp → (Nat → Option Addr) → Hp → Prop) : Option (Rs α) → Prop
  | none => False
  | some (.ok a h) => ∀ B' ρ' H', Ok K Z B' ρ' H' h → Gr Z B ρ B' ρ' → R a h B' ρ' H'
  | some (.ex x h) => ∀ B' ρ' H' cls d, Ok K Z B' ρ' H' h → Gr Z B ρ B' ρ' → XcAt K B' ρ' H' x cls d → W cls d H'
section
variable {α β : Type} {K : PySem.W.Frag} {Z B B' H : Hp} {ρ ρ' : Nat → Option Addr} {h : Hq} {W : XK} {R : α → Hq → Hp → (Nat → Option Addr) → Hp → Prop} {r : Option (Rs α)}
theorem Post.from (q : Post K Z W B ρ R r) (g : Gr Z B ρ B' ρ') : Post K Z W B' ρ' R r := by
  match r, q with
  | some (.ok a h), q => exact fun B2 ρ2 H2 ok g2 => q B2 ρ2 H2 ok (g.trans g2)
  | some (.ex x h), q => exact fun B2 ρ2 H2 cls d ok g2 x => q B2 ρ2 H2 cls d ok (g.trans g2) x
theorem Post.imp {R' : α → Hq → Hp → (Nat → Option Addr) → Hp → Prop} (q : Post K Z W B ρ R r) (i : ∀ a h B' ρ' H', Ok K Z B' ρ' H' h → Gr Z B ρ B' ρ' → R a h B' ρ' H' → R' a h B' ρ' H') : Post K Z W B ρ R' r := by
  match r, q with
  | some (.ok a h), q => exact fun B2 ρ2 H2 ok g2 => i _ _ _ _ _ ok g2 (q B2 ρ2 H2 ok g2)
  | some (.ex x h), q => exact q
theorem Post.bd {R : β → Hq → Hp → (Nat → Option Addr) → Hp → Prop} {k : α → Hq → Option (Rs β)} (q : Post K Z W B ρ R (Tq.bd r k)) : Post K Z W B ρ (fun a h B' ρ' H' => Post K Z W B' ρ' R (k a h)) r := by
  match r, q with
  | some (.ok a h), q => exact fun B2 ρ2 H2 ok g2 => Post.from q g2
  | some (.ex x h), q => exact q
end
end Tq

/-! Tq2: expressions. -/
namespace Tq
open PySem PySem.Spec PyProof.Rows L2

abbrev LIM : Nat := 16777216
theorem lim_eq : LIM = sizeLine := by rw [sizeLine_eq]
abbrev Wx := WX
def tE (K : PySem.W.Frag) (W : WX) (m : E A) : TE := fun σ H Q => ∃ Z B ρ τ h, Ok K Z B ρ H h ∧ SlOk K B ρ σ τ ∧ Post K Z (fun c d H' => W c d σ H') B ρ (fun w _ B' ρ' H' => ∀ v, RA K B' ρ' v w → Q v H') (m τ h)
structure RX (X : Cx) (W : WX) (e : Expr) (m : E A) : Prop where
  pe : PE X e (tE X.K W m)
theorem pe_imp {X : Cx} {e : Expr} {t t' : TE} (h : PE X e t) (i : ∀ σ H Q, t' σ H Q → t σ H Q) : PE X e t' := ⟨fun pins s σ H Q I q => h.run pins s σ H Q I (i _ _ _ q)⟩
theorem pt_imp {X : Cx} {e : Expr} {t t' : TT} (h : PT X e t) (i : ∀ σ H Q, t' σ H Q → t σ H Q) : PT X e t' := ⟨fun pins s σ H Q I q => h.run pins s σ H Q I (i _ _ _ q)⟩
theorem pw_imp {X : Cx} {e : Expr} {t t' : TT} (h : PW X e t) (i : ∀ σ H Q, t' σ H Q → t σ H Q) : PW X e t' := ⟨fun w pins s σ H Q I q => h.run w pins s σ H Q I (i _ _ _ q)⟩
theorem pa_imp {X : Cx} {e : List Expr} {t t' : TA} (h : PA X e t) (i : ∀ σ H Q, t' σ H Q → t σ H Q) : PA X e t' := ⟨fun pos pins s σ H Q I q => h.run pos pins s σ H Q I (i _ _ _ q)⟩
theorem ps_imp {X : Cx} {e : Stmt} {t t' : TS} (h : PS X e t) (i : ∀ D σ H, t' D σ H → t D σ H) : PS X e t' := ⟨fun pins s σ H D I q => h.run pins s σ H D I (i _ _ _ q)⟩
theorem pss_imp {X : Cx} {e : List Stmt} {t t' : TS} (h : PSs X e t) (i : ∀ D σ H, t' D σ H → t D σ H) : PSs X e t' := ⟨fun pins s σ H D I q => h.run pins s σ H D I (i _ _ _ q)⟩
theorem po_imp {X : Cx} {e : Option Expr} {t t' : TO} (h : PO X e t) (i : ∀ σ H Q, t' σ H Q → t σ H Q) : PO X e t' := by
  constructor
  intros
  rename_i I q
  exact h.run _ _ _ _ _ I (i _ _ _ q)
theorem pe_or {X : Cx} {e : Expr} {t t' : TE} (h : PE X e t) (h' : PE X e t') : PE X e fun σ H Q => t σ H Q ∨ t' σ H Q := ⟨fun pins s σ H Q I q => q.elim (h.run pins s σ H Q I) (h'.run pins s σ H Q I)⟩

section
variable {α β : Type} {K : PySem.W.Frag} {W : WX} {σ : L2.St} {τ : Sl} {H : Hp} {Q : VK} {Z B : Hp} {ρ : Nat → Option Addr} {h : Hq}
/-- a step: e is m, and what follows -/
theorem te_bd {m : E A} {k : A → Hq → Option (Rs β)} {R : β → Hq → Hp → (Nat → Option Addr) → Hp → Prop} (ok : Ok K Z B ρ H h) (sl : SlOk K B ρ σ τ) (q : Post K Z (fun c d H' => W c d σ H') B ρ R (bd (m τ h) k))
    (c : ∀ v w h1 B1 ρ1 H1, RA K B1 ρ1 v w → Ok K Z B1 ρ1 H1 h1 → SlOk K B1 ρ1 σ τ → Gr Z B ρ B1 ρ1 → Post K Z (fun c d H' => W c d σ H') B1 ρ1 R (k w h1) → Q v H1) : tE K W m σ H Q :=
  ⟨Z, B, ρ, τ, h, ok, sl, q.bd.imp fun w h1 B1 ρ1 H1 ok1 g1 q1 v r => c v w h1 B1 ρ1 H1 r ok1 (sl.mono g1) g1 q1⟩
theorem te_last {m : E A} (ok : Ok K Z B ρ H h) (sl : SlOk K B ρ σ τ) {R : A → Hq → Hp → (Nat → Option Addr) → Hp → Prop} (q : Post K Z (fun c d H' => W c d σ H') B ρ R (m τ h))
    (c : ∀ v w h1 B1 ρ1 H1, RA K B1 ρ1 v w → Ok K Z B1 ρ1 H1 h1 → SlOk K B1 ρ1 σ τ → Gr Z B ρ B1 ρ1 → R w h1 B1 ρ1 H1 → Q v H1) : tE K W m σ H Q :=
  ⟨Z, B, ρ, τ, h, ok, sl, q.imp fun w h1 B1 ρ1 H1 ok1 g1 q1 v r => c v w h1 B1 ρ1 H1 r ok1 (sl.mono g1) g1 q1⟩
end
def pu {α : Type} (a : α) (h : Hq) : Option (Rs α) := some (.ok a h)
section
variable {α : Type} {K : PySem.W.Frag} {W : XK} {Z B : Hp} {ρ : Nat → Option Addr} {H : Hp} {h : Hq} {R : α → Hq → Hp → (Nat → Option Addr) → Hp → Prop}
theorem Post.now {a : α} (q : Post K Z W B ρ R (some (.ok a h))) (ok : Ok K Z B ρ H h) : R a h B ρ H := q B ρ H ok Gr.refl
end

/-! ### leaves -/
def mC (d : D) : E A := fun _ h => some (.ok (.d d) h)
def mVar (i : Nat) : E A := fun τ h => match τ[i]? with | some (some w) => some (.ok w h) | _ => none
def mNo {α : Type} : E α := fun _ _ => none
section
variable {X : Cx} {W : WX} {e a b c : Expr} {m ma mb mc : E A} {pos : Pos}
theorem rx_no : RX X W e mNo := ⟨⟨fun pins s σ H Q I q => by
  obtain ⟨_, _, _, _, _, _, _, q⟩ := q
  exact q.elim⟩⟩
theorem rx_const {v : V} {d : D} (h : PE X e (tC v)) (r : ∀ B, Rp X.K B v d) : RX X W e (mC d) := ⟨pe_imp h fun σ H Q q => by
  obtain ⟨Z, B, ρ, τ, h, ok, sl, q⟩ := q
  exact q.now ok v (.d (r B))⟩
theorem rx_int {i j pos} : RX X W (.Constant (.int i) j pos) (mC (.int i)) := rx_const pe_int fun _ => .int i
theorem rx_bl {i j pos} : RX X W (.Constant (.bool i) j pos) (mC (.bl i)) := rx_const pe_bl fun _ => .bl i
theorem rx_str {i j pos} : RX X W (.Constant (.str i) j pos) (mC (.str i)) := rx_const pe_str fun _ => .str i
theorem rx_non {j pos} : RX X W (.Constant .none j pos) (mC .non) := rx_const pe_non fun _ => .non
theorem rx_glob {x : Str} {v : V} {d : D} {u : Value} (hm : X.mg x = some u) (r : RelV v u) (rp : ∀ B, Rp X.K B v d) (hg : Gl X x := by rfl) (hd : (x == ("__debug__" : Str)) = false := by decide) : RX X W (.Name x pos) (mC d) :=
  rx_const (pe_glob hg hm r hd) rp
theorem rx_var (i : Nat) {x : Str} (hN : X.N[i]? = some x := by rfl) (hv : Vis X.env.scope x := by first | exact Or.inl rfl | exact Or.inr (Or.inl rfl) | exact Or.inr (Or.inr rfl)) (hd : (x == ("__debug__" : Str)) = false := by decide)
    (hcd : (x == ("__classdict__" : Str)) = false := by decide) : RX X W (.Name x pos) (mVar i) := ⟨pe_imp (pv i hN hv hd hcd) fun σ H Q q => by
  obtain ⟨Z, B, ρ, τ, h, ok, sl, q⟩ := q
  unfold mVar at q
  split at q
  · rename_i w e1
    obtain ⟨v, h1, h2⟩ := sl.at_ i w e1
    exact ⟨v, h1, q.now ok v h2⟩
  · exact q.elim⟩

/-! ### operators -/
abbrev G2 := A → A → Hq → Option (Rs A)
abbrev G1 := A → Hq → Option (Rs A)
def mBin (g : G2) (ma mb : E A) : E A := fun τ h => bd (ma τ h) fun a h1 => bd (mb τ h1) fun b h2 => g a b h2
def mUn (g : G1) (ma : E A) : E A := fun τ h => bd (ma τ h) fun a h1 => g a h1
def Op2 (K : PySem.W.Frag) (r : R2) (g : G2) : Prop := ∀ (Z B : Hp) (ρ : Nat → Option Addr) (H : Hp) (h : Hq) (x y : V) (a b : A) (W : XK) (Q : VK), Ok K Z B ρ H h → RA K B ρ x a → RA K B ρ y b →
  Post K Z W B ρ (fun w _ B' ρ' H' => ∀ v, RA K B' ρ' v w → Q v H') (g a b h) → r x y H Q
def Op1 (K : PySem.W.Frag) (r : V → Hp → VK → Prop) (g : G1) : Prop := ∀ (Z B : Hp) (ρ : Nat → Option Addr) (H : Hp) (h : Hq) (x : V) (a : A) (W : XK) (Q : VK), Ok K Z B ρ H h → RA K B ρ x a →
  Post K Z W B ρ (fun w _ B' ρ' H' => ∀ v, RA K B' ρ' v w → Q v H') (g a h) → r x H Q
theorem rx_op2 {g : G2} {r : R2} {ee : Expr} (ha : RX X W a ma) (hb : RX X W b mb) (og : Op2 X.K r g) (he : ∀ {ta tb : TE}, PE X a ta → PE X b tb → PE X ee (tOp r ta tb)) : RX X W ee (mBin g ma mb) := ⟨pe_imp (he ha.pe hb.pe) fun σ H Q q => by
  obtain ⟨Z, B, ρ, τ, h, ok, sl, q⟩ := q
  exact te_bd ok sl q fun x a h1 B1 ρ1 H1 rx ok1 sl1 g1 q1 => te_bd ok1 sl1 q1 fun y b h2 B2 ρ2 H2 ry ok2 sl2 g2 q2 => og Z B2 ρ2 H2 h2 x y a b _ Q ok2 (rx.mono g2) ry q2⟩
theorem rx_bin {op : Operator} {g : G2} {r : R2} (ho : OpR X (binaryOp op) r) (og : Op2 X.K r g) (ha : RX X W a ma) (hb : RX X W b mb) : RX X W (.BinOp a op b pos) (mBin g ma mb) :=
  rx_op2 ha hb og fun h1 h2 => pe_op ho h1 h2
theorem rx_cmp {op : CmpOp} {g : G2} {r : R2} (ho : OpR X (compareOp op) r) (og : Op2 X.K r g) (ha : RX X W a ma) (hb : RX X W b mb) (hm : behindInMarks op b = false) : RX X W (.Compare a [op] [b] pos) (mBin g ma mb) :=
  rx_op2 ha hb og fun h1 h2 => pe_cmpR ho h1 h2 hm
theorem rx_op1 {g : G1} {r : V → Hp → VK → Prop} {ee : Expr} (ha : RX X W a ma) (og : Op1 X.K r g) (he : ∀ {ta : TE}, PE X a ta → PE X ee (tUn r ta)) : RX X W ee (mUn g ma) := ⟨pe_imp (he ha.pe) fun σ H Q q => by
  obtain ⟨Z, B, ρ, τ, h, ok, sl, q⟩ := q
  exact te_bd ok sl q fun x a h1 B1 ρ1 H1 rx ok1 sl1 g1 q1 => og Z B1 ρ1 H1 h1 x a _ Q ok1 rx q1⟩
theorem rx_un {op : UnaryOp} {g : G1} {r : V → Hp → VK → Prop} (ho : UnR X (unaryOp op) r) (og : Op1 X.K r g) (ha : RX X W a ma) : RX X W (.UnaryOp op a pos) (mUn g ma) :=
  rx_op1 ha og fun h1 => pe_un ho h1

/-! ### argument lists -/
def tAs (K : PySem.W.Frag) (W : WX) (m : E (List A)) : TA := fun σ H Q => ∃ Z B ρ τ h, Ok K Z B ρ H h ∧ SlOk K B ρ σ τ ∧ Post K Z (fun c d H' => W c d σ H') B ρ (fun ws _ B' ρ' H' => ∀ vs, RAL K B' ρ' vs ws → Q vs H') (m τ h)
structure RAs (X : Cx) (W : WX) (es : List Expr) (m : E (List A)) : Prop where
  pa : PA X es (tAs X.K W m)
def maNil : E (List A) := fun _ h => some (.ok [] h)
def maCons (ma : E A) (mr : E (List A)) : E (List A) := fun τ h => bd (ma τ h) fun a h1 => bd (mr τ h1) fun r h2 => some (.ok (a :: r) h2)
variable {es : List Expr} {mr : E (List A)}
theorem ra_nil : RAs X W [] maNil := ⟨pa_imp pa_nil fun σ H Q q => by
  obtain ⟨Z, B, ρ, τ, h, ok, sl, q⟩ := q
  exact q.now ok [] .nil⟩
theorem ra_cons (ha : RX X W a ma) (hr : RAs X W es mr) (hs : starEach (a :: es) X.env = (false, eval a X.env) :: starEach es X.env := by rfl) : RAs X W (a :: es) (maCons ma mr) := ⟨pa_imp (pa_cons ha.pe hr.pa hs) fun σ H Q q => by
  obtain ⟨Z, B, ρ, τ, h, ok, sl, q⟩ := q
  refine te_bd ok sl q fun x a h1 B1 ρ1 H1 rx ok1 sl1 g1 q1 => ?_
  refine ⟨Z, B1, ρ1, τ, h1, ok1, sl1, q1.bd.imp fun ws h2 B2 ρ2 H2 ok2 g2 q2 vs rl => ?_⟩
  exact q2.now ok2 (x :: vs) (.cons (rx.mono g2) rl)⟩

/-! ### new lists and tuples -/
def A.toD? : A → Option D
  | .d x => some x
  | _ => none
def allD : List A → Option (List D) := mapMn A.toD?
theorem allD_of : ∀ {ws : List A} {ds : List D}, allD ws = some ds → ws = ds.map A.d
  | [], ds, h => by cases h; rfl
  | w :: r, ds, h => by
    unfold allD mapMn at h
    split at h
    · rename_i b e1
      split at h
      · rename_i bs e2
        cases h
        cases w with
        | d x =>
          cases e1
          rw [allD_of (ws := r) e2]
          rfl
        | r _ => cases e1
        | tup _ => cases e1
      · cases h
    · cases h
@[simp] theorem allD_map (ds : List D) : allD (ds.map A.d) = some ds := mapMn_d _ ds fun _ => rfl
/-- a new list: a cell, or data at once -/
def mkL (o : Bool) (ws : List A) (h : Hq) : Option (Rs A) := if ws.length ≤ LIM then (if o then some (.ok (.r h.length) (h ++ [.lst ws])) else (allD ws).map fun ds => .ok (.d (.lst ds)) h) else none
def mkT (ws : List A) (h : Hq) : Option (Rs A) := if ws.length ≤ LIM then (match allD ws with | some ds => some (.ok (.d (.tup ds)) h) | none => some (.ok (.tup ws) h)) else none
section
variable {K : PySem.W.Frag} {W : XK} {Z B : Hp} {ρ : Nat → Option Addr} {H : Hp} {h : Hq} {Q : VK} {ws : List A} {vs : List V} {o : Bool}
theorem mkL_len {R : A → Hq → Hp → (Nat → Option Addr) → Hp → Prop} (q : Post K Z W B ρ R (mkL o ws h)) : ws.length ≤ LIM := by
  unfold mkL at q
  split at q
  · assumption
  · exact q.elim
theorem mkL_ok (ok : Ok K Z B ρ H h) (r : RAL K B ρ vs ws) (q : Post K Z W B ρ (fun w _ B' ρ' H' => ∀ v, RA K B' ρ' v w → Q v H') (mkL o ws h)) {p : Addr} (hp : H p = none) : Q (.ref p) (upd H p (.lst vs)) := by
  unfold mkL at q
  split at q
  · split at q
    · have hb : B p = none := by
        cases z : B p with
        | none => rfl
        | some u => rw [ok.ex p u z] at hp; cases hp
      have hz : Z p = none := by
        cases z : Z p with
        | none => rfl
        | some u => rw [ok.zz p u z] at hp; cases hp
      obtain ⟨ok2, g⟩ := ok.newC (q := p) (H' := upd H p (.lst vs)) (o := .lst ws) hp (fun b u e => by rw [upd_ne (ne_of_none e hp)]; exact e) (by rw [upd_same]; simp) (.lst upd_same r hb hz)
      exact q _ _ _ ok2 g (.ref p) (.r (if_pos rfl))
    · cases e : allD ws with
      | none => rw [e] at q; exact q.elim
      | some ds =>
        rw [e] at q
        cases allD_of e
        obtain ⟨ok2, g⟩ := ok.newB (o := .lst vs) hp
        exact q _ _ _ ok2 g (.ref p) (.d (.lst upd_same ((ral_rpl r).mono g.bb)))
  · exact q.elim
theorem mkT_len {R : A → Hq → Hp → (Nat → Option Addr) → Hp → Prop} (q : Post K Z W B ρ R (mkT ws h)) : ws.length ≤ LIM := by
  unfold mkT at q
  split at q
  · assumption
  · exact q.elim
/-- a tuple that stands -/
theorem mkT_at (ok : Ok K Z B ρ H h) {p : Addr} (ht : B p = some (.tup vs)) (r : RAL K B ρ vs ws) (q : Post K Z W B ρ (fun w _ B' ρ' H' => ∀ v, RA K B' ρ' v w → Q v H') (mkT ws h)) : Q (.ref p) H := by
  unfold mkT at q
  split at q
  · cases e : allD ws with
    | none =>
      rw [e] at q
      exact q.now ok (.ref p) (.tup ht r)
    | some ds =>
      rw [e] at q
      cases allD_of e
      exact q.now ok (.ref p) (.d (.tup ht (ral_rpl r)))
  · exact q.elim
theorem mkT_ok (ok : Ok K Z B ρ H h) (r : RAL K B ρ vs ws) (q : Post K Z W B ρ (fun w _ B' ρ' H' => ∀ v, RA K B' ρ' v w → Q v H') (mkT ws h)) {p : Addr} (hp : H p = none) : Q (.ref p) (upd H p (.tup vs)) := by
  obtain ⟨ok2, g⟩ := ok.newB (o := .tup vs) hp
  exact mkT_at ok2 upd_same (r.mono g) (q.from g)
end
def mTup (mr : E (List A)) : E A := fun τ h => bd (mr τ h) fun ws h1 => mkT ws h1
def mLst (o : Bool) (mr : E (List A)) : E A := fun τ h => bd (mr τ h) fun ws h1 => mkL o ws h1
theorem rx_tup {x1} (hr : RAs X W es mr) : RX X W (.Tuple es x1 pos) (mTup mr) := ⟨pe_imp (pe_tup hr.pa) fun σ H Q q => by
  obtain ⟨Z, B, ρ, τ, h, ok, sl, q⟩ := q
  refine ⟨Z, B, ρ, τ, h, ok, sl, q.bd.imp fun ws h1 B1 ρ1 H1 ok1 g1 q1 vs rl => ?_⟩
  exact ⟨by rw [rl.length, ← lim_eq]; exact mkT_len q1, fun p hp => mkT_ok ok1 rl q1 hp⟩⟩
theorem rx_lst (o : Bool) (hr : RAs X W es mr) : RX X W (.List es pos) (mLst o mr) := ⟨pe_imp (pe_lst hr.pa) fun σ H Q q => by
  obtain ⟨Z, B, ρ, τ, h, ok, sl, q⟩ := q
  refine ⟨Z, B, ρ, τ, h, ok, sl, q.bd.imp fun ws h1 B1 ρ1 H1 ok1 g1 q1 vs rl => ?_⟩
  exact ⟨by rw [rl.length, ← lim_eq]; exact mkL_len q1, fun p hp => mkL_ok ok1 rl q1 hp⟩⟩
end
end Tq

/-! Tq3: operations. -/
namespace Tq
open PySem PySem.Spec PyProof.Rows L2

mutual
def D.toP : D → PyData
  | .non => .none | .bl b => .bool b | .int i => .int i | .str x => .str x
  | .tup xs => .tuple (D.toPs xs)
  | .kt xs => .tuple (D.toPs xs)
  | .lst xs => .list (D.toPs xs)
  | .scr ns => .list (ns.map PyData.int)
  | .fn _ => .dict []
  | .nd _ _ => .dict []
def D.toPs : List D → List PyData
  | [] => []
  | d :: r => d.toP :: D.toPs r
end
theorem D.toPs_eq : ∀ xs : List D, D.toPs xs = xs.map D.toP
  | [] => rfl
  | d :: r => by rw [D.toPs, D.toPs_eq r, List.map_cons]
theorem D.toP_tup (xs : List D) : (D.tup xs).toP = .tuple (xs.map D.toP) := by rw [D.toP, D.toPs_eq]
theorem D.toP_kt (xs : List D) : (D.kt xs).toP = .tuple (xs.map D.toP) := by rw [D.toP, D.toPs_eq]
theorem D.toP_lst (xs : List D) : (D.lst xs).toP = .list (xs.map D.toP) := by rw [D.toP, D.toPs_eq]
theorem dp_ints {K : PySem.W.Frag} {H : Hp} : ∀ ns : List Int, DpAll K H (ns.map V.int) (ns.map PyData.int)
  | [] => .nil
  | n :: r => .cons (.int n) (dp_ints r)
section
variable {K : PySem.W.Frag} {B H : Hp}
mutual
theorem Rp.dp0 : ∀ {v : V} {d : D}, Rp K B v d → d.toP.canLay0 = true → Dp K B v d.toP
  | _, _, .non, _ => .non
  | _, _, .bl b, _ => .bl b
  | _, _, .int i, _ => .int i
  | _, _, .str x, _ => .str x
  | _, _, .tup h r, c => by rw [D.toP_tup] at c ⊢; exact .tup (sqt_of h) (RpL.dp0 r c)
  | _, _, .kt h r, c => by rw [D.toP_kt] at c ⊢; exact .tup h (RpL.dp0 r c)
  | _, _, .lst h r, c => by rw [D.toP_lst] at c ⊢; exact .lst (SqL.of h) (RpL.dp0 r c)
  | _, _, .scr h, _ => by rw [D.toP]; exact .lst h (dp_ints _)
  | _, _, .fn _, c => by rw [D.toP] at c; cases c
  | _, _, .nd _ _, c => by rw [D.toP] at c; cases c
theorem RpL.dp0 : ∀ {vs : List V} {ds : List D}, RpL K B vs ds → PyData.canLayAll0 (ds.map D.toP) = true → DpAll K B vs (ds.map D.toP)
  | _, _, .nil, _ => .nil
  | _, _, .cons h r, c => by
    have c2 := Bool.and_eq_true_iff.mp c
    exact .cons (Rp.dp0 h c2.1) (RpL.dp0 r c2.2)
end
theorem Rp.dp {v : V} {d : D} (h : Rp K B v d) (hs : SeqAt.shaped d.toP = true) : Dp K B v d.toP := h.dp0 (SeqAt.canLay_of_shaped hs)
end
def D.eqv (a b : D) : Bool := PyData.eqv a.toP b.toP
def D.shp (a : D) : Bool := SeqAt.shaped a.toP

/-! ### what a value is -/
theorem rp_int {K : PySem.W.Frag} {B : Hp} {v : V} {i : Int} (r : Rp K B v (.int i)) : v = .int i := by cases r; rfl
theorem rp_str {K : PySem.W.Frag} {B : Hp} {v : V} {i : Str} (r : Rp K B v (.str i)) : v = .str i := by cases r; rfl
theorem rp_bl {K : PySem.W.Frag} {B : Hp} {v : V} {i : Bool} (r : Rp K B v (.bl i)) : v = .bl i := by cases r; rfl
theorem rp_non {K : PySem.W.Frag} {B : Hp} {v : V} (r : Rp K B v .non) : v = .non := by cases r; rfl
theorem ra_d {K : PySem.W.Frag} {B : Hp} {ρ : Nat → Option Addr} {v : V} {x : D} (w : RA K B ρ v (.d x)) : Rp K B v x := by
  cases w with
  | d r => exact r
theorem ra_int {K : PySem.W.Frag} {B : Hp} {ρ : Nat → Option Addr} {v : V} {i : Int} (w : RA K B ρ v (.d (.int i))) : v = .int i := rp_int (ra_d w)
theorem ra_str {K : PySem.W.Frag} {B : Hp} {ρ : Nat → Option Addr} {v : V} {i : Str} (w : RA K B ρ v (.d (.str i))) : v = .str i := rp_str (ra_d w)
def tupOf : A → Option (List A)
  | .d (.tup ds) => some (ds.map A.d)
  | .tup ws => some ws
  | _ => none
def lstOf (h : Hq) : A → Option (List A)
  | .d (.lst ds) => some (ds.map A.d)
  | .r k => match h[k]? with | some (.lst ws) => some ws | _ => none
  | _ => none
section
variable {K : PySem.W.Frag} {Z B H : Hp} {ρ : Nat → Option Addr} {h : Hq} {v : V} {a : A} {ws : List A}
theorem tupOf_ra (r : RA K B ρ v a) (e : tupOf a = some ws) : ∃ p vs, v = .ref p ∧ B p = some (.tup vs) ∧ RAL K B ρ vs ws := by
  unfold tupOf at e
  split at e
  · cases e
    cases ra_d r with
    | tup h1 r1 => exact ⟨_, _, rfl, h1, ral_ds r1⟩
  · cases e
    cases r with
    | tup h1 r1 => exact ⟨_, _, rfl, h1, r1⟩
  · cases e
theorem lstOf_ra (ok : Ok K Z B ρ H h) (r : RA K B ρ v a) (e : lstOf h a = some ws) : ∃ p vs, v = .ref p ∧ H p = some (.lst vs) ∧ RAL K B ρ vs ws := by
  unfold lstOf at e
  split at e
  · cases e
    cases ra_d r with
    | lst h1 r1 => exact ⟨_, _, rfl, ok.ex _ _ h1, ral_ds r1⟩
  · split at e
    · rename_i ws' e1
      cases e
      cases r with
      | r hr =>
        obtain ⟨p, h1, h2⟩ := ok.ce _ _ e1
        rw [hr] at h1
        cases h1
        cases h2 with
        | lst q1 q2 q3 q4 => exact ⟨_, _, rfl, q1, q2⟩
    · cases e
  · cases e
end

/-! ### operators that give flat data -/
def D.flat : D → Bool
  | .non => true | .bl _ => true | .int _ => true | .str _ => true | _ => false
theorem rp_flat {K : PySem.W.Frag} {B B' : Hp} {v : V} {d : D} (r : Rp K B v d) (h : d.flat = true) : Rp K B' v d := by
  cases r with
  | non => exact .non
  | bl b => exact .bl b
  | int i => exact .int i
  | str x => exact .str x
  | tup _ _ => cases h
  | kt _ _ => cases h
  | lst _ _ => cases h
  | scr _ => cases h
  | fn _ => cases h
  | nd _ _ => cases h
def gII (C : Int → Int → Bool) (f : Int → Int → Int) : G2 := fun a b h => match a, b with
  | .d (.int i), .d (.int j) => if C i j then some (.ok (.d (.int (f i j))) h) else none
  | _, _ => none
theorem og_ii {K : PySem.W.Frag} {C : Int → Int → Bool} {P : Int → Int → Prop} {f : Int → Int → Int} (hc : ∀ i j, C i j = true → P i j) : Op2 K (rI P fun i j => .int (f i j)) (gII C f) := by
  intro Z B ρ H h x y a b W Q ok rx ry q
  unfold gII at q
  split at q
  · split at q
    · rename_i hl
      exact ⟨_, _, ra_int rx, ra_int ry, hc _ _ hl, q.now ok _ (.d (.int _))⟩
    · exact q.elim
  · exact q.elim
def gSub : G2 := fun a b h => match a, b with
  | .d (.int i), .d (.int j) => some (.ok (.d (.int (i - j))) h)
  | _, _ => none
theorem og_sub {K : PySem.W.Frag} : Op2 K (rI0 fun i j => .int (i - j)) gSub := by
  intro Z B ρ H h x y a b W Q ok rx ry q
  unfold gSub at q
  split at q
  · exact ⟨_, _, ra_int rx, ra_int ry, q.now ok _ (.d (.int _))⟩
  · exact q.elim
/-- * of two factors of together less than 134 million bits -/
def CMulB (i j : Int) : Prop := i.natAbs.log2 + j.natAbs.log2 < 134000000
theorem CMulB.ok {i j : Int} (h : CMulB i j) : IntMulOk i j := by
  have b : ∀ x : Int, Builtin.Int.intBits x ≤ x.natAbs.log2 + 1 := fun x => by
    unfold Builtin.Int.intBits
    split <;> omega
  have h1 := b i
  have h2 := b j
  have h3 : i.natAbs.log2 + j.natAbs.log2 < 134000000 := h
  have e : bitsLine = 134217728 := by decide
  unfold IntMulOk
  intro z
  rw [Bool.and_eq_true] at z
  have z2 := z.2
  unfold Builtin.Int.intTooBig at z2
  have z3 := of_decide_eq_true z2
  rw [e] at z3
  omega
theorem op_mulB {X : Cx} : OpR X (binaryOp .Mult) (rI CMulB fun i j => .int (i * j)) := opI fun _ _ _ _ _ _ _ hc q => mul_int q hc.ok
def mulOk (i j : Int) : Bool := decide (i.natAbs.log2 + j.natAbs.log2 < 134000000)
def divOk (_ j : Int) : Bool := decide (0 < j) && decide (j.natAbs.log2 < 9000)
def modOk (_ j : Int) : Bool := decide (0 < j)
def powOk (i j : Int) : Bool := decide (0 ≤ j) && decide (j ≤ 1000000) && decide (i.natAbs < 2 ^ 64)
abbrev gMul := gII mulOk fun i j => i * j
abbrev gDiv := gII divOk fun i j => i / j
abbrev gMod := gII modOk fun i j => i % j
abbrev gPow := gII powOk fun i j => i ^ j.toNat
theorem og_mul {K : PySem.W.Frag} : Op2 K (rI CMulB fun i j => .int (i * j)) gMul := og_ii fun i j h => show i.natAbs.log2 + j.natAbs.log2 < 134000000 from of_decide_eq_true h
theorem og_div {K : PySem.W.Frag} : Op2 K (rI CDivW fun i j => .int (i / j)) gDiv := og_ii fun i j h => by
  unfold divOk at h
  rw [Bool.and_eq_true] at h
  exact ⟨of_decide_eq_true h.1, of_decide_eq_true h.2⟩
theorem og_mod {K : PySem.W.Frag} : Op2 K (rI (fun _ j => 0 < j) fun i j => .int (i % j)) gMod := og_ii fun i j h => of_decide_eq_true h
theorem og_pow {K : PySem.W.Frag} : Op2 K (rI CPow fun i j => .int (i ^ j.toNat)) gPow := og_ii fun i j h => by
  unfold powOk at h
  rw [Bool.and_eq_true, Bool.and_eq_true] at h
  exact ⟨of_decide_eq_true h.1.1, of_decide_eq_true h.1.2, of_decide_eq_true h.2⟩
def gNeg : G1 := fun a h => match a with
  | .d (.int i) => some (.ok (.d (.int (-i))) h)
  | _ => none
theorem og_neg {K : PySem.W.Frag} : Op1 K (rU fun i => .int (-i)) gNeg := by
  intro Z B ρ H h x a W Q ok rx q
  unfold gNeg at q
  split at q
  · exact ⟨_, ra_int rx, q.now ok _ (.d (.int _))⟩
  · exact q.elim
/-- + : o: a new list is a cell -/
def gAdd (o : Bool) : G2 := fun a b h => match a, b with
  | .d (.int i), .d (.int j) => some (.ok (.d (.int (i + j))) h)
  | .d (.str s), .d (.str t) => if s.length + t.length ≤ LIM then some (.ok (.d (.str (s ++ t))) h) else none
  | a, b => match tupOf a, tupOf b with
    | some xs, some ys => mkT (xs ++ ys) h
    | _, _ => match lstOf h a, lstOf h b with
      | some xs, some ys => mkL o (xs ++ ys) h
      | _, _ => none
abbrev rAddA (K : PySem.W.Frag) : R2 := fun x y H Q => rI0 (fun i j => .int (i + j)) x y H Q ∨ (∃ i j, x = .str i ∧ y = .str j ∧ i.length + j.length ≤ sizeLine ∧ Q (.str (i ++ j)) H) ∨ rCatA K x y H Q ∨ rCat x y H Q
theorem op_addA {X : Cx} : OpR X (binaryOp .Add) (rAddA X.K) := op_add.or (op_add_str.or (op_catA.or op_cat))
theorem og_add {K : PySem.W.Frag} {o : Bool} : Op2 K (rAddA K) (gAdd o) := by
  intro Z B ρ H h x y a b W Q ok rx ry q
  unfold gAdd at q
  split at q
  · exact .inl ⟨_, _, ra_int rx, ra_int ry, q.now ok _ (.d (.int _))⟩
  · split at q
    · rename_i hl
      exact .inr (.inl ⟨_, _, ra_str rx, ra_str ry, by rw [← lim_eq]; exact hl, q.now ok _ (.d (.str _))⟩)
    · exact q.elim
  · split at q
    · rename_i xs ys e1 e2
      obtain ⟨p, vs, rfl, h1, r1⟩ := tupOf_ra rx e1
      obtain ⟨p', us, rfl, h2, r2⟩ := tupOf_ra ry e2
      have hl := mkT_len q
      rw [List.length_append] at hl
      refine .inr (.inr (.inl ⟨p, p', vs, us, rfl, rfl, sqt_of (ok.ex _ _ h1), sqt_of (ok.ex _ _ h2), by rw [r1.length, r2.length, ← lim_eq]; exact hl, fun e => ?_, fun _ e => ?_, fun _ _ c hc => ?_⟩))
      · subst e
        cases r1
        exact mkT_at ok h2 r2 q
      · subst e
        cases r2
        rw [List.append_nil] at q
        exact mkT_at ok h1 r1 q
      · exact mkT_ok ok (r1.append r2) q hc
    · split at q
      · rename_i xs ys e1 e2
        obtain ⟨p, vs, rfl, h1, r1⟩ := lstOf_ra ok rx e1
        obtain ⟨p', us, rfl, h2, r2⟩ := lstOf_ra ok ry e2
        have hl := mkL_len q
        rw [List.length_append] at hl
        exact .inr (.inr (.inr ⟨p, p', vs, us, rfl, rfl, h1, h2, by rw [r1.length, r2.length, ← lim_eq]; exact hl, fun c hc => mkL_ok ok (r1.append r2) q hc⟩))
      · exact q.elim

/-! ### comparisons -/
/-- of data seen as a whole -/
def g2V (g : D → D → Option Bool) : G2 := fun a b h => match view h a with
  | some x => (match view h b with | some y => (match g x y with | some k => some (.ok (.d (.bl k)) h) | none => none) | none => none)
  | none => none
theorem og_2v {K : PySem.W.Frag} {g : D → D → Option Bool} {r : R2} (hg : ∀ H x y d e k Q, Rp K H x d → Rp K H y e → g d e = some k → Q (.bl k) H → r x y H Q) : Op2 K r (g2V g) := by
  intro Z B ρ H h x y a b W Q ok rx ry q
  unfold g2V at q
  split at q
  · rename_i d e1
    split at q
    · rename_i e e2
      split at q
      · rename_i k e3
        exact hg H x y d e k Q (ok.see rx e1) (ok.see ry e2) e3 (q.now ok _ (.d (.bl k)))
      · exact q.elim
    · exact q.elim
  · exact q.elim
def eqD (neg : Bool) (x y : D) : Option Bool := if x.shp && y.shp then some (if neg then !D.eqv x y else D.eqv x y) else none
abbrev gEq (neg : Bool) : G2 := g2V (eqD neg)
theorem og_eq {K : PySem.W.Frag} : Op2 K (rEqD K) (gEq false) := og_2v fun H x y d e k Q rx ry hk q => by
  unfold eqD at hk
  split at hk
  · rename_i hs
    rw [Bool.and_eq_true] at hs
    cases hk
    exact ⟨_, _, rx.dp hs.1, ry.dp hs.2, hs.1, hs.2, q⟩
  · cases hk
theorem og_ne {K : PySem.W.Frag} : Op2 K (rNeD K) (gEq true) := og_2v fun H x y d e k Q rx ry hk q => by
  unfold eqD at hk
  split at hk
  · rename_i hs
    rw [Bool.and_eq_true] at hs
    cases hk
    exact ⟨_, _, rx.dp hs.1, ry.dp hs.2, hs.1, hs.2, q⟩
  · cases hk
def gCmp (p : Int → Int → Bool) : G2 := fun a b h => match a, b with
  | .d (.int i), .d (.int j) => some (.ok (.d (.bl (p i j))) h)
  | _, _ => none
theorem og_cmp {K : PySem.W.Frag} {p : Int → Int → Bool} : Op2 K (rI0 fun i j => .bl (p i j)) (gCmp p) := by
  intro Z B ρ H h x y a b W Q ok rx ry q
  unfold gCmp at q
  split at q
  · exact ⟨_, _, ra_int rx, ra_int ry, q.now ok _ (.d (.bl _))⟩
  · exact q.elim
abbrev gLt := gCmp fun i j => decide (i < j)
abbrev gLe := gCmp fun i j => decide (i ≤ j)
abbrev gGt := gCmp fun i j => decide (j < i)
abbrev gGe := gCmp fun i j => decide (j ≤ i)
theorem og_lt {K : PySem.W.Frag} : Op2 K (rI0 fun i j => .bl (decide (i < j))) gLt := og_cmp
theorem og_le {K : PySem.W.Frag} : Op2 K (rI0 fun i j => .bl (decide (i ≤ j))) gLe := og_cmp
theorem og_gt {K : PySem.W.Frag} : Op2 K (rI0 fun i j => .bl (decide (j < i))) gGt := og_cmp
theorem og_ge {K : PySem.W.Frag} : Op2 K (rI0 fun i j => .bl (decide (j ≤ i))) gGe := og_cmp
def A.isNon : A → Bool | .d .non => true | _ => false
def A.isBl (b : Bool) : A → Bool | .d (.bl c) => c == b | _ => false
def gIs (neg : Bool) : G2 := fun a b h => match b with
  | .d .non => some (.ok (.d (.bl (neg != a.isNon))) h)
  | .d (.bl c) => some (.ok (.d (.bl (neg != a.isBl c))) h)
  | _ => none
def rIsA (neg : Bool) : R2 := fun x y H Q => (y = .non ∨ ∃ b, y = .bl b) ∧ Q (.bl (neg != decide (x = y))) H
theorem plain_of {x y : V} {v u : Value} (rx : RelV x v) (ry : RelV y u) (h : y = .non ∨ ∃ b, y = .bl b) : plainIs v u = true ∧ (v == u) = decide (x = y) := by
  rcases h with rfl | ⟨b, rfl⟩
  · cases ry
    cases x with
    | non => cases rx; exact ⟨rfl, rfl⟩
    | bl _ => cases rx; exact ⟨rfl, rfl⟩
    | int _ => obtain ⟨t, rfl⟩ := rx; exact ⟨rfl, rfl⟩
    | str _ => obtain ⟨t, rfl⟩ := rx; exact ⟨rfl, rfl⟩
    | byt _ => obtain ⟨t, rfl⟩ := rx; exact ⟨rfl, rfl⟩
    | flt _ => obtain ⟨t, rfl⟩ := rx; exact ⟨rfl, rfl⟩
    | ref _ => cases rx; exact ⟨rfl, rfl⟩
    | ty _ => cases rx; exact ⟨rfl, rfl⟩
  · cases ry
    cases x with
    | non => cases rx; exact ⟨rfl, rfl⟩
    | bl c => cases rx; exact ⟨rfl, by cases c <;> cases b <;> rfl⟩
    | int _ => obtain ⟨t, rfl⟩ := rx; exact ⟨rfl, rfl⟩
    | str _ => obtain ⟨t, rfl⟩ := rx; exact ⟨rfl, rfl⟩
    | byt _ => obtain ⟨t, rfl⟩ := rx; exact ⟨rfl, rfl⟩
    | flt _ => obtain ⟨t, rfl⟩ := rx; exact ⟨rfl, rfl⟩
    | ref _ => cases rx; exact ⟨rfl, rfl⟩
    | ty _ => cases rx; exact ⟨rfl, rfl⟩
theorem op_isA {X : Cx} : OpR X (compareOp .Is) (rIsA false) := by
  intro pins s σ H x y v u Q I rx ry h
  obtain ⟨hy, q⟩ := h
  obtain ⟨h1, h2⟩ := plain_of rx ry hy
  exact wpAny_is_plain h1 (fin_bl I q (by rw [h2]; simp))
theorem op_isNotA {X : Cx} : OpR X (compareOp .IsNot) (rIsA true) := by
  intro pins s σ H x y v u Q I rx ry h
  obtain ⟨hy, q⟩ := h
  obtain ⟨h1, h2⟩ := plain_of rx ry hy
  exact wpAny_isNot_plain h1 (fin_bl I q (by rw [h2]; simp))
theorem og_is {K : PySem.W.Frag} {neg : Bool} : Op2 K (rIsA neg) (gIs neg) := by
  intro Z B ρ H h x y a b W Q ok rx ry q
  unfold gIs at q
  split at q
  · obtain rfl := rp_non (ra_d ry)
    refine ⟨.inl rfl, ?_⟩
    have z : decide (x = V.non) = a.isNon := by
      cases rx with
      | d r => cases r <;> rfl
      | r _ => rfl
      | tup _ _ => rfl
    rw [z]
    exact q.now ok _ (.d (.bl _))
  · rename_i c
    obtain rfl := rp_bl (ra_d ry)
    refine ⟨.inr ⟨c, rfl⟩, ?_⟩
    have z : decide (x = V.bl c) = a.isBl c := by
      cases rx with
      | d r => cases r <;> first | rfl | (rename_i k; cases k <;> cases c <;> rfl)
      | r _ => rfl
      | tup _ _ => rfl
    rw [z]
    exact q.now ok _ (.d (.bl _))
  · exact q.elim

/-! ### items -/
theorem atI_some {α : Type} {xs : List α} {i : Int} {v : α} (h : atI xs i = some v) : ∃ j, ixN xs.length i = some j ∧ xs[j]? = some v := by
  unfold atI at h
  cases e : ixN xs.length i with
  | none => rw [e] at h; cases h
  | some j => rw [e] at h; exact ⟨j, rfl, h⟩
theorem atI_of {α β : Type} {xs : List α} {ys : List β} {i : Int} {j : Nat} {v : β} (hl : ys.length = xs.length) (h : ixN xs.length i = some j) (h2 : ys[j]? = some v) : atI ys i = some v := by
  unfold atI
  rw [hl, h]
  exact h2
def gIx : G2 := fun a b h => match b with
  | .d (.int i) => (match a with
    | .d (.str z) => if z.length ≤ LIM then (match atI z.cps.toList i with | some c => some (.ok (.d (.str ⟨#[c]⟩)) h) | none => none) else none
    | .d (.scr ns) => (match atI ns i with | some n => some (.ok (.d (.int n)) h) | none => none)
    | .d (.kt ds) => (match atI ds i with | some d => some (.ok (.d d) h) | none => none)
    | a => match tupOf a with
      | some ws => (match atI ws i with | some w => some (.ok w h) | none => none)
      | none => match lstOf h a with
        | some ws => (match atI ws i with | some w => some (.ok w h) | none => none)
        | none => none)
  | _ => none
theorem og_ix {K : PySem.W.Frag} : Op2 K (rIx K) gIx := by
  intro Z B ρ H h x y a b W Q ok rx ry q
  unfold gIx at q
  split at q
  · rename_i i
    cases ra_int ry
    split at q
    · split at q
      · rename_i hl
        split at q
        · rename_i c e3
          cases ra_str rx
          exact .inr (.inr ⟨_, _, _, rfl, rfl, by rw [← lim_eq]; exact hl, e3, q.now ok _ (.d (.str _))⟩)
        · exact q.elim
      · exact q.elim
    · split at q
      · rename_i n e3
        cases ra_d rx with
        | scr h1 =>
          obtain ⟨j, e4, e5⟩ := atI_some e3
          exact .inl ⟨_, _, _, .int n, rfl, rfl, ok.ex.seq h1, atI_of (List.length_map ..) e4 (by rw [List.getElem?_map, e5]; rfl), q.now ok _ (.d (.int n))⟩
      · exact q.elim
    · split at q
      · rename_i d e3
        cases ra_d rx with
        | kt h1 r1 =>
          obtain ⟨j, e4, e5⟩ := atI_some e3
          obtain ⟨v, e6, r2⟩ := r1.get e5
          exact .inr (.inl ⟨_, _, _, _, rfl, rfl, sqt_mono ok.ex h1, atI_of r1.length e4 e6, q.now ok _ (.d r2)⟩)
      · exact q.elim
    · split at q
      · rename_i ws e1
        split at q
        · rename_i w e3
          obtain ⟨p, vs, rfl, h1, r1⟩ := tupOf_ra rx e1
          obtain ⟨j, e4, e5⟩ := atI_some e3
          obtain ⟨v, e6, r2⟩ := r1.get e5
          exact .inr (.inl ⟨_, _, _, _, rfl, rfl, sqt_of (ok.ex _ _ h1), atI_of r1.length e4 e6, q.now ok _ r2⟩)
        · exact q.elim
      · split at q
        · rename_i ws e1
          split at q
          · rename_i w e3
            obtain ⟨p, vs, rfl, h1, r1⟩ := lstOf_ra ok rx e1
            obtain ⟨j, e4, e5⟩ := atI_some e3
            obtain ⟨v, e6, r2⟩ := r1.get e5
            exact .inl ⟨_, _, _, _, rfl, rfl, SqL.of h1, atI_of r1.length e4 e6, q.now ok _ r2⟩
          · exact q.elim
        · exact q.elim
  · exact q.elim
theorem rx_ix {X : Cx} {W : WX} {a b : Expr} {pos : Pos} {ma mb : E A} (ha : RX X W a ma) (hb : RX X W b mb) (hs : PlainIx b := by exact fun _ _ => rfl) : RX X W (.Subscript a b pos) (mBin gIx ma mb) := ⟨pe_imp (pe_ix ix_seq ha.pe hb.pe hs) fun σ H Q q => by
  obtain ⟨Z, B, ρ, τ, h, ok, sl, q⟩ := q
  exact te_bd ok sl q fun x a h1 B1 ρ1 H1 rx ok1 sl1 g1 q1 => te_bd ok1 sl1 q1 fun y b h2 B2 ρ2 H2 ry ok2 sl2 g2 q2 => og_ix Z B2 ρ2 H2 h2 x y a b _ Q ok2 (rx.mono g2) ry q2⟩

/-! ### slices -/
def tOo (K : PySem.W.Frag) (W : WX) (m : E (Option Int)) : TO := fun σ H Q => ∃ Z B ρ τ h, Ok K Z B ρ H h ∧ SlOk K B ρ σ τ ∧ Post K Z (fun c d H' => W c d σ H') B ρ (fun o _ B' ρ' H' => Q o H') (m τ h)
structure RO (X : Cx) (W : WX) (e : Option Expr) (m : E (Option Int)) : Prop where
  po : PO X e (tOo X.K W m)
def moN : E (Option Int) := fun _ h => some (.ok none h)
def moS (m : E A) : E (Option Int) := fun τ h => bd (m τ h) fun a h1 => match a with | .d (.int i) => some (.ok (some i) h1) | _ => none
theorem ro_none {X : Cx} {W : WX} : RO X W none moN := ⟨po_imp po_none fun σ H Q q => by
  obtain ⟨Z, B, ρ, τ, h, ok, sl, q⟩ := q
  exact q.now ok⟩
theorem ro_some {X : Cx} {W : WX} {e : Expr} {m : E A} (hm : RX X W e m) : RO X W (some e) (moS m) := ⟨po_imp (po_some hm.pe) fun σ H Q q => by
  obtain ⟨Z, B, ρ, τ, h, ok, sl, q⟩ := q
  refine te_bd ok sl q fun x a h1 B1 ρ1 H1 rx ok1 sl1 g1 q1 => ?_
  split at q1
  · exact ⟨_, ra_int rx, q1.now ok1⟩
  · exact q1.elim⟩
def cut {α : Type} (xs : List α) (lo hi : Option Int) : List α := (xs.drop (HT.sIx xs.length 0 lo)).take (HT.sIx xs.length xs.length hi - HT.sIx xs.length 0 lo)
theorem RAL.cut {K : PySem.W.Frag} {B : Hp} {ρ : Nat → Option Addr} {vs : List V} {ds : List A} (r : RAL K B ρ vs ds) (lo hi : Option Int) : RAL K B ρ (cutV vs lo hi) (cut ds lo hi) := by
  unfold cutV Tq.cut
  rw [r.length]
  exact (r.drop _).take _
theorem map_cut {α β : Type} (f : α → β) (xs : List α) (lo hi : Option Int) : cut (xs.map f) lo hi = (cut xs lo hi).map f := by
  unfold cut
  rw [List.length_map, List.map_take, List.map_drop]
def gSl (o : Bool) (a : A) (lo hi : Option Int) (h : Hq) : Option (Rs A) := match a with
  | .d (.str z) => if z.length ≤ LIM then some (.ok (.d (.str (cutS z lo hi))) h) else none
  | .d (.scr ns) => mkL o ((cut ns lo hi).map fun i => .d (.int i)) h
  | a => match tupOf a with
    | some ws => mkT (cut ws lo hi) h
    | none => match lstOf h a with
      | some ws => mkL o (cut ws lo hi) h
      | none => none
abbrev rSlAll (K : PySem.W.Frag) : V → Option Int → Option Int → Hp → VK → Prop := fun x lo hi H Q => rSlL K x lo hi H Q ∨ rSlA K x lo hi H Q ∨ rSlS x lo hi H Q
theorem og_sl {K : PySem.W.Frag} {o : Bool} {Z B H : Hp} {ρ : Nat → Option Addr} {h : Hq} {x : V} {a : A} {lo hi : Option Int} {W : XK} {Q : VK} (ok : Ok K Z B ρ H h) (rx : RA K B ρ x a) (q : Post K Z W B ρ (fun w _ B' ρ' H' => ∀ v, RA K B' ρ' v w → Q v H') (gSl o a lo hi h)) : rSlAll K x lo hi H Q := by
  unfold gSl at q
  split at q
  · split at q
    · rename_i hl
      cases ra_str rx
      exact .inr (.inr ⟨_, rfl, by rw [← lim_eq]; exact hl, q.now ok _ (.d (.str _))⟩)
    · exact q.elim
  · rename_i ns
    cases ra_d rx with
    | scr h1 =>
      refine .inl ⟨_, _, rfl, ok.ex.seq h1, fun p hp => ?_⟩
      have z : cutV (ns.map V.int) lo hi = (cut ns lo hi).map V.int := map_cut V.int ns lo hi
      refine mkL_ok ok ?_ q hp
      rw [z]
      have e := ral_ds (K := K) (B := B) (ρ := ρ) (rpl_ints (K := K) (B := B) (cut ns lo hi))
      rwa [List.map_map] at e
  · split at q
    · rename_i ws e1
      obtain ⟨p, vs, rfl, h1, r1⟩ := tupOf_ra rx e1
      refine .inr (.inl ⟨p, vs, rfl, sqt_of (ok.ex _ _ h1), fun e => ?_, fun _ c hc => mkT_ok ok (r1.cut lo hi) q hc⟩)
      have z : cut ws lo hi = ws := by
        unfold cut
        rw [← r1.length, e.1, e.2, List.drop_zero, Nat.sub_zero, r1.length, List.take_length]
      rw [z] at q
      exact mkT_at ok h1 r1 q
    · split at q
      · rename_i ws e1
        obtain ⟨p, vs, rfl, h1, r1⟩ := lstOf_ra ok rx e1
        exact .inl ⟨p, vs, rfl, SqL.of h1, fun c hc => mkL_ok ok (r1.cut lo hi) q hc⟩
      · exact q.elim
def mSl (o : Bool) (ma : E A) (ml mh : E (Option Int)) : E A := fun τ h => bd (ma τ h) fun a h1 => bd (ml τ h1) fun lo h2 => bd (mh τ h2) fun hi h3 => gSl o a lo hi h3
theorem rx_slice {X : Cx} {W : WX} (o : Bool) {a : Expr} {lo hi : Option Expr} {p2 pos : Pos} {ma : E A} {ml mh : E (Option Int)} (ha : RX X W a ma) (hl : RO X W lo ml) (hh : RO X W hi mh) :
    RX X W (.Subscript a (.Slice lo hi none p2) pos) (mSl o ma ml mh) := ⟨pe_imp (pe_slice (sl_list.or (sl_tupA.or sl_str)) ha.pe hl.po hh.po) fun σ H Q q => by
  obtain ⟨Z, B, ρ, τ, h, ok, sl, q⟩ := q
  refine te_bd ok sl q fun x a h1 B1 ρ1 H1 rx ok1 sl1 g1 q1 => ?_
  refine ⟨Z, B1, ρ1, τ, h1, ok1, sl1, q1.bd.imp fun lo h2 B2 ρ2 H2 ok2 g2 q2 => ?_⟩
  refine ⟨Z, B2, ρ2, τ, h2, ok2, sl1.mono g2, q2.bd.imp fun hi h3 B3 ρ3 H3 ok3 g3 q3 => ?_⟩
  exact og_sl ok3 (rx.mono (g2.trans g3)) q3⟩
end Tq

/-! Tq4: tests, conditional values, built-ins. -/
namespace Tq
open PySem PySem.Spec PyProof.Rows L2

def tT (K : PySem.W.Frag) (W : WX) (m : E Bool) : TT := fun σ H Q => ∃ Z B ρ τ h, Ok K Z B ρ H h ∧ SlOk K B ρ σ τ ∧ Post K Z (fun c d H' => W c d σ H') B ρ (fun b _ B' ρ' H' => Q b H') (m τ h)
structure RT (X : Cx) (W : WX) (e : Expr) (m : E Bool) : Prop where
  pt : PT X e (tT X.K W m)
structure RWt (X : Cx) (W : WX) (e : Expr) (m : E Bool) : Prop where
  pw : PW X e (tT X.K W m)
def truD : D → Option Bool
  | .non => some false | .bl b => some b | .int i => some (i != 0)
  | .str x => if x.length ≤ LIM then some ((x.length : Int) != 0) else none
  | .lst xs => some (!xs.isEmpty) | .tup xs => some (!xs.isEmpty) | .kt xs => some (!xs.isEmpty) | .scr ns => some (!ns.isEmpty)
  | .nd (.dic ks) xs => if xs.length = ks.length then some (!ks.isEmpty) else none
  | _ => none
def truA (h : Hq) : A → Option Bool
  | .d x => truD x
  | .tup ws => some (!ws.isEmpty)
  | .r k => match h[k]? with | some (.lst ws) => some (!ws.isEmpty) | some (.nd (.dic ks) ws) => some (!ks.isEmpty) | _ => none
def mTru (m : E A) : E Bool := fun τ h => bd (m τ h) fun a h1 => match truA h1 a with | some b => some (.ok b h1) | none => none
def mTB (m : E A) : E Bool := fun τ h => bd (m τ h) fun a h1 => match a with | .d (.bl b) => some (.ok b h1) | _ => none
def mNotT (m : E Bool) : E Bool := fun τ h => bd (m τ h) fun b h1 => some (.ok (!b) h1)
def mAndT (ma mb : E Bool) : E Bool := fun τ h => bd (ma τ h) fun b h1 => match b with | true => mb τ h1 | false => some (.ok false h1)
def mOrT (ma mb : E Bool) : E Bool := fun τ h => bd (ma τ h) fun b h1 => match b with | false => mb τ h1 | true => some (.ok true h1)
section
variable {X : Cx} {W : WX} {e a b c : Expr} {es rest : List Expr} {m ma mb mc : E A} {t ta tb : E Bool} {pos : Pos}
theorem zip_empty {κ : Type} : ∀ {ks : List κ} {vs : List V}, ks.length = vs.length → (ks.zip vs).isEmpty = ks.isEmpty
  | [], _, _ => rfl
  | _ :: _, [], h => by simp at h
  | _ :: _, _ :: _, _ => rfl
theorem tru_rp {K : PySem.W.Frag} {H : Hp} {v : V} {d : D} {k : Bool} (r : Rp K H v d) (h : truD d = some k) : TruV K v H k := by
  cases r with
  | non => cases h; rfl
  | bl b => cases h; rfl
  | int i => cases h; rfl
  | str x =>
    have h : (if x.length ≤ LIM then some ((x.length : Int) != 0) else none) = some k := h
    split at h
    · rename_i hl
      cases h
      exact ⟨by rw [← lim_eq]; exact hl, rfl⟩
    · cases h
  | tup h1 r1 =>
    cases h
    refine .inr (.inl ⟨_, sqt_of h1, ?_⟩)
    cases r1 <;> rfl
  | kt h1 r1 =>
    cases h
    refine .inr (.inl ⟨_, h1, ?_⟩)
    cases r1 <;> rfl
  | lst h1 r1 =>
    cases h
    refine .inl ⟨_, SqL.of h1, ?_⟩
    cases r1 <;> rfl
  | scr h1 =>
    rename_i a ns
    cases h
    refine .inl ⟨_, h1, ?_⟩
    cases ns <;> rfl
  | fn _ => cases h
  | nd h1 r1 =>
    cases h1 with
    | dic e1 e2 =>
      rename_i ks
      have h : (if _ then some (!ks.isEmpty) else none) = some k := h
      split at h
      · cases h
        exact .inr (.inr ⟨_, e1, by rw [zip_empty e2]⟩)
      · cases h
    | dit => cases h
    | ins => cases h
theorem tru_ra {K : PySem.W.Frag} {Z B H : Hp} {ρ : Nat → Option Addr} {h : Hq} {v : V} {a : A} {k : Bool} (ok : Ok K Z B ρ H h) (r : RA K B ρ v a) (e : truA h a = some k) : TruV K v H k := by
  unfold truA at e
  split at e
  · exact tru_rp ((ra_d r).mono ok.ex) e
  · cases e
    cases r with
    | tup h1 r1 =>
      refine .inr (.inl ⟨_, sqt_of (ok.ex _ _ h1), ?_⟩)
      cases r1 <;> rfl
  · split at e
    · rename_i ws e1
      cases e
      cases r with
      | r hr =>
        obtain ⟨p, h1, h2⟩ := ok.ce _ _ e1
        rw [hr] at h1
        cases h1
        cases h2 with
        | lst q1 q2 q3 q4 =>
          refine .inl ⟨_, SqL.of q1, ?_⟩
          cases q2 <;> rfl
    · rename_i ks ws e1
      cases e
      cases r with
      | r hr =>
        obtain ⟨p, h1, h2⟩ := ok.ce _ _ e1
        rw [hr] at h1
        cases h1
        cases h2 with
        | nd q1 q2 q3 =>
          cases q1 with
          | dic e1 e2 => exact .inr (.inr ⟨_, e1, by rw [zip_empty e2]⟩)
    · cases e
theorem rt_truth (ha : RX X W a m) (he : ∀ whole, isTrue a X.env whole = (do let v ← whole; standAt a.pos; holding [v] (truthy v)) := by exact fun _ => rfl) : RT X W a (mTru m) := ⟨pt_imp (pt_truth ha.pe he) fun σ H Q q => by
  obtain ⟨Z, B, ρ, τ, h, ok, sl, q⟩ := q
  refine te_bd ok sl q fun x a h1 B1 ρ1 H1 rx ok1 sl1 g1 q1 => ?_
  split at q1
  · rename_i k e
    exact ⟨k, tru_ra ok1 rx e, q1.now ok1⟩
  · exact q1.elim⟩
theorem rt_cmp {op : CmpOp} {g : G2} {r : R2} (ho : OpR X (compareOp op) r) (og : Op2 X.K r g) (ha : RX X W a ma) (hb : RX X W b mb) (hm : behindInMarks op b = false) : RT X W (.Compare a [op] [b] pos) (mTB (mBin g ma mb)) := ⟨pt_imp (pt_cmpR ho ha.pe hb.pe hm) fun σ H Q q => by
  obtain ⟨Z, B, ρ, τ, h, ok, sl, q⟩ := q
  have q2 := q.bd
  unfold mBin at q2
  exact te_bd ok sl q2 fun x a h1 B1 ρ1 H1 rx ok1 sl1 g1 q1 => te_bd ok1 sl1 q1 fun y b h2 B2 ρ2 H2 ry ok2 sl2 g2 q2 => og Z B2 ρ2 H2 h2 x y a b _ _ ok2 (rx.mono g2) ry (q2.imp fun w h3 B3 ρ3 H3 ok3 g3 q3 v rv => by
    split at q3
    · exact ⟨_, rp_bl (ra_d rv), q3.now ok3⟩
    · exact q3.elim)⟩
/-- a value that is True or False, as a test -/
theorem rt_val (ha : RX X W a m) (he : ∀ whole, isTrue a X.env whole = (do let v ← whole; standAt a.pos; holding [v] (truthy v)) := by exact fun _ => rfl) : RT X W a (mTru m) := rt_truth ha he
theorem rt_no : RT X W e mNo := ⟨⟨fun pins s σ H Q I q => by
  obtain ⟨_, _, _, _, _, _, _, q⟩ := q
  exact q.elim⟩⟩
theorem rt_not (h : RT X W a t) : RT X W (.UnaryOp .Not a pos) (mNotT t) := ⟨pt_imp (pt_not h.pt) fun σ H Q q => by
  obtain ⟨Z, B, ρ, τ, h, ok, sl, q⟩ := q
  exact ⟨Z, B, ρ, τ, h, ok, sl, q.bd.imp fun b h1 B1 ρ1 H1 ok1 g1 q1 => q1.now ok1⟩⟩
theorem RWt.rt (h : RWt X W e t) : RT X W e t := ⟨h.pw.pt⟩
theorem rw_and1 (h : RT X W a t) : RWt X W (.BoolOp .And [a] pos) t := ⟨pw_and1 h.pt⟩
theorem rw_or1 (h : RT X W a t) : RWt X W (.BoolOp .Or [a] pos) t := ⟨pw_or1 h.pt⟩
theorem rw_and (ha : RT X W a ta) (hb : RWt X W (.BoolOp .And (b :: rest) pos) tb) : RWt X W (.BoolOp .And (a :: b :: rest) pos) (mAndT ta tb) := ⟨pw_imp (pw_and ha.pt hb.pw) fun σ H Q q => by
  obtain ⟨Z, B, ρ, τ, h, ok, sl, q⟩ := q
  refine ⟨Z, B, ρ, τ, h, ok, sl, q.bd.imp fun b h1 B1 ρ1 H1 ok1 g1 q1 => ?_⟩
  cases b with
  | true => exact iteT ⟨Z, B1, ρ1, τ, h1, ok1, sl.mono g1, q1⟩
  | false => exact iteF (q1.now ok1)⟩
theorem rw_or (ha : RT X W a ta) (hb : RWt X W (.BoolOp .Or (b :: rest) pos) tb) : RWt X W (.BoolOp .Or (a :: b :: rest) pos) (mOrT ta tb) := ⟨pw_imp (pw_or ha.pt hb.pw) fun σ H Q q => by
  obtain ⟨Z, B, ρ, τ, h, ok, sl, q⟩ := q
  refine ⟨Z, B, ρ, τ, h, ok, sl, q.bd.imp fun b h1 B1 ρ1 H1 ok1 g1 q1 => ?_⟩
  cases b with
  | true => exact iteT (q1.now ok1)
  | false => exact iteF ⟨Z, B1, ρ1, τ, h1, ok1, sl.mono g1, q1⟩⟩

/-! ### and, or, not as values; a if t else b -/
def mAndV (ma mb : E A) : E A := fun τ h => bd (ma τ h) fun a h1 => match a with | .d (.bl true) => mb τ h1 | .d (.bl false) => some (.ok (.d (.bl false)) h1) | _ => none
def mOrV (ma mb : E A) : E A := fun τ h => bd (ma τ h) fun a h1 => match a with | .d (.bl false) => mb τ h1 | .d (.bl true) => some (.ok (.d (.bl true)) h1) | _ => none
def mNotV (ma : E A) : E A := fun τ h => bd (ma τ h) fun a h1 => match a with | .d (.bl b) => some (.ok (.d (.bl (!b))) h1) | _ => none
def mIfE (t : E Bool) (ma mb : E A) : E A := fun τ h => bd (t τ h) fun b h1 => match b with | true => ma τ h1 | false => mb τ h1
theorem rx_if (hc : RT X W c t) (ha : RX X W a ma) (hb : RX X W b mb) : RX X W (.IfExp c a b pos) (mIfE t ma mb) := ⟨pe_imp (pe_ifExp hc.pt ha.pe hb.pe) fun σ H Q q => by
  obtain ⟨Z, B, ρ, τ, h, ok, sl, q⟩ := q
  refine ⟨Z, B, ρ, τ, h, ok, sl, q.bd.imp fun b h1 B1 ρ1 H1 ok1 g1 q1 => ?_⟩
  cases b with
  | true => exact iteT ⟨Z, B1, ρ1, τ, h1, ok1, sl.mono g1, q1⟩
  | false => exact iteF ⟨Z, B1, ρ1, τ, h1, ok1, sl.mono g1, q1⟩⟩
theorem rx_one {op} (h : RX X W a m) : RX X W (.BoolOp op [a] pos) m := ⟨pe_one h.pe⟩
theorem rx_and (ha : RX X W a ma) (hb : RX X W (.BoolOp .And (b :: rest) pos) mb) : RX X W (.BoolOp .And (a :: b :: rest) pos) (mAndV ma mb) := ⟨pe_imp (pe_and ha.pe hb.pe) fun σ H Q q => by
  obtain ⟨Z, B, ρ, τ, h, ok, sl, q⟩ := q
  refine te_bd ok sl q fun x a h1 B1 ρ1 H1 rx ok1 sl1 g1 q1 => ?_
  split at q1
  · exact ⟨true, rp_bl (ra_d rx), iteT ⟨Z, B1, ρ1, τ, h1, ok1, sl1, q1⟩⟩
  · exact ⟨false, rp_bl (ra_d rx), iteF (q1.now ok1 _ (.d (.bl false)))⟩
  · exact q1.elim⟩
theorem rx_or (ha : RX X W a ma) (hb : RX X W (.BoolOp .Or (b :: rest) pos) mb) : RX X W (.BoolOp .Or (a :: b :: rest) pos) (mOrV ma mb) := ⟨pe_imp (L2.pe_or ha.pe hb.pe) fun σ H Q q => by
  obtain ⟨Z, B, ρ, τ, h, ok, sl, q⟩ := q
  refine te_bd ok sl q fun x a h1 B1 ρ1 H1 rx ok1 sl1 g1 q1 => ?_
  split at q1
  · exact ⟨false, rp_bl (ra_d rx), iteF ⟨Z, B1, ρ1, τ, h1, ok1, sl1, q1⟩⟩
  · exact ⟨true, rp_bl (ra_d rx), iteT (q1.now ok1 _ (.d (.bl true)))⟩
  · exact q1.elim⟩
theorem rx_not (ha : RX X W a ma) : RX X W (.UnaryOp .Not a pos) (mNotV ma) := ⟨pe_imp (pe_not ha.pe) fun σ H Q q => by
  obtain ⟨Z, B, ρ, τ, h, ok, sl, q⟩ := q
  refine te_bd ok sl q fun x a h1 B1 ρ1 H1 rx ok1 sl1 g1 q1 => ?_
  split at q1
  · exact ⟨_, rp_bl (ra_d rx), q1.now ok1 _ (.d (.bl _))⟩
  · exact q1.elim⟩
/-- a < b < c -/
def mChain (g1 g2 : G2) (ma mb mc : E A) : E A := fun τ h => bd (ma τ h) fun a h1 => bd (mb τ h1) fun b h2 => bd (g1 a b h2) fun k h3 => match k with
  | .d (.bl true) => bd (mc τ h3) fun c h4 => g2 b c h4
  | .d (.bl false) => some (.ok (.d (.bl false)) h3)
  | _ => none

/-! ### calls of built-ins -/
theorem rx_b1 {id : String} {x : Str} {r : List V → Hp → VK → Prop} {g : G1} {px : Pos} (hc : CallR X (.builtin id) r) (og : Op1 X.K (fun x H Q => r [x] H Q) g) (ha : RX X W a ma) (hm : X.mg x = none) (hv : bootBuiltins x = some (.builtin id) := by decide +kernel) (hg : Gl X x := by rfl)
    (hn : x ≠ "__name__" := by decide) (hdb : (x == ("__debug__" : Str)) = false := by decide) (he : starEach [a] X.env = (false, eval a X.env) :: starEach [] X.env := by rfl) : RX X W (.Call (.Name x px) [a] [] pos) (mUn g ma) :=
  rx_op1 ha og fun h1 => pe_callB hc hg hm hv (pa_cons h1 pa_nil he) hn hdb he
theorem rx_t1 {T : String} {x : Str} {r : List V → Hp → VK → Prop} {g : G1} {px : Pos} (hc : CallR X (.type T) r) (og : Op1 X.K (fun x H Q => r [x] H Q) g) (ha : RX X W a ma) (hm : X.mg x = none) (hv : bootBuiltins x = some (.type T) := by decide +kernel) (hg : Gl X x := by rfl)
    (hn : x ≠ "__name__" := by decide) (hdb : (x == ("__debug__" : Str)) = false := by decide) (he : starEach [a] X.env = (false, eval a X.env) :: starEach [] X.env := by rfl) : RX X W (.Call (.Name x px) [a] [] pos) (mUn g ma) :=
  rx_op1 ha og fun h1 => pe_callTy hc hg hm hv (pa_cons h1 pa_nil he) hn hdb he
theorem rx_b2 {id : String} {x : Str} {r : List V → Hp → VK → Prop} {g : G2} {px : Pos} (hc : CallR X (.builtin id) r) (og : Op2 X.K (fun x y H Q => r [x, y] H Q) g) (ha : RX X W a ma) (hb : RX X W b mb) (hm : X.mg x = none) (hv : bootBuiltins x = some (.builtin id) := by decide +kernel) (hg : Gl X x := by rfl)
    (hn : x ≠ "__name__" := by decide) (hdb : (x == ("__debug__" : Str)) = false := by decide) (he : starEach [a, b] X.env = (false, eval a X.env) :: starEach [b] X.env := by rfl) (he2 : starEach [b] X.env = (false, eval b X.env) :: starEach [] X.env := by rfl) (hpl : (backTo pos (starEach [b] X.env)).any (·.1) = false := by rfl) : RX X W (.Call (.Name x px) [a, b] [] pos) (mBin g ma mb) :=
  rx_op2 ha hb og fun h1 h2 => pe_callB hc hg hm hv (pa_cons h1 (pa_cons h2 pa_nil he2) he) hn hdb he hpl
/-- len -/
def lenA (h : Hq) : A → Option Nat
  | .d (.str x) => if x.length ≤ LIM then some x.length else none
  | .d (.scr ns) => some ns.length
  | .d (.kt ds) => some ds.length
  | a => match tupOf a with
    | some ws => some ws.length
    | none => match lstOf h a with | some ws => some ws.length | none => none
def gLen : G1 := fun a h => match lenA h a with | some n => some (.ok (.d (.int (n : Nat))) h) | none => none
theorem og_len {K : PySem.W.Frag} : Op1 K (fun x H Q => ∃ x' n, [x] = [x'] ∧ LenV K x' H n ∧ Q (.int n) H) gLen := by
  intro Z B ρ H h x a W Q ok rx q
  unfold gLen at q
  split at q
  · rename_i n e
    refine ⟨x, n, rfl, ?_, q.now ok _ (.d (.int _))⟩
    unfold lenA at e
    split at e
    · split at e
      · cases e
        cases ra_str rx
        exact ⟨by rw [← lim_eq]; assumption, rfl⟩
      · cases e
    · cases e
      cases ra_d rx with
      | scr h1 => exact .inl ⟨_, ok.ex.seq h1, (List.length_map ..).symm⟩
    · cases e
      cases ra_d rx with
      | kt h1 r1 => exact .inr ⟨_, sqt_mono ok.ex h1, r1.length.symm⟩
    · split at e
      · rename_i ws e1
        cases e
        obtain ⟨p, vs, rfl, h1, r1⟩ := tupOf_ra rx e1
        exact .inr ⟨_, sqt_of (ok.ex _ _ h1), r1.length.symm⟩
      · split at e
        · rename_i ws e1
          cases e
          obtain ⟨p, vs, rfl, h1, r1⟩ := lstOf_ra ok rx e1
          exact .inl ⟨_, SqL.of h1, r1.length.symm⟩
        · cases e
  · exact q.elim
/-- int of an int, of a bool -/
def gInt : G1 := fun a h => match a with
  | .d (.int i) => some (.ok (.d (.int i)) h)
  | .d (.bl b) => some (.ok (.d (.int (if b then 1 else 0))) h)
  | _ => none
theorem og_int {K : PySem.W.Frag} : Op1 K (fun x H Q => (∃ i, [x] = [.int i] ∧ Q (.int i) H) ∨ ∃ k, [x] = [.bl k] ∧ Q (.int (if k then 1 else 0)) H) gInt := by
  intro Z B ρ H h x a W Q ok rx q
  unfold gInt at q
  split at q
  · cases ra_int rx
    exact .inl ⟨_, rfl, q.now ok _ (.d (.int _))⟩
  · cases rp_bl (ra_d rx)
    exact .inr ⟨_, rfl, q.now ok _ (.d (.int _))⟩
  · exact q.elim
def gAbs : G1 := fun a h => match a with
  | .d (.int i) => some (.ok (.d (.int (if i < 0 then -i else i))) h)
  | _ => none
theorem og_abs {K : PySem.W.Frag} : Op1 K (fun x H Q => ∃ i, [x] = [.int i] ∧ Q (.int (if i < 0 then -i else i)) H) gAbs := by
  intro Z B ρ H h x a W Q ok rx q
  unfold gAbs at q
  split at q
  · cases ra_int rx
    exact ⟨_, rfl, q.now ok _ (.d (.int _))⟩
  · exact q.elim
def gMax2 : G2 := fun a b h => match a, b with
  | .d (.int i), .d (.int j) => some (.ok (.d (.int (if j > i then j else i))) h)
  | _, _ => none
theorem og_max2 {K : PySem.W.Frag} : Op2 K (fun x y H Q => ∃ i j, [x, y] = [.int i, .int j] ∧ Q (.int (if j > i then j else i)) H) gMax2 := by
  intro Z B ρ H h x y a b W Q ok rx ry q
  unfold gMax2 at q
  split at q
  · cases ra_int rx
    cases ra_int ry
    exact ⟨_, _, rfl, q.now ok _ (.d (.int _))⟩
  · exact q.elim
def gMin2 : G2 := fun a b h => match a, b with
  | .d (.int i), .d (.int j) => some (.ok (.d (.int (if j < i then j else i))) h)
  | _, _ => none
theorem og_min2 {K : PySem.W.Frag} : Op2 K (fun x y H Q => ∃ i j, [x, y] = [.int i, .int j] ∧ Q (.int (if j < i then j else i)) H) gMin2 := by
  intro Z B ρ H h x y a b W Q ok rx ry q
  unfold gMin2 at q
  split at q
  · cases ra_int rx
    cases ra_int ry
    exact ⟨_, _, rfl, q.now ok _ (.d (.int _))⟩
  · exact q.elim
/-- tuple(list), tuple(tuple) -/
def gTupOf : G1 := fun a h => match tupOf a with
  | some ws => mkT ws h
  | none => match lstOf h a with | some ws => mkT ws h | none => none
theorem og_tupOf {K : PySem.W.Frag} : Op1 K (fun x H Q => ∃ p ys, [x] = [.ref p] ∧ ((SqL K H p ys ∧ ∀ l, H l = none → Q (.ref l) (upd H l (.tup ys))) ∨ (SqT K H p ys ∧ Q (.ref p) H))) gTupOf := by
  intro Z B ρ H h x a W Q ok rx q
  unfold gTupOf at q
  split at q
  · rename_i ws e1
    obtain ⟨p, vs, rfl, h1, r1⟩ := tupOf_ra rx e1
    exact ⟨_, _, rfl, .inr ⟨sqt_of (ok.ex _ _ h1), mkT_at ok h1 r1 q⟩⟩
  · split at q
    · rename_i ws e1
      obtain ⟨p, vs, rfl, h1, r1⟩ := lstOf_ra ok rx e1
      exact ⟨_, _, rfl, .inl ⟨SqL.of h1, fun l hl => mkT_ok ok r1 q hl⟩⟩
    · exact q.elim
/-- list(list), list(tuple), list(script) -/
def gLstOf (o : Bool) : G1 := fun a h => match a with
  | .d (.scr ns) => mkL o (ns.map fun i => .d (.int i)) h
  | a => match tupOf a with
    | some ws => mkL o ws h
    | none => match lstOf h a with | some ws => mkL o ws h | none => none
theorem ral_ints {K : PySem.W.Frag} {B : Hp} {ρ : Nat → Option Addr} (ns : List Int) : RAL K B ρ (ns.map V.int) (ns.map fun i => A.d (.int i)) := by
  have e := ral_ds (ρ := ρ) (rpl_ints (K := K) (B := B) ns)
  rwa [List.map_map] at e
theorem og_lstOf {K : PySem.W.Frag} {o : Bool} : Op1 K (fun x H Q => ∃ p ys, [x] = [.ref p] ∧ (SqL K H p ys ∨ SqT K H p ys) ∧ ∀ l, H l = none → Q (.ref l) (upd H l (.lst ys))) (gLstOf o) := by
  intro Z B ρ H h x a W Q ok rx q
  unfold gLstOf at q
  split at q
  · rename_i ns
    cases ra_d rx with
    | scr h1 => exact ⟨_, _, rfl, .inl (ok.ex.seq h1), fun l hl => mkL_ok ok (ral_ints ns) q hl⟩
  · split at q
    · rename_i ws e1
      obtain ⟨p, vs, rfl, h1, r1⟩ := tupOf_ra rx e1
      exact ⟨_, _, rfl, .inr (sqt_of (ok.ex _ _ h1)), fun l hl => mkL_ok ok r1 q hl⟩
    · split at q
      · rename_i ws e1
        obtain ⟨p, vs, rfl, h1, r1⟩ := lstOf_ra ok rx e1
        exact ⟨_, _, rfl, .inl (SqL.of h1), fun l hl => mkL_ok ok r1 q hl⟩
      · exact q.elim
/-- str of an int -/
def gStrI : G1 := fun a h => match a with
  | .d (.int i) => if i.natAbs.log2 < 1920 then some (.ok (.d (.str (toString i))) h) else none
  | _ => none
theorem og_strI {K : PySem.W.Frag} : Op1 K (fun x H Q => ∃ i, [x] = [.int i] ∧ i.natAbs.log2 < 1920 ∧ Q (.str (toString i)) H) gStrI := by
  intro Z B ρ H h x a W Q ok rx q
  unfold gStrI at q
  split at q
  · split at q
    · rename_i hl
      cases ra_int rx
      exact ⟨_, rfl, hl, q.now ok _ (.d (.str _))⟩
    · exact q.elim
  · exact q.elim
def gOrd : G1 := fun a h => match a with
  | .d (.str x) => if x.length = 1 then some (.ok (.d (.int (x.cps.getD 0 0 : Nat))) h) else none
  | _ => none
theorem og_ord1 {K : PySem.W.Frag} : Op1 K (fun x H Q => ∃ z, [x] = [.str z] ∧ z.length = 1 ∧ Q (.int (z.cps.getD 0 0 : Nat)) H) gOrd := by
  intro Z B ρ H h x a W Q ok rx q
  unfold gOrd at q
  split at q
  · split at q
    · rename_i hl
      cases ra_str rx
      exact ⟨_, rfl, hl, q.now ok _ (.d (.int _))⟩
    · exact q.elim
  · exact q.elim
def gChr : G1 := fun a h => match a with
  | .d (.int i) => if 0 ≤ i ∧ i ≤ 1114111 then some (.ok (.d (.str ⟨#[i.toNat]⟩)) h) else none
  | _ => none
theorem og_chr {K : PySem.W.Frag} : Op1 K (fun x H Q => ∃ i, [x] = [.int i] ∧ 0 ≤ i ∧ i ≤ 1114111 ∧ Q (.str ⟨#[i.toNat]⟩) H) gChr := by
  intro Z B ρ H h x a W Q ok rx q
  unfold gChr at q
  split at q
  · split at q
    · rename_i hl
      cases ra_int rx
      exact ⟨_, rfl, hl.1, hl.2, q.now ok _ (.d (.str _))⟩
    · exact q.elim
  · exact q.elim

/-! ### sep.join(texts) -/
def strsA : List A → Option (List Str) := mapMn fun a => match a with | .d (.str x) => some x | _ => none
theorem strsA_ra {K : PySem.W.Frag} {B : Hp} {ρ : Nat → Option Addr} : ∀ {vs : List V} {ws : List A} {ys : List Str}, RAL K B ρ vs ws → strsA ws = some ys → vs = ys.map V.str
  | _, _, ys, .nil, h => by cases h; rfl
  | _, w :: r, ys, .cons ra ral, h => by
    unfold strsA mapMn at h
    split at h
    · rename_i b e1
      split at h
      · rename_i bs e2
        cases h
        split at e1
        · cases e1
          rw [strsA_ra ral e2, ra_str ra]
          rfl
        · cases e1
      · cases h
    · cases h
def gJoin : G2 := fun s u h => match s with
  | .d (.str a) => (match (match tupOf u with | some ws => some ws | none => lstOf h u) with
    | some ws => (match strsA ws with
      | some ys => if (ys.map (·.length)).sum + ys.length * a.length ≤ LIM then some (.ok (.d (.str (Txt.join a ys))) h) else none
      | none => none)
    | none => none)
  | _ => none
/-- a method of a built-in type with one argument -/
theorem rx_m1 {T id : String} {name : Str} {apos : Pos} {r : V → List V → Hp → VK → Prop} {g : G2} (pa : PlainAttrs T) (slot : Slot T name id) (hty : typeOf (.builtin id) = pure (.type "method_descriptor")) (hm : MtR X id r)
    (tok : A → Hq → Bool) (hC : ∀ (Z B : Hp) (ρ : Nat → Option Addr) (H : Hp) (h : Hq) (x : V) (a : A), Ok X.K Z B ρ H h → RA X.K B ρ x a → tok a h = true → tyV X.K T x H) (og : Op2 X.K (fun x y H Q => r x [y] H Q) g) (ha : RX X W a ma) (hb : RX X W b mb)
    (hbase : attributeBase a name X.env (eval a X.env) = eval a X.env := by rfl)
    (hfew : ((backTo pos (starEach (b :: []) X.env)).all (fun x => !x.1) && (backToKw pos (keywordEach [] X.env)).all (fun x => x.1.isSome)
      && decide ((b :: []).length + ([] : List Keyword).length + (if ([] : List Keyword).isEmpty then 0 else 1) < 30)) = true := by rfl)
    (hline : (apos.endLine == pos.line) = true := by rfl) (hs : starEach (b :: []) X.env = (false, eval b X.env) :: starEach [] X.env := by rfl) :
    RX X W (.Call (.Attribute a name apos) [b] [] pos) (fun τ h => bd (ma τ h) fun a h1 => if tok a h1 = true then bd (mb τ h1) fun b h2 => g a b h2 else none) := ⟨pe_imp (pe_bm pa slot hty hm ha.pe (pa_cons hb.pe pa_nil hs) hbase hfew hline hs) fun σ H Q q => by
  obtain ⟨Z, B, ρ, τ, h, ok, sl, q⟩ := q
  refine te_bd ok sl q fun x a h1 B1 ρ1 H1 rx ok1 sl1 g1 q1 => ?_
  split at q1
  · rename_i ht
    exact ⟨hC Z B1 ρ1 H1 h1 x a ok1 rx ht, te_bd ok1 sl1 q1 fun y b h2 B2 ρ2 H2 ry ok2 sl2 g2 q2 => og Z B2 ρ2 H2 h2 x y a b _ Q ok2 (rx.mono g2) ry q2⟩
  · exact q1.elim⟩
/-- a method of a built-in type without arguments -/
theorem rx_m0 {T id : String} {name : Str} {apos : Pos} {r : V → List V → Hp → VK → Prop} {g : G1} (pa : PlainAttrs T) (slot : Slot T name id) (hty : typeOf (.builtin id) = pure (.type "method_descriptor")) (hm : MtR X id r)
    (tok : A → Hq → Bool) (hC : ∀ (Z B : Hp) (ρ : Nat → Option Addr) (H : Hp) (h : Hq) (x : V) (a : A), Ok X.K Z B ρ H h → RA X.K B ρ x a → tok a h = true → tyV X.K T x H) (og : Op1 X.K (fun x H Q => r x [] H Q) g) (ha : RX X W a ma)
    (hbase : attributeBase a name X.env (eval a X.env) = eval a X.env := by rfl)
    (hline : (apos.endLine == pos.line) = true := by rfl) :
    RX X W (.Call (.Attribute a name apos) [] [] pos) (fun τ h => bd (ma τ h) fun a h1 => if tok a h1 = true then g a h1 else none) := ⟨pe_imp (pe_bm0 pa slot hty hm ha.pe hbase hline) fun σ H Q q => by
  obtain ⟨Z, B, ρ, τ, h, ok, sl, q⟩ := q
  refine te_bd ok sl q fun x a h1 B1 ρ1 H1 rx ok1 sl1 g1 q1 => ?_
  split at q1
  · rename_i ht
    exact ⟨hC Z B1 ρ1 H1 h1 x a ok1 rx ht, og Z B1 ρ1 H1 h1 x a _ Q ok1 rx q1⟩
  · exact q1.elim⟩
def tokS : A → Hq → Bool := fun a _ => match a with | .d (.str _) => true | _ => false
def tokL : A → Hq → Bool := fun a h => (lstOf h a).isSome
theorem tokS_ty {K : PySem.W.Frag} (Z B : Hp) (ρ : Nat → Option Addr) (H : Hp) (h : Hq) (x : V) (a : A) (ok : Ok K Z B ρ H h) (r : RA K B ρ x a) (e : tokS a h = true) : tyV K "str" x H := by
  unfold tokS at e
  split at e
  · cases ra_str r
    rfl
  · cases e
theorem tokL_ty {K : PySem.W.Frag} (Z B : Hp) (ρ : Nat → Option Addr) (H : Hp) (h : Hq) (x : V) (a : A) (ok : Ok K Z B ρ H h) (r : RA K B ρ x a) (e : tokL a h = true) : tyV K "list" x H := by
  unfold tokL at e
  obtain ⟨ws, e⟩ := Option.isSome_iff_exists.mp e
  obtain ⟨p, vs, rfl, h1, r1⟩ := lstOf_ra ok r e
  exact .inl ⟨rfl, _, SqL.of h1⟩
theorem og_join {K : PySem.W.Frag} : Op2 K (fun x y H Q => ∃ a p, ∃ ys : List Str, x = .str a ∧ [y] = [.ref p] ∧ (SqL K H p (ys.map V.str) ∨ SqT K H p (ys.map V.str)) ∧
      (ys.map (·.length)).sum + ys.length * a.length ≤ 16777216 ∧ Q (.str (Txt.join a ys)) H) gJoin := by
  intro Z B ρ H h x y a b W Q ok rx ry q
  unfold gJoin at q
  split at q
  · rename_i a
    split at q
    · rename_i ws e
      split at q
      · rename_i ys e2
        split at q
        · rename_i hl
          cases ra_str rx
          have z : ∃ p, y = .ref p ∧ (SqL K H p (ys.map V.str) ∨ SqT K H p (ys.map V.str)) := by
            split at e
            · rename_i ws' e1
              cases e
              obtain ⟨p, vs, rfl, h1, r1⟩ := tupOf_ra ry e1
              exact ⟨p, rfl, .inr (by rw [← strsA_ra r1 e2]; exact sqt_of (ok.ex _ _ h1))⟩
            · obtain ⟨p, vs, rfl, h1, r1⟩ := lstOf_ra ok ry e
              exact ⟨p, rfl, .inl (by rw [← strsA_ra r1 e2]; exact SqL.of h1)⟩
          obtain ⟨p, rfl, hp⟩ := z
          exact ⟨a, p, ys, rfl, rfl, hp, hl, q.now ok _ (.d (.str _))⟩
        · exact q.elim
      · exact q.elim
    · exact q.elim
  · exact q.elim
def mM1 (tok : A → Hq → Bool) (g : G2) (ma mb : E A) : E A := fun τ h => bd (ma τ h) fun a h1 => if tok a h1 = true then bd (mb τ h1) fun b h2 => g a b h2 else none
def mM0 (tok : A → Hq → Bool) (g : G1) (ma : E A) : E A := fun τ h => bd (ma τ h) fun a h1 => if tok a h1 = true then g a h1 else none
theorem rx_join {apos : Pos} (ha : RX X W a ma) (hb : RX X W b mb) (hbase : attributeBase a "join" X.env (eval a X.env) = eval a X.env := by rfl)
    (hfew : ((backTo pos (starEach (b :: []) X.env)).all (fun x => !x.1) && (backToKw pos (keywordEach [] X.env)).all (fun x => x.1.isSome)
      && decide ((b :: []).length + ([] : List Keyword).length + (if ([] : List Keyword).isEmpty then 0 else 1) < 30)) = true := by rfl)
    (hline : (apos.endLine == pos.line) = true := by rfl) (hs : starEach (b :: []) X.env = (false, eval b X.env) :: starEach [] X.env := by rfl) : RX X W (.Call (.Attribute a "join" apos) [b] [] pos) (mM1 tokS gJoin ma mb) :=
  rx_m1 F.plainAttrs_str F.slot_str_join F.type_str_join mt_join tokS tokS_ty og_join ha hb hbase hfew hline hs

/-! ### isinstance of built-in classes -/
def tyD : D → Option String
  | .non => some "NoneType" | .bl _ => some "bool" | .int _ => some "int" | .str _ => some "str" | .tup _ => some "tuple" | .kt _ => some "tuple" | .lst _ => some "list" | .scr _ => some "list"
  | .nd (.dic _) _ => some "dict" | .nd (.dit _) _ => some "dict" | _ => none
def tyA (h : Hq) : A → Option String
  | .d x => tyD x
  | .tup _ => some "tuple"
  | .r k => match h[k]? with | some (.lst _) => some "list" | some (.nd (.dic _) _) => some "dict" | some (.nd (.dit _) _) => some "dict" | _ => none
def isiN (T n : String) : Bool := n == T || (n == "bool" && T == "int")
def gIsi (T : String) : G1 := fun a h => match tyA h a with | some n => some (.ok (.d (.bl (isiN T n))) h) | none => none
theorem hd_ty {K : PySem.W.Frag} {H : Hp} {a : Addr} {hd : Hd} {vs : List V} {own : List Addr} (x : HdAt K H a hd vs own) (h : ∀ C fs, hd ≠ .ins C fs) : TyX K H (.ref a) (.type "dict") := by
  cases x with
  | dic h1 _ => exact .base (.dK h1)
  | dit h1 _ => exact .base (.dT h1)
  | ins => exact absurd rfl (h _ _)
theorem sqt_ty {K : PySem.W.Frag} {H : Hp} {a : Addr} {xs : List V} (h : SqT K H a xs) : TyX K H (.ref a) (.type "tuple") := by
  rcases h with (h | ⟨o, h⟩) | ⟨o, its, n, h, hc, _⟩
  · exact .base (.tup h)
  · exact .fTuple h
  · exact .kTuple h hc
theorem sql_ty {K : PySem.W.Frag} {H : Hp} {a : Addr} {xs : List V} (h : SqL K H a xs) : TyX K H (.ref a) (.type "list") := by
  rcases h with (h | ⟨o, h⟩) | ⟨o, its, n, h, hc, _⟩
  · exact .base (.lst h)
  · exact .base (.frz h)
  · exact .kList h hc
theorem tyx_rp {K : PySem.W.Frag} {H : Hp} {v : V} {d : D} {n : String} (r : Rp K H v d) (e : tyD d = some n) : TyX K H v (.type n) ∧ n ∈ ["NoneType", "bool", "int", "str", "tuple", "list", "dict"] := by
  cases r with
  | non => cases e; exact ⟨.base .non, by decide⟩
  | bl b => cases e; exact ⟨.base (.bl b), by decide⟩
  | int i => cases e; exact ⟨.base (.int i), by decide⟩
  | str x => cases e; exact ⟨.base (.str x), by decide⟩
  | tup h r => cases e; exact ⟨sqt_ty (sqt_of h), by decide⟩
  | kt h r => cases e; exact ⟨sqt_ty h, by decide⟩
  | lst h r => cases e; exact ⟨sql_ty (SqL.of h), by decide⟩
  | scr h => cases e; exact ⟨sql_ty h, by decide⟩
  | fn _ => cases e
  | nd h r =>
    rename_i hd _ _ _
    cases hd with
    | dic ks => cases e; exact ⟨hd_ty h (fun _ _ z => by cases z), by decide⟩
    | dit ks => cases e; exact ⟨hd_ty h (fun _ _ z => by cases z), by decide⟩
    | ins C fs => cases e
theorem tyx_ra {K : PySem.W.Frag} {Z B H : Hp} {ρ : Nat → Option Addr} {h : Hq} {v : V} {a : A} {n : String} (ok : Ok K Z B ρ H h) (r : RA K B ρ v a) (e : tyA h a = some n) : TyX K H v (.type n) ∧ n ∈ ["NoneType", "bool", "int", "str", "tuple", "list", "dict"] := by
  unfold tyA at e
  split at e
  · exact tyx_rp ((ra_d r).mono ok.ex) e
  · cases e
    cases r with
    | tup h1 r1 => exact ⟨sqt_ty (sqt_of (ok.ex _ _ h1)), by decide⟩
  · cases r with
    | r hr =>
      split at e
      · rename_i e1
        cases e
        obtain ⟨p, h1, h2⟩ := ok.ce _ _ e1
        rw [hr] at h1
        cases h1
        cases h2 with
        | lst q1 q2 q3 q4 => exact ⟨sql_ty (SqL.of q1), by decide⟩
      · rename_i e1
        cases e
        obtain ⟨p, h1, h2⟩ := ok.ce _ _ e1
        rw [hr] at h1
        cases h1
        cases h2 with
        | nd q1 q2 q3 => exact ⟨hd_ty q1 (fun _ _ z => by cases z), by decide⟩
      · rename_i e1
        cases e
        obtain ⟨p, h1, h2⟩ := ok.ce _ _ e1
        rw [hr] at h1
        cases h1
        cases h2 with
        | nd q1 q2 q3 => exact ⟨hd_ty q1 (fun _ _ z => by cases z), by decide⟩
      · cases e
theorem kit_isiN {K : PySem.W.Frag} {T n : String} (hT : T ∈ ["bool", "int", "str", "tuple", "list", "dict"]) (hn : n ∈ ["NoneType", "bool", "int", "str", "tuple", "list", "dict"]) : PySem.W.kitOne K (.type n) (.type T) = some (isiN T n) := by
  rcases (by simpa using hT : T = "bool" ∨ T = "int" ∨ T = "str" ∨ T = "tuple" ∨ T = "list" ∨ T = "dict") with rfl | rfl | rfl | rfl | rfl | rfl <;>
    rcases (by simpa using hn : n = "NoneType" ∨ n = "bool" ∨ n = "int" ∨ n = "str" ∨ n = "tuple" ∨ n = "list" ∨ n = "dict") with rfl | rfl | rfl | rfl | rfl | rfl | rfl <;> exact kit_ty (by decide +kernel)
theorem og_isi {K : PySem.W.Frag} {T : String} (hT : T ∈ ["bool", "int", "str", "tuple", "list", "dict"]) : Op1 K (fun x H Q => rIsi K [x, .ty T] H Q) (gIsi T) := by
  intro Z B ρ H h x a W Q ok rx q
  unfold gIsi at q
  split at q
  · rename_i n e
    obtain ⟨h1, h2⟩ := tyx_ra ok rx e
    exact ⟨x, .ty T, .type n, .type T, _, rfl, .ty T, h1, kit_isiN hT h2, q.now ok _ (.d (.bl _))⟩
  · exact q.elim
theorem rx_isi {x : Str} {Ts : String} {px py : Pos} (ha : RX X W a ma) (hmi : X.mg "isinstance" = none) (hmT : X.mg x = none) (hv : bootBuiltins x = some (.type Ts) := by decide +kernel) (hT : Ts ∈ ["bool", "int", "str", "tuple", "list", "dict"] := by decide)
    (hgi : Gl X "isinstance" := by rfl) (hg : Gl X x := by rfl) (hn : x ≠ "__name__" := by decide) (hdb : (x == ("__debug__" : Str)) = false := by decide)
    (he : starEach [a, .Name x py] X.env = (false, eval a X.env) :: starEach [.Name x py] X.env := by rfl) (he2 : starEach [.Name x py] X.env = (false, eval (.Name x py) X.env) :: starEach [] X.env := by rfl) (hpl : (backTo pos (starEach [.Name x py] X.env)).any (·.1) = false := by rfl) :
    RX X W (.Call (.Name "isinstance" px) [a, .Name x py] [] pos) (mUn (gIsi Ts) ma) :=
  rx_op1 ha (og_isi hT) fun h1 => pe_callB call_isi hgi hmi (by decide +kernel) (pa_cons h1 (pa_cons (pe_bltn (v := .ty Ts) hg hmT hv rfl hn hdb) pa_nil he2) he) (by decide) (by decide) he hpl
end
end Tq

/-! Tq5: statements, targets, for, while. -/
namespace Tq
open PySem PySem.Spec PyProof.Rows L2

inductive So where
  | nx (τ : Sl) (h : Hq) | bk (τ : Sl) (h : Hq) | ct (τ : Sl) (h : Hq) | rt (w : A) (h : Hq) | ex (x : Xc) (τ : Sl) (h : Hq)
abbrev MS := Sl → Hq → Option So
def PostS (K : PySem.W.Frag) (Z : Hp) (W : WX) (B : Hp) (ρ : Nat → Option Addr) (D : Ends) : Option So → Prop
  | none => False
  | some (.nx τ h) => ∀ σ' B' ρ' H', Ok K Z B' ρ' H' h → SlOk K B' ρ' σ' τ → Gr Z B ρ B' ρ' → D.nx σ' H'
  | some (.bk τ h) => ∀ σ' B' ρ' H', Ok K Z B' ρ' H' h → SlOk K B' ρ' σ' τ → Gr Z B ρ B' ρ' → D.bk σ' H'
  | some (.ct τ h) => ∀ σ' B' ρ' H', Ok K Z B' ρ' H' h → SlOk K B' ρ' σ' τ → Gr Z B ρ B' ρ' → D.ct σ' H'
  | some (.rt w h) => ∀ v B' ρ' H', RA K B' ρ' v w → Ok K Z B' ρ' H' h → Gr Z B ρ B' ρ' → D.rt v H'
  | some (.ex x τ h) => ∀ σ' B' ρ' H' cls d, Ok K Z B' ρ' H' h → SlOk K B' ρ' σ' τ → Gr Z B ρ B' ρ' → XcAt K B' ρ' H' x cls d → W cls d σ' H'
def tS (K : PySem.W.Frag) (W : WX) (m : MS) : TS := fun D σ H => ∃ Z B ρ τ h, Ok K Z B ρ H h ∧ SlOk K B ρ σ τ ∧ PostS K Z W B ρ D (m τ h)
structure RS (X : Cx) (W : WX) (st : Stmt) (m : MS) : Prop where
  ps : PS X st (tS X.K W m)
structure RSs (X : Cx) (W : WX) (st : List Stmt) (m : MS) : Prop where
  ps : PSs X st (tS X.K W m)
def sb {α : Type} (τ : Sl) (r : Option (Rs α)) (k : α → Hq → Option So) : Option So := match r with
  | some (.ok a h) => k a h
  | some (.ex x h) => some (.ex x τ h)
  | none => none
@[simp] theorem sb_ok {α : Type} (τ : Sl) (a : α) (h : Hq) (k : α → Hq → Option So) : sb τ (some (.ok a h)) k = k a h := rfl
@[simp] theorem sb_ex {α : Type} (τ : Sl) (x : Xc) (h : Hq) (k : α → Hq → Option So) : sb τ (some (.ex x h)) k = some (.ex x τ h) := rfl
@[simp] theorem sb_no {α : Type} (τ : Sl) (k : α → Hq → Option So) : sb τ none k = none := rfl
section
variable {α : Type} {K : PySem.W.Frag} {Z B B' H : Hp} {ρ ρ' : Nat → Option Addr} {h : Hq} {σ : L2.St} {τ : Sl} {W : WX} {D D' : Ends} {r : Option So}
theorem PostS.from (q : PostS K Z W B ρ D r) (g : Gr Z B ρ B' ρ') : PostS K Z W B' ρ' D r := by
  match r, q with
  | some (.nx τ h), q => exact fun σ2 B2 ρ2 H2 ok sl g2 => q σ2 B2 ρ2 H2 ok sl (g.trans g2)
  | some (.bk τ h), q => exact fun σ2 B2 ρ2 H2 ok sl g2 => q σ2 B2 ρ2 H2 ok sl (g.trans g2)
  | some (.ct τ h), q => exact fun σ2 B2 ρ2 H2 ok sl g2 => q σ2 B2 ρ2 H2 ok sl (g.trans g2)
  | some (.rt w h), q => exact fun v B2 ρ2 H2 rv ok g2 => q v B2 ρ2 H2 rv ok (g.trans g2)
  | some (.ex x τ h), q => exact fun σ2 B2 ρ2 H2 cls d ok sl g2 x => q σ2 B2 ρ2 H2 cls d ok sl (g.trans g2) x
theorem PostS.sb {r : Option (Rs α)} {k : α → Hq → Option So} (sl : SlOk K B ρ σ τ) (q : PostS K Z W B ρ D (Tq.sb τ r k)) : Post K Z (fun c d H' => W c d σ H') B ρ (fun a h B' ρ' H' => PostS K Z W B' ρ' D (k a h)) r := by
  match r, q with
  | some (.ok a h), q => exact fun B2 ρ2 H2 ok g2 => PostS.from q g2
  | some (.ex x h), q => exact fun B2 ρ2 H2 cls d ok g2 x => q σ B2 ρ2 H2 cls d ok (sl.mono g2) g2 x
theorem ts_bd {m : E A} {k : A → Hq → Option So} {Q : VK} (ok : Ok K Z B ρ H h) (sl : SlOk K B ρ σ τ) (q : PostS K Z W B ρ D (Tq.sb τ (m τ h) k))
    (c : ∀ v w h1 B1 ρ1 H1, RA K B1 ρ1 v w → Ok K Z B1 ρ1 H1 h1 → SlOk K B1 ρ1 σ τ → Gr Z B ρ B1 ρ1 → PostS K Z W B1 ρ1 D (k w h1) → Q v H1) : tE K W m σ H Q :=
  ⟨Z, B, ρ, τ, h, ok, sl, (q.sb sl).imp fun w h1 B1 ρ1 H1 ok1 g1 q1 v r => c v w h1 B1 ρ1 H1 r ok1 (sl.mono g1) g1 q1⟩
theorem PostS.nx1 {D : Ends} (q : PostS K Z W B ρ D (some (.nx τ h))) (ok : Ok K Z B ρ H h) (sl : SlOk K B ρ σ τ) : D.nx σ H := q σ B ρ H ok sl Gr.refl
end

/-! ### m's -/
def mNx : MS := fun τ h => some (.nx τ h)
def mSeq (m1 m2 : MS) : MS := fun τ h => match m1 τ h with | some (.nx τ' h') => m2 τ' h' | r => r
def mIf (t : E Bool) (m1 m2 : MS) : MS := fun τ h => sb τ (t τ h) fun b h1 => match b with | true => m1 τ h1 | false => m2 τ h1
def mSet (i : Nat) (m : E A) : MS := fun τ h => sb τ (m τ h) fun w h1 => some (.nx (τ.set i (some w)) h1)
def mDrop (m : E A) : MS := fun τ h => sb τ (m τ h) fun _ h1 => some (.nx τ h1)
def mRet (m : E A) : MS := fun τ h => sb τ (m τ h) fun w h1 => some (.rt w h1)
def mRetN : MS := fun _ h => some (.rt (.d .non) h)
def mBk : MS := fun τ h => some (.bk τ h)
def mCt : MS := fun τ h => some (.ct τ h)
def mNoS : MS := fun _ _ => none
section
variable {X : Cx} {W : WX} {st : Stmt} {rest b1 b2 : List Stmt} {m m1 m2 : MS} {me : E A} {t : E Bool} {e c : Expr} {pos : Pos}
theorem rs_no : RS X W st mNoS := ⟨⟨fun pins s σ H D I q => by
  obtain ⟨_, _, _, _, _, _, _, q⟩ := q
  exact q.elim⟩⟩
theorem rss_no {st : List Stmt} : RSs X W st mNoS := ⟨⟨fun pins s σ H D I q => by
  obtain ⟨_, _, _, _, _, _, _, q⟩ := q
  exact q.elim⟩⟩
theorem rss_nil : RSs X W [] mNx := ⟨pss_imp pss_nil fun D σ H q => by
  obtain ⟨Z, B, ρ, τ, h, ok, sl, q⟩ := q
  exact q.nx1 ok sl⟩
theorem rss_cons (h1 : RS X W st m1) (h2 : RSs X W rest m2) : RSs X W (st :: rest) (mSeq m1 m2) := ⟨pss_imp (pss_cons h1.ps h2.ps) fun D σ H q => by
  obtain ⟨Z, B, ρ, τ, h, ok, sl, q⟩ := q
  refine ⟨Z, B, ρ, τ, h, ok, sl, ?_⟩
  unfold mSeq at q
  split at q
  · rename_i τ1 h1 e1
    rw [e1]
    exact fun σ' B' ρ' H' ok' sl' g => ⟨Z, B', ρ', τ1, h1, ok', sl', q.from g⟩
  · rename_i hn
    revert q hn
    cases m1 τ h with
    | none => exact fun _ q => q.elim
    | some r =>
      cases r with
      | nx τ1 h1 => exact fun hn _ => (hn _ _ rfl).elim
      | bk _ _ => exact fun _ q => q
      | ct _ _ => exact fun _ q => q
      | rt _ _ => exact fun _ q => q
      | ex _ _ _ => exact fun _ q => q⟩
theorem rss_one (h1 : RS X W st m1) : RSs X W [st] m1 := ⟨pss_one h1.ps⟩
theorem rs_pass : RS X W (.Pass pos) mNx := ⟨ps_imp ps_pass fun D σ H q => by
  obtain ⟨Z, B, ρ, τ, h, ok, sl, q⟩ := q
  exact q.nx1 ok sl⟩
theorem rs_break : RS X W (.Break pos) mBk := ⟨ps_imp ps_break fun D σ H q => by
  obtain ⟨Z, B, ρ, τ, h, ok, sl, q⟩ := q
  exact q σ B ρ H ok sl Gr.refl⟩
theorem rs_cont : RS X W (.Continue pos) mCt := ⟨ps_imp ps_continue fun D σ H q => by
  obtain ⟨Z, B, ρ, τ, h, ok, sl, q⟩ := q
  exact q σ B ρ H ok sl Gr.refl⟩
theorem rs_doc {x j pos'} : RS X W (.Expr (.Constant (.str x) j pos) pos') mNx := ⟨ps_imp ps_doc fun D σ H q => by
  obtain ⟨Z, B, ρ, τ, h, ok, sl, q⟩ := q
  exact q.nx1 ok sl⟩
theorem rs_if (hc : RT X W c t) (ha : RSs X W b1 m1) (hb : RSs X W b2 m2) : RS X W (.If c b1 b2 pos) (mIf t m1 m2) := ⟨ps_imp (ps_if hc.pt ha.ps hb.ps) fun D σ H q => by
  obtain ⟨Z, B, ρ, τ, h, ok, sl, q⟩ := q
  refine ⟨Z, B, ρ, τ, h, ok, sl, (q.sb sl).imp fun b h1 B1 ρ1 H1 ok1 g1 q1 => ?_⟩
  cases b with
  | true => exact iteT ⟨Z, B1, ρ1, τ, h1, ok1, sl.mono g1, q1⟩
  | false => exact iteF ⟨Z, B1, ρ1, τ, h1, ok1, sl.mono g1, q1⟩⟩
theorem rs_set {i : Nat} {x : Str} {pos' : Pos} (hN : X.N.Nodup) (he : RX X W e me) (hi : X.N[i]? = some x := by rfl) (hx : Loc X.env.scope x := by first | exact .inl rfl | exact .inr rfl) (hs : swapsWith e (some (.Name x pos')) pos.line X.env = pure false := by rfl)
    (hf : X.fn x = true ∨ X.env.scope.names.lookup x = some .local := by first | exact .inl rfl | exact .inr rfl | assumption) : RS X W (.Assign [.Name x pos'] e pos) (mSet i me) := ⟨ps_imp (ps_set hN hi hx he.pe hs hf) fun D σ H q => by
  obtain ⟨Z, B, ρ, τ, h, ok, sl, q⟩ := q
  exact ts_bd ok sl q fun v w h1 B1 ρ1 H1 rv ok1 sl1 g1 q1 => q1.nx1 ok1 (sl1.put rv)⟩
theorem rs_drop (he : RX X W e me) (hs : swapsWith e none pos.line X.env = pure false := by rfl) : RS X W (.Expr e pos) (mDrop me) := ⟨ps_imp (ps_expr he.pe hs) fun D σ H q => by
  obtain ⟨Z, B, ρ, τ, h, ok, sl, q⟩ := q
  exact ts_bd ok sl q fun v w h1 B1 ρ1 H1 rv ok1 sl1 g1 q1 => q1.nx1 ok1 sl1⟩
theorem rs_ret (he : RX X W e me) : RS X W (.Return (some e) pos) (mRet me) := ⟨ps_imp (ps_ret he.pe) fun D σ H q => by
  obtain ⟨Z, B, ρ, τ, h, ok, sl, q⟩ := q
  exact ts_bd ok sl q fun v w h1 B1 ρ1 H1 rv ok1 sl1 g1 q1 => q1 v B1 ρ1 H1 rv ok1 Gr.refl⟩
theorem rs_retN : RS X W (.Return none pos) mRetN := ⟨ps_imp ps_retN fun D σ H q => by
  obtain ⟨Z, B, ρ, τ, h, ok, sl, q⟩ := q
  exact q .non B ρ H (.d .non) ok Gr.refl⟩

/-! ### targets -/
def Apart (vs : List Nat) (σ σ' : L2.St) : Prop := σ'.length = σ.length ∧ ∀ j, j ∉ vs → σ'[j]? = σ[j]?
theorem Apart.refl {vs : List Nat} {σ : L2.St} : Apart vs σ σ := ⟨rfl, fun _ _ => rfl⟩
theorem Apart.trans {vs : List Nat} {σ σ1 σ2 : L2.St} (a : Apart vs σ σ1) (b : Apart vs σ1 σ2) : Apart vs σ σ2 := ⟨b.1.trans a.1, fun j h => (b.2 j h).trans (a.2 j h)⟩
theorem Apart.set {vs : List Nat} {σ : L2.St} {i : Nat} {v : Option V} (h : i ∈ vs) : Apart vs σ (σ.set i v) := ⟨List.length_set .., fun j hj => List.getElem?_set_ne fun e => hj (by rw [← e]; exact h)⟩
structure RG (X : Cx) (vs : List Nat) (tg : Expr) (mg : A → Sl → Hq → Option Sl) : Prop where
  pg : PG X tg fun v σ H Q => ∃ Z B ρ w τ τ' h, Ok X.K Z B ρ H h ∧ SlOk X.K B ρ σ τ ∧ RA X.K B ρ v w ∧ mg w τ h = some τ' ∧ ∀ σ', SlOk X.K B ρ σ' τ' → Apart vs σ σ' → Q σ' H
def mgName (i : Nat) : A → Sl → Hq → Option Sl := fun w τ _ => some (τ.set i (some w))
theorem pg_imp {X : Cx} {e : Expr} {t t' : TG} (h : PG X e t) (i : ∀ v σ H Q, t' v σ H Q → t v σ H Q) : PG X e t' := ⟨fun pins s σ H v u Q I r q => h.run pins s σ H v u Q I r (i _ _ _ _ q)⟩
theorem pg_or {X : Cx} {e : Expr} {t t' : TG} (h : PG X e t) (h' : PG X e t') : PG X e fun v σ H Q => t v σ H Q ∨ t' v σ H Q := ⟨fun pins s σ H v u Q I r q => q.elim (h.run pins s σ H v u Q I r) (h'.run pins s σ H v u Q I r)⟩
theorem pgs_imp {X : Cx} {es : List Expr} {t t' : TGs} (h : PGs X es t) (i : ∀ v σ H Q, t' v σ H Q → t v σ H Q) : PGs X es t' := ⟨fun pins s σ H v u Q I r q => h.run pins s σ H v u Q I r (i _ _ _ _ q)⟩
theorem rg_name {vs : List Nat} {i : Nat} {x : Str} (hN : X.N.Nodup) (hm : i ∈ vs := by decide) (hi : X.N[i]? = some x := by rfl) (hx : Loc X.env.scope x := by first | exact .inl rfl | exact .inr rfl) (hf : X.fn x = true ∨ X.env.scope.names.lookup x = some .local := by first | exact .inl rfl | exact .inr rfl | assumption) :
    RG X vs (.Name x pos) (mgName i) := ⟨pg_imp (pg_name hN hi hx hf) fun v σ H Q q => by
  obtain ⟨Z, B, ρ, w, τ, τ', h, ok, sl, r, e, q⟩ := q
  cases e
  exact q _ (sl.put r) (Apart.set hm)⟩
structure RGs (X : Cx) (is : List Nat) (tgs : List Expr) (mg : List A → Sl → Hq → Option Sl) : Prop where
  pg : PGs X tgs fun vs σ H Q => ∃ Z B ρ ws τ τ' h, Ok X.K Z B ρ H h ∧ SlOk X.K B ρ σ τ ∧ RAL X.K B ρ vs ws ∧ mg ws τ h = some τ' ∧ ∀ σ', SlOk X.K B ρ σ' τ' → Apart is σ σ' → Q σ' H
def mgNil : List A → Sl → Hq → Option Sl := fun ws τ _ => match ws with | [] => some τ | _ => none
def mgCons (g : A → Sl → Hq → Option Sl) (gs : List A → Sl → Hq → Option Sl) : List A → Sl → Hq → Option Sl := fun ws τ h => match ws with
  | w :: r => (match g w τ h with | some τ1 => gs r τ1 h | none => none)
  | [] => none
/-- a, b = a tuple or a list of n -/
def mgTup (n : Nat) (gs : List A → Sl → Hq → Option Sl) : A → Sl → Hq → Option Sl := fun w τ h => match tupOf w with
  | some ws => if ws.length = n then gs ws τ h else none
  | none => match lstOf h w with
    | some ws => if ws.length = n then gs ws τ h else none
    | none => none
theorem rgs_nil {is : List Nat} : RGs X is [] mgNil := ⟨pgs_imp pgs_nil fun vs σ H Q q => by
  obtain ⟨Z, B, ρ, ws, τ, τ', h, ok, sl, r, e, q⟩ := q
  cases r with
  | nil => cases e; exact ⟨rfl, q σ sl Apart.refl⟩
  | cons _ _ => cases e⟩
theorem rgs_cons {is : List Nat} {es : List Expr} {g : A → Sl → Hq → Option Sl} {gs : List A → Sl → Hq → Option Sl} (h1 : RG X is e g) (h2 : RGs X is es gs)
    (hs : (assignEach (e :: es) X.env).map (·.2) = assign e X.env :: (assignEach es X.env).map (·.2) := by rfl) : RGs X is (e :: es) (mgCons g gs) := ⟨pgs_imp (pgs_cons h1.pg h2.pg hs) fun vs σ H Q q => by
  obtain ⟨Z, B, ρ, ws, τ, τ', h, ok, sl, r, e, q⟩ := q
  cases r with
  | nil => cases e
  | cons r rr =>
    unfold mgCons at e
    split at e
    · rename_i w r1 e0
      cases e0
      split at e
      · rename_i τ1 e1
        exact ⟨_, _, rfl, Z, B, ρ, _, τ, τ1, h, ok, sl, r, e1, fun σ1 sl1 a1 => ⟨Z, B, ρ, _, τ1, τ', h, ok, sl1, rr, e, fun σ2 sl2 a2 => q σ2 sl2 (a1.trans a2)⟩⟩
      · cases e
    · cases e⟩
theorem rg_tup {is : List Nat} {es : List Expr} {k : Nat} {gs : List A → Sl → Hq → Option Sl} (hc : X.calm = true) (h : RGs X is es gs) (n : Nat)
    (hn : (assignEach es X.env).length = n := by rfl) (hst : (assignEach es X.env).findIdx? (·.1) = none := by rfl) : RG X is (.Tuple es k pos) (mgTup n gs) := ⟨pg_imp (pg_or (pg_tup hc h.pg hn hst) (pg_lst hc h.pg hn hst)) fun v σ H Q q => by
  obtain ⟨Z, B, ρ, w, τ, τ', h, ok, sl, r, e, q⟩ := q
  unfold mgTup at e
  split at e
  · rename_i ws e1
    split at e
    · rename_i hl
      obtain ⟨p, vs, rfl, h1, r1⟩ := tupOf_ra r e1
      exact .inl ⟨p, vs, rfl, sqt_of (ok.ex _ _ h1), by rw [r1.length]; exact hl, Z, B, ρ, ws, τ, τ', h, ok, sl, r1, e, q⟩
    · cases e
  · split at e
    · rename_i ws e1
      split at e
      · rename_i hl
        obtain ⟨p, vs, rfl, h1, r1⟩ := lstOf_ra ok r e1
        exact .inr ⟨p, vs, rfl, SqL.of h1, by rw [r1.length]; exact hl, Z, B, ρ, ws, τ, τ', h, ok, sl, r1, e, q⟩
      · cases e
    · cases e⟩
def mAsg (g : A → Sl → Hq → Option Sl) (m : E A) : MS := fun τ h => sb τ (m τ h) fun w h1 => match g w τ h1 with | some τ1 => some (.nx τ1 h1) | none => none
theorem rs_asg {is : List Nat} {tg : Expr} {g : A → Sl → Hq → Option Sl} (he : RX X W e me) (hg : RG X is tg g) (hs : swapsWithSole [tg] e pos.line X.env = pure false := by rfl) (hw : swappedStores [tg] e X.env = pure none := by rfl)
    (h1 : (assignEach [tg] X.env).map (·.2) = [assign tg X.env] := by rfl) : RS X W (.Assign [tg] e pos) (mAsg g me) := ⟨ps_imp (ps_asg he.pe hg.pg hs hw h1) fun D σ H q => by
  obtain ⟨Z, B, ρ, τ, h, ok, sl, q⟩ := q
  refine ts_bd ok sl q fun v w h1 B1 ρ1 H1 rv ok1 sl1 g1 q1 => ?_
  split at q1
  · rename_i τ1 e1
    exact ⟨Z, B1, ρ1, w, τ, τ1, h1, ok1, sl1, rv, e1, fun σ' sl' _ => q1.nx1 ok1 sl'⟩
  · exact q1.elim⟩

/-! ### name op= e -/
def mAug (i : Nat) (g : G2) (m : E A) : MS := fun τ h => match τ[i]? with
  | some (some a) => sb τ (m τ h) fun b h1 => sb τ (g a b h1) fun w h2 => some (.nx (τ.set i (some w)) h2)
  | _ => none
theorem rs_aug {i : Nat} {x : Str} {op : Operator} {r : R2} {g : G2} {pos' : Pos} (hN : X.N.Nodup) (ho : OpR X (inplaceOp op) r) (og : Op2 X.K r g) (he : RX X W e me) (hi : X.N[i]? = some x := by rfl) (hx : Loc X.env.scope x := by first | exact .inl rfl | exact .inr rfl)
    (hf : X.fn x = true ∨ X.env.scope.names.lookup x = some .local := by first | exact .inl rfl | exact .inr rfl | assumption) : RS X W (.AugAssign (.Name x pos') op e pos) (mAug i g me) := ⟨ps_imp (ps_aug hN hi hx he.pe ho hf) fun D σ H q => by
  obtain ⟨Z, B, ρ, τ, h, ok, sl, q⟩ := q
  unfold mAug at q
  split at q
  · rename_i a e0
    obtain ⟨v0, h1, h2⟩ := sl.at_ _ _ e0
    refine ⟨v0, h1, ts_bd ok sl q fun v w h1 B1 ρ1 H1 rv ok1 sl1 g1 q1 => ?_⟩
    refine og Z B1 ρ1 H1 h1 v0 v a w _ _ ok1 (h2.mono g1) rv ((q1.sb sl1).imp fun u h3 B3 ρ3 H3 ok3 g3 q3 z rz => ?_)
    exact q3.nx1 ok3 ((sl1.mono g3).put rz)
  · exact q.elim⟩
theorem iop_addA {X : Cx} : OpR X (inplaceOp .Add) (fun x y H Q => rI0 (fun i j => .int (i + j)) x y H Q ∨ (∃ i j, x = .str i ∧ y = .str j ∧ i.length + j.length ≤ sizeLine ∧ Q (.str (i ++ j)) H)) := iop_add.or iop_add_str
def gIAdd : G2 := fun a b h => match a, b with
  | .d (.int i), .d (.int j) => some (.ok (.d (.int (i + j))) h)
  | .d (.str s), .d (.str t) => if s.length + t.length ≤ LIM then some (.ok (.d (.str (s ++ t))) h) else none
  | _, _ => none
theorem og_iadd {K : PySem.W.Frag} : Op2 K (fun x y H Q => rI0 (fun i j => .int (i + j)) x y H Q ∨ (∃ i j, x = .str i ∧ y = .str j ∧ i.length + j.length ≤ sizeLine ∧ Q (.str (i ++ j)) H)) gIAdd := by
  intro Z B ρ H h x y a b W Q ok rx ry q
  unfold gIAdd at q
  split at q
  · exact .inl ⟨_, _, ra_int rx, ra_int ry, q.now ok _ (.d (.int _))⟩
  · split at q
    · rename_i hl
      exact .inr ⟨_, _, ra_str rx, ra_str ry, by rw [← lim_eq]; exact hl, q.now ok _ (.d (.str _))⟩
    · exact q.elim
  · exact q.elim
theorem og_isub {K : PySem.W.Frag} : Op2 K (rI0 fun i j => .int (i - j)) gSub := og_sub
end

/-! ### what is walked -/
/-- by place: stuck, over, or the next -/
abbrev Nxt := Nat → Hq → Option (Option A)
abbrev NZ : Hp := fun _ => none
theorem Gr.wk {Z B B' : Hp} {ρ ρ' : Nat → Option Addr} (g : Gr Z B ρ B' ρ') : Gr NZ B ρ B' ρ' := ⟨g.bb, g.rr, fun _ _ _ => rfl⟩
def Walk (K : PySem.W.Frag) (B : Hp) (ρ : Nat → Option Addr) (J : It) (nx : Nxt) : Prop := ∀ (Z B2 : Hp) (ρ2 : Nat → Option Addr) (H2 : Hp) (h2 : Hq) (i : Nat), Ok K Z B2 ρ2 H2 h2 → Gr NZ B ρ B2 ρ2 →
  (nx i h2 = some none → J.stop i H2) ∧ ∀ w, nx i h2 = some (some w) → J.go i H2 ∧ ∀ x H', J.yld i H2 x H' → ∃ B3, RA K B3 ρ2 x w ∧ Ok K Z B3 ρ2 H' h2 ∧ Gr Z B2 ρ2 B3 ρ2
/-- data, places 0 .. -/
def nxL (ws : List A) : Nxt := fun i _ => some ws[i]?
/-- a cell, as it is then -/
def nxC (k : Nat) : Nxt := fun i h => match h[k]? with | some (.lst ws) => some ws[i]? | _ => none
structure RI (X : Cx) (W : WX) (tg iter : Expr) (m : E Nxt) : Prop where
  pi : PI X tg iter fun σ H R => ∃ Z B ρ τ h, Ok X.K Z B ρ H h ∧ SlOk X.K B ρ σ τ ∧ Post X.K Z (fun c d H' => W c d σ H') B ρ (fun nx _ B' ρ' H' => ∀ J, Walk X.K B' ρ' J nx → R J H') (m τ h)
theorem pi_imp {X : Cx} {tg e : Expr} {t t' : TI} (h : PI X tg e t) (i : ∀ σ H R, t' σ H R → t σ H R) : PI X tg e t' := ⟨fun pins s σ H R I q => h.run pins s σ H R I (i _ _ _ q)⟩
theorem pi_or {X : Cx} {tg e : Expr} {t t' : TI} (h : PI X tg e t) (h' : PI X tg e t') : PI X tg e fun σ H R => t σ H R ∨ t' σ H R := ⟨fun pins s σ H R I q => q.elim (h.run pins s σ H R I) (h'.run pins s σ H R I)⟩
/-- what stands to be walked -/
def itemsA : A → Option Nxt
  | .d (.lst xs) => some (nxL (xs.map A.d)) | .d (.tup xs) => some (nxL (xs.map A.d)) | .d (.kt xs) => some (nxL (xs.map A.d)) | .d (.scr ns) => some (nxL (ns.map fun i => .d (.int i)))
  | .d (.str x) => some (nxL (x.cps.toList.map fun c => .d (.str ⟨#[c]⟩)))
  | .tup ws => some (nxL ws)
  | .r k => some (nxC k)
  | _ => none
def mItems (m : E A) : E Nxt := fun τ h => bd (m τ h) fun a h1 => match a with
  | .r k => (match h1[k]? with | some (.lst _) => some (.ok (nxC k) h1) | _ => none)
  | a => match itemsA a with | some nx => some (.ok nx h1) | none => none
def rangeA (lo : Int) (n : Nat) : List A := (List.range n).map fun i => .d (.int (lo + (i : Nat)))
def mRange1 (m : E A) : E Nxt := fun τ h => bd (m τ h) fun a h1 => match a with
  | .d (.int j) => if -(2 ^ 62) ≤ j ∧ j < 2 ^ 62 then some (.ok (nxL (rangeA 0 j.toNat)) h1) else none
  | _ => none
def mRange2 (ma mb : E A) : E Nxt := fun τ h => bd (ma τ h) fun a h1 => bd (mb τ h1) fun b h2 => match a, b with
  | .d (.int i), .d (.int j) => if -(2 ^ 62) ≤ i ∧ i < 2 ^ 62 ∧ -(2 ^ 62) ≤ j ∧ j < 2 ^ 62 then some (.ok (nxL (rangeA i (j - i).toNat)) h2) else none
  | _, _ => none
section
variable {X : Cx} {W : WX} {tg iter e a b : Expr} {m ma mb : E A} {mi : E Nxt} {pos : Pos}
theorem walk_seq {K : PySem.W.Frag} {B : Hp} {ρ : Nat → Option Addr} {J : It} {vs : List V} {ws : List A} (r : RAL K B ρ vs ws)
    (hstop : ∀ Z B2 ρ2 H2 h2 i, Ok K Z B2 ρ2 H2 h2 → Gr NZ B ρ B2 ρ2 → vs.length ≤ i → J.stop i H2) (hgo : ∀ Z B2 ρ2 H2 h2 i v, Ok K Z B2 ρ2 H2 h2 → Gr NZ B ρ B2 ρ2 → vs[i]? = some v → J.go i H2 ∧ ∀ x H', J.yld i H2 x H' → x = v ∧ H' = H2) : Walk K B ρ J (nxL ws) := by
  intro Z B2 ρ2 H2 h2 i ok2 g2
  refine ⟨fun e => hstop Z B2 ρ2 H2 h2 i ok2 g2 ?_, fun w e => ?_⟩
  · have e : ws[i]? = none := Option.some.inj e
    rw [r.length]
    exact List.getElem?_eq_none_iff.mp e
  · have e : ws[i]? = some w := Option.some.inj e
    obtain ⟨v, h1, h2'⟩ := r.get e
    obtain ⟨k1, k2⟩ := hgo Z B2 ρ2 H2 h2 i v ok2 g2 h1
    refine ⟨k1, fun x H' y => ?_⟩
    obtain ⟨rfl, rfl⟩ := k2 x H' y
    exact ⟨B2, h2'.mono g2, ok2, Gr.refl⟩
theorem walk_list {K : PySem.W.Frag} {B : Hp} {ρ : Nat → Option Addr} {a : Addr} {vs : List V} {ws : List A} (h : SqL K B a vs) (r : RAL K B ρ vs ws) : Walk K B ρ (Itl K a) (nxL ws) :=
  walk_seq r (fun Z B2 ρ2 H2 h2 i ok2 g2 hl => ⟨vs, ok2.ex.seq (g2.bb.seq h), hl⟩) fun Z B2 ρ2 H2 h2 i v ok2 g2 hv => by
    have hq : SqL K H2 a vs := ok2.ex.seq (g2.bb.seq h)
    refine ⟨⟨vs, v, hq, hv⟩, fun x H' y => ?_⟩
    obtain ⟨rfl, y⟩ := y
    exact ⟨Option.some.inj ((y vs hq).symm.trans hv), rfl⟩
theorem walk_tup {K : PySem.W.Frag} {B : Hp} {ρ : Nat → Option Addr} {a : Addr} {vs : List V} {ws : List A} (h : SqT K B a vs) (r : RAL K B ρ vs ws) : Walk K B ρ (Itt K a) (nxL ws) :=
  walk_seq r (fun Z B2 ρ2 H2 h2 i ok2 g2 hl => ⟨vs, sqt_mono ok2.ex (sqt_mono g2.bb h), hl⟩) fun Z B2 ρ2 H2 h2 i v ok2 g2 hv => by
    have hq : SqT K H2 a vs := sqt_mono ok2.ex (sqt_mono g2.bb h)
    refine ⟨⟨vs, v, hq, hv⟩, fun x H' y => ?_⟩
    obtain ⟨rfl, y⟩ := y
    exact ⟨Option.some.inj ((y vs hq).symm.trans hv), rfl⟩
theorem walk_cell {K : PySem.W.Frag} {B : Hp} {ρ : Nat → Option Addr} {k : Nat} {a : Addr} (hr : ρ k = some a) : Walk K B ρ (Itl K a) (nxC k) := by
  intro Z B2 ρ2 H2 h2 i ok2 g2
  have at_ : ∀ ws, h2[k]? = some (.lst ws) → ∃ vs, H2 a = some (.lst vs) ∧ RAL K B2 ρ2 vs ws := fun ws e => by
    obtain ⟨p, h1, h3⟩ := ok2.ce _ _ e
    rw [g2.rr _ _ hr] at h1
    cases h1
    cases h3 with
    | lst q1 q2 q3 q4 => exact ⟨_, q1, q2⟩
  refine ⟨fun e => ?_, fun w e => ?_⟩
  · unfold nxC at e
    split at e
    · rename_i ws e1
      obtain ⟨vs, h1, h3⟩ := at_ ws e1
      have e : ws[i]? = none := Option.some.inj e
      exact ⟨vs, SqL.of h1, by rw [h3.length]; exact List.getElem?_eq_none_iff.mp e⟩
    · cases e
  · unfold nxC at e
    split at e
    · rename_i ws e1
      obtain ⟨vs, h1, h3⟩ := at_ ws e1
      have e : ws[i]? = some w := Option.some.inj e
      obtain ⟨v, h4, h5⟩ := h3.get e
      refine ⟨⟨vs, v, SqL.of h1, h4⟩, fun x H' y => ?_⟩
      obtain ⟨rfl, y⟩ := y
      have : x = v := Option.some.inj ((y vs (SqL.of h1)).symm.trans h4)
      subst this
      exact ⟨B2, h5, ok2, Gr.refl⟩
    · cases e
theorem walk_range {K : PySem.W.Frag} {B : Hp} {ρ : Nat → Option Addr} {lo : Int} {n : Nat} : Walk K B ρ (Itr lo n) (nxL (rangeA lo n)) := by
  have hl : (rangeA lo n).length = n := by unfold rangeA; rw [List.length_map, List.length_range]
  intro Z B2 ρ2 H2 h2 i ok2 g2
  refine ⟨fun e => ?_, fun w e => ?_⟩
  · have e : (rangeA lo n)[i]? = none := Option.some.inj e
    have := List.getElem?_eq_none_iff.mp e
    rw [hl] at this
    exact this
  · have e : (rangeA lo n)[i]? = some w := Option.some.inj e
    have hi : i < n := by
      rw [← hl]
      exact (List.getElem?_eq_some_iff.mp e).1
    refine ⟨hi, fun x H' y => ?_⟩
    obtain ⟨rfl, rfl⟩ := y
    unfold rangeA at e
    rw [List.getElem?_map, List.getElem?_range hi] at e
    cases e
    exact ⟨B2, .d (.int _), ok2, Gr.refl⟩
theorem walk_str {K : PySem.W.Frag} {B : Hp} {ρ : Nat → Option Addr} {x : Str} : Walk K B ρ (Its x) (nxL (x.cps.toList.map fun c => .d (.str ⟨#[c]⟩))) := by
  intro Z B2 ρ2 H2 h2 i ok2 g2
  refine ⟨fun e => ?_, fun w e => ?_⟩
  · have e : (x.cps.toList.map fun c => A.d (.str ⟨#[c]⟩))[i]? = none := Option.some.inj e
    have := List.getElem?_eq_none_iff.mp e
    show x.cps.size ≤ i
    simpa using this
  · have e : (x.cps.toList.map fun c => A.d (.str ⟨#[c]⟩))[i]? = some w := Option.some.inj e
    have hi : i < x.cps.size := by
      have z := (List.getElem?_eq_some_iff.mp e).1
      simpa using z
    refine ⟨hi, fun v H' y => ?_⟩
    obtain ⟨rfl, c, h1, rfl⟩ := y
    rw [List.getElem?_map, Array.getElem?_toList, h1] at e
    cases e
    exact ⟨B2, .d (.str _), ok2, Gr.refl⟩
/-- a list, a tuple, the script, a text, a cell -/
theorem ri_items (he : RX X W e m) : RI X W tg e (mItems m) := ⟨pi_imp (pi_or (pi_list he.pe) (pi_or (pi_tup he.pe) (pi_str he.pe))) fun σ H R q => by
  obtain ⟨Z, B, ρ, τ, h, ok, sl, q⟩ := q
  have dec : ∀ (r : Option (Rs A)), Post X.K Z (fun c d H' => W c d σ H') B ρ (fun nx _ B' ρ' H' => ∀ J, Walk X.K B' ρ' J nx → R J H') (bd r fun a h1 => match a with
      | .r k => (match h1[k]? with | some (.lst _) => some (.ok (nxC k) h1) | _ => none)
      | a => match itemsA a with | some nx => some (.ok nx h1) | none => none) →
      Post X.K Z (fun c d H' => W c d σ H') B ρ (fun w _ B' ρ' H' => ∀ v, RA X.K B' ρ' v w → ∃ a, v = .ref a ∧ (∃ xs, SqL X.K H' a xs) ∧ R (Itl X.K a) H') r ∨
      Post X.K Z (fun c d H' => W c d σ H') B ρ (fun w _ B' ρ' H' => ∀ v, RA X.K B' ρ' v w → ∃ a, v = .ref a ∧ (∃ xs, SqT X.K H' a xs) ∧ R (Itt X.K a) H') r ∨
      Post X.K Z (fun c d H' => W c d σ H') B ρ (fun w _ B' ρ' H' => ∀ v, RA X.K B' ρ' v w → ∃ x, v = .str x ∧ R (Its x) H') r := by
    intro r q
    match r, q with
    | some (.ex x h), q => exact .inl q
    | some (.ok a h1), q =>
      cases a with
      | r k =>
        refine .inl fun B1 ρ1 H1 ok1 g1 v rv => ?_
        have q : Post X.K Z (fun c d H' => W c d σ H') B ρ (fun nx _ B' ρ' H' => ∀ J, Walk X.K B' ρ' J nx → R J H') (match h1[k]? with | some (.lst _) => some (.ok (nxC k) h1) | _ => none) := q
        split at q
        · rename_i ws e1
          cases rv with
          | r hr =>
            obtain ⟨p, h2, h3⟩ := ok1.ce _ _ e1
            rw [hr] at h2
            cases h2
            cases h3 with
            | lst q1 q2 q3 q4 => exact ⟨_, rfl, ⟨_, SqL.of q1⟩, q B1 ρ1 H1 ok1 g1 _ (walk_cell hr)⟩
        · exact q.elim
      | tup ws =>
        refine .inr (.inl fun B1 ρ1 H1 ok1 g1 v rv => ?_)
        cases rv with
        | tup ht r1 => exact ⟨_, rfl, ⟨_, sqt_of (ok1.ex _ _ ht)⟩, q B1 ρ1 H1 ok1 g1 _ (walk_tup (sqt_of ht) r1)⟩
      | d x =>
        cases x with
        | lst xs =>
          refine .inl fun B1 ρ1 H1 ok1 g1 v rv => ?_
          cases ra_d rv with
          | lst h2 r1 => exact ⟨_, rfl, ⟨_, SqL.of (ok1.ex _ _ h2)⟩, q B1 ρ1 H1 ok1 g1 _ (walk_list (SqL.of h2) (ral_ds r1))⟩
        | scr ns =>
          refine .inl fun B1 ρ1 H1 ok1 g1 v rv => ?_
          cases ra_d rv with
          | scr h2 => exact ⟨_, rfl, ⟨_, ok1.ex.seq h2⟩, q B1 ρ1 H1 ok1 g1 _ (walk_list h2 (ral_ints ns))⟩
        | tup xs =>
          refine .inr (.inl fun B1 ρ1 H1 ok1 g1 v rv => ?_)
          cases ra_d rv with
          | tup h2 r1 => exact ⟨_, rfl, ⟨_, sqt_of (ok1.ex _ _ h2)⟩, q B1 ρ1 H1 ok1 g1 _ (walk_tup (sqt_of h2) (ral_ds r1))⟩
        | kt xs =>
          refine .inr (.inl fun B1 ρ1 H1 ok1 g1 v rv => ?_)
          cases ra_d rv with
          | kt h2 r1 => exact ⟨_, rfl, ⟨_, sqt_mono ok1.ex h2⟩, q B1 ρ1 H1 ok1 g1 _ (walk_tup h2 (ral_ds r1))⟩
        | str x =>
          refine .inr (.inr fun B1 ρ1 H1 ok1 g1 v rv => ?_)
          cases ra_str rv
          exact ⟨x, rfl, q B1 ρ1 H1 ok1 g1 _ walk_str⟩
        | non => exact q.elim
        | bl _ => exact q.elim
        | int _ => exact q.elim
        | fn _ => exact q.elim
        | nd _ _ => exact q.elim
  have q : Post X.K Z (fun c d H' => W c d σ H') B ρ (fun nx _ B' ρ' H' => ∀ J, Walk X.K B' ρ' J nx → R J H') (bd (m τ h) fun a h1 => match a with
      | .r k => (match h1[k]? with | some (.lst _) => some (.ok (nxC k) h1) | _ => none)
      | a => match itemsA a with | some nx => some (.ok nx h1) | none => none) := q
  rcases dec (m τ h) q with q | q | q
  · exact .inl ⟨Z, B, ρ, τ, h, ok, sl, q⟩
  · exact .inr (.inl ⟨Z, B, ρ, τ, h, ok, sl, q⟩)
  · exact .inr (.inr ⟨Z, B, ρ, τ, h, ok, sl, q⟩)⟩
theorem ri_range1 {px : Pos} (he : RX X W a m) (hm : X.mg "range" = none) (hg : Gl X "range" := by rfl) (hs : starEach [a] X.env = [(false, eval a X.env)] := by rfl) : RI X W tg (.Call (.Name "range" px) [a] [] pos) (mRange1 m) := ⟨pi_imp (pi_range1 hg hm (pa_cons he.pe pa_nil hs) hs) fun σ H R q => by
  obtain ⟨Z, B, ρ, τ, h, ok, sl, q⟩ := q
  refine te_bd ok sl q fun x a h1 B1 ρ1 H1 rx ok1 sl1 g1 q1 => ?_
  split at q1
  · split at q1
    · rename_i j hj
      cases ra_int rx
      exact ⟨j, rfl, hj.1, hj.2, q1.now ok1 _ walk_range⟩
    · exact q1.elim
  · exact q1.elim⟩
theorem ri_range2 {px : Pos} (ha : RX X W a ma) (hb : RX X W b mb) (hm : X.mg "range" = none) (hg : Gl X "range" := by rfl) (hs : starEach [a, b] X.env = [(false, eval a X.env), (false, eval b X.env)] := by rfl) (hs2 : starEach [b] X.env = [(false, eval b X.env)] := by rfl) :
    RI X W tg (.Call (.Name "range" px) [a, b] [] pos) (mRange2 ma mb) := ⟨pi_imp (pi_range2 hg hm (pa_cons ha.pe (pa_cons hb.pe pa_nil hs2) (by rw [hs, hs2])) hs hs2) fun σ H R q => by
  obtain ⟨Z, B, ρ, τ, h, ok, sl, q⟩ := q
  refine te_bd ok sl q fun x a h1 B1 ρ1 H1 rx ok1 sl1 g1 q1 => te_bd ok1 sl1 q1 fun y b h2 B2 ρ2 H2 ry ok2 sl2 g2 q2 => ?_
  split at q2
  · split at q2
    · rename_i i j hj
      cases ra_int rx
      cases ra_int ry
      exact ⟨i, j, rfl, hj, q2.now ok2 _ walk_range⟩
    · exact q2.elim
  · exact q2.elim⟩

/-! ### for -/
/-- f: turns left -/
def forM (nx : Nxt) (g : A → Sl → Hq → Option Sl) (mb : MS) : Nat → Nat → MS
  | 0, _, _, _ => none
  | f + 1, i, τ, h => match nx i h with
    | some none => some (.nx τ h)
    | some (some w) => (match g w τ h with
      | some τ1 => (match mb τ1 h with
        | some (.nx τ2 h2) => forM nx g mb f (i + 1) τ2 h2
        | some (.ct τ2 h2) => forM nx g mb f (i + 1) τ2 h2
        | some (.bk τ2 h2) => some (.nx τ2 h2)
        | r => r)
      | none => none)
    | none => none
abbrev FU : Nat := 16777217
def mFor (mi : E Nxt) (g : A → Sl → Hq → Option Sl) (mb : MS) : MS := fun τ h => sb τ (mi τ h) fun nx h1 => forM nx g mb FU 0 τ h1
variable {g : A → Sl → Hq → Option Sl} {mbd : MS} {body : List Stmt} {c : Expr} {t : E Bool}
theorem rs_for {is : List Nat} (hp : PassesOwn (model X.prog X.w) X.A X.env X.xe) (hc : X.calm = true) (hi : RI X W tg iter mi) (hg : RG X is tg g) (hb : RSs X W body mbd) (hs : ∀ x, foldedSetIterable iter X.env x = pure x := by intro _; rfl) : RS X W (.For tg iter body [] pos) (mFor mi g mbd) := ⟨ps_imp (ps_for hp hc hi.pi hg.pg hb.ps hs) fun D σ H q => by
  obtain ⟨Z, B, ρ, τ, h, ok, sl, q⟩ := q
  refine ⟨Z, B, ρ, τ, h, ok, sl, (q.sb sl).imp fun nx h1 B1 ρ1 H1 ok1 g1 q1 J wk => ?_⟩
  refine ⟨fun i m σ' H' => ∃ B' ρ' τ' h', Ok X.K Z B' ρ' H' h' ∧ SlOk X.K B' ρ' σ' τ' ∧ Gr Z B1 ρ1 B' ρ' ∧ PostS X.K Z W B' ρ' D (forM nx g mbd m i τ' h'), ⟨FU, B1, ρ1, τ, h1, ok1, sl.mono g1, Gr.refl, q1⟩, ?_⟩
  rintro i m σ2 H2 ⟨B2, ρ2, τ2, h2, ok2, sl2, g2, post⟩
  obtain ⟨stop, go⟩ := wk Z B2 ρ2 H2 h2 i ok2 g2.wk
  cases m with
  | zero => exact post.elim
  | succ m =>
    unfold forM at post
    split at post
    · rename_i e1
      exact .inl ⟨stop e1, post.nx1 ok2 sl2⟩
    · rename_i w e1
      obtain ⟨k1, k2⟩ := go w e1
      refine .inr ⟨k1, fun σ' H' => ∃ B' ρ' τ' h', Ok X.K Z B' ρ' H' h' ∧ SlOk X.K B' ρ' σ' τ' ∧ Gr Z B1 ρ1 B' ρ' ∧ PostS X.K Z W B' ρ' D (forM nx g mbd m (i + 1) τ' h'), fun σ' H' n => ⟨m, Nat.lt_succ_self m, n⟩, fun x H3 y => ?_⟩
      obtain ⟨B3, rx, ok3, g3⟩ := k2 x H3 y
      split at post
      · rename_i τ3 e3
        refine ⟨Z, B3, ρ2, w, τ2, τ3, h2, ok3, sl2.mono g3, rx, e3, fun σ4 sl4 _ => ?_⟩
        refine ⟨Z, B3, ρ2, τ3, h2, ok3, sl4, ?_⟩
        have post := post.from g3
        have g13 := g2.trans g3
        revert post
        cases mbd τ3 h2 with
        | none => exact fun h => h
        | some r =>
          cases r with
          | nx τ4 h4 => exact fun post σ5 B5 ρ5 H5 ok5 sl5 g5 => ⟨B5, ρ5, τ4, h4, ok5, sl5, g13.trans g5, post.from g5⟩
          | ct τ4 h4 => exact fun post σ5 B5 ρ5 H5 ok5 sl5 g5 => ⟨B5, ρ5, τ4, h4, ok5, sl5, g13.trans g5, post.from g5⟩
          | bk τ4 h4 => exact fun post => post
          | rt w h4 => exact fun post => post
          | ex x τ4 h4 => exact fun post => post
      · exact post.elim
    · exact post.elim⟩

/-! ### while: n turns at most -/
def mWhile (t : E Bool) (mb : MS) : Nat → MS
  | 0, _, _ => none
  | n + 1, τ, h => sb τ (t τ h) fun b h1 => match b with
    | false => some (.nx τ h1)
    | true => match mb τ h1 with
      | some (.nx τ2 h2) => mWhile t mb n τ2 h2
      | some (.ct τ2 h2) => mWhile t mb n τ2 h2
      | some (.bk τ2 h2) => some (.nx τ2 h2)
      | r => r
theorem rs_while (n : Nat) (hp : PassesOwn (model X.prog X.w) X.A X.env X.xe) (hc : RT X W c t) (hb : RSs X W body mbd) : RS X W (.While c body [] pos) (mWhile t mbd n) := ⟨ps_imp (ps_while hp hc.pt hb.ps) fun D σ H q => by
  refine ⟨fun m σ' H' => ∃ Z B' ρ' τ' h', Ok X.K Z B' ρ' H' h' ∧ SlOk X.K B' ρ' σ' τ' ∧ PostS X.K Z W B' ρ' D (mWhile t mbd m τ' h'), ⟨n, q⟩, ?_⟩
  rintro m σ2 H2 ⟨Z, B2, ρ2, τ2, h2, ok2, sl2, post⟩
  refine ⟨Z, B2, ρ2, τ2, h2, ok2, sl2, ?_⟩
  cases m with
  | zero => exact post.elim
  | succ m =>
    unfold mWhile at post
    refine (post.sb sl2).imp fun b h3 B3 ρ3 H3 ok3 g3 q3 => ?_
    cases b with
    | false => exact iteF (q3.nx1 ok3 (sl2.mono g3))
    | true =>
      refine iteT ⟨fun σ' H' => ∃ Z B' ρ' τ' h', Ok X.K Z B' ρ' H' h' ∧ SlOk X.K B' ρ' σ' τ' ∧ PostS X.K Z W B' ρ' D (mWhile t mbd m τ' h'), fun σ' H' h => ⟨m, Nat.lt_succ_self m, h⟩, Z, B3, ρ3, τ2, h3, ok3, sl2.mono g3, ?_⟩
      revert q3
      show PostS X.K Z W B3 ρ3 D (match mbd τ2 h3 with
        | some (.nx τ2 h2) => mWhile t mbd m τ2 h2
        | some (.ct τ2 h2) => mWhile t mbd m τ2 h2
        | some (.bk τ2 h2) => some (.nx τ2 h2)
        | r => r) → _
      cases mbd τ2 h3 with
      | none => exact fun h => h
      | some r =>
        cases r with
        | nx τ4 h4 => exact fun post σ5 B5 ρ5 H5 ok5 sl5 g5 => ⟨Z, B5, ρ5, τ4, h4, ok5, sl5, post.from g5⟩
        | ct τ4 h4 => exact fun post σ5 B5 ρ5 H5 ok5 sl5 g5 => ⟨Z, B5, ρ5, τ4, h4, ok5, sl5, post.from g5⟩
        | bk τ4 h4 => exact fun post => post
        | rt w h4 => exact fun post => post
        | ex x τ4 h4 => exact fun post => post⟩
end
end Tq

/-! Tq6: comprehensions. -/
namespace Tq
open PySem PySem.Spec PyProof.Rows L2

def wipeT (τ : Sl) : List Nat → Sl
  | [] => τ
  | v :: vs => (wipeT τ vs).set v none
theorem wipeT_length (τ : Sl) : ∀ vs : List Nat, (wipeT τ vs).length = τ.length
  | [] => rfl
  | v :: vs => by unfold wipeT; rw [List.length_set, wipeT_length τ vs]
theorem wipe_get (σ : L2.St) : ∀ (vs : List Nat) (i : Nat), (L2.wipe σ vs)[i]? = if i ∈ vs ∧ i < σ.length then some none else σ[i]?
  | [], i => by simp [L2.wipe]
  | v :: vs, i => by
    unfold L2.wipe
    rw [List.getElem?_set, wipe_get σ vs i, L2.wipe_length]
    by_cases e : v = i
    · subst e
      by_cases hl : v < σ.length
      · simp [hl]
      · simp [hl]
    · rw [if_neg e]
      simp [List.mem_cons, Ne.symm e]
theorem wipeT_get (τ : Sl) : ∀ (vs : List Nat) (i : Nat), (wipeT τ vs)[i]? = if i ∈ vs ∧ i < τ.length then some none else τ[i]?
  | [], i => by simp [wipeT]
  | v :: vs, i => by
    unfold wipeT
    rw [List.getElem?_set, wipeT_get τ vs i, wipeT_length]
    by_cases e : v = i
    · subst e
      by_cases hl : v < τ.length
      · simp [hl]
      · simp [hl]
    · rw [if_neg e]
      simp [List.mem_cons, Ne.symm e]
theorem wipe_apart {σ1 σ2 : L2.St} {vs : List Nat} (h : Apart vs σ1 σ2) : L2.wipe σ2 vs = L2.wipe σ1 vs := by
  apply List.ext_getElem?
  intro i
  rw [wipe_get, wipe_get, h.1]
  by_cases z : i ∈ vs
  · by_cases hl : i < σ1.length
    · rw [if_pos ⟨z, hl⟩, if_pos ⟨z, hl⟩]
    · have h1 := h.1
      rw [if_neg fun y => hl y.2, if_neg fun y => hl y.2, List.getElem?_eq_none (by omega : σ2.length ≤ i), List.getElem?_eq_none (by omega : σ1.length ≤ i)]
  · rw [if_neg fun y => z y.1, if_neg fun y => z y.1, h.2 i z]
theorem wipe_wipe (σ : L2.St) (vs : List Nat) : L2.wipe (L2.wipe σ vs) vs = L2.wipe σ vs := by
  apply List.ext_getElem?
  intro i
  rw [wipe_get, wipe_get, L2.wipe_length]
  by_cases z : i ∈ vs ∧ i < σ.length
  · rw [if_pos z]
    try rw [if_pos z]
  · rw [if_neg z]
    try rw [if_neg z]
theorem SlOk.wipe {K : PySem.W.Frag} {B : Hp} {ρ : Nat → Option Addr} {σ : L2.St} {τ : Sl} (s : SlOk K B ρ σ τ) (vs : List Nat) : SlOk K B ρ (L2.wipe σ vs) (wipeT τ vs) := by
  refine ⟨by rw [L2.wipe_length, wipeT_length]; exact s.ln, fun i w e => ?_⟩
  rw [wipeT_get] at e
  split at e
  · cases e
  · rename_i hn
    rw [wipe_get, if_neg (by rw [s.ln]; exact hn)]
    exact s.at_ i w e

/-! ### an object of the reading's own, that stands aside -/
section
variable {K : PySem.W.Frag} {Z B H : Hp} {ρ : Nat → Option Addr} {h : Hq} {q : Addr} {o o2 : HO}
theorem CeAt.zs {Z2 : Hp} {a : Addr} {c : O} (x : CeAt K Z B H ρ a c) (hz : ∀ b, Z b = none → H b ≠ none → Z2 b = none) (ha : H a ≠ none) : CeAt K Z2 B H ρ a c := by
  cases x with
  | lst e1 e2 e3 e4 => exact .lst e1 e2 e3 (hz _ e4 ha)
  | nd e1 e2 e3 => exact .nd e1 e2 fun b hb => ⟨(e3 b hb).1, hz b (e3 b hb).2 (e1.own_or.2.2.1 b hb)⟩
  | dead e => exact .dead (hz _ e ha)
/-- a new object stands aside -/
theorem Ok.aside (ok : Ok K Z B ρ H h) (hq : H q = none) : Ok K (upd Z q o) B ρ (upd H q o) h := by
  have ok2 := ok.grow (H' := upd H q o) fun b u e => by rw [upd_ne (ne_of_none e hq)]; exact e
  refine ⟨ok2.ex, fun b u e => ?_, fun k c e => ?_, ok2.nj, ok2.al, ok2.up⟩
  · by_cases z : b = q
    · subst z; rw [upd_same] at e ⊢; exact e
    · rw [upd_ne z] at e; exact ok2.zz b u e
  · obtain ⟨a, h1, h2⟩ := ok.ce k c e
    have ha := ok.al k a h1
    obtain ⟨a', h1', h3⟩ := ok2.ce k c e
    rw [h1] at h1'
    cases h1'
    refine ⟨a, h1, ?_⟩
    have n : a ≠ q := fun z => ha (by rw [z]; exact hq)
    cases h2 with
    | lst e1 e2 e3 e4 => exact .lst (by rw [upd_ne n]; exact e1) e2 e3 (by rw [upd_ne n]; exact e4)
    | nd e1 e2 e3 =>
      have nb : ∀ b ∈ _, b ≠ q := fun b hb z => e1.own_or.2.2.1 b hb (by rw [z]; exact hq)
      exact .nd (e1.to fun b hb u e => by rw [upd_ne (nb b hb)]; exact e) e2 fun b hb => ⟨(e3 b hb).1, by rw [upd_ne (nb b hb)]; exact (e3 b hb).2⟩
    | dead e1 => exact .dead (by rw [upd_ne n]; exact e1)
/-- it turns -/
theorem Ok.turn (ok : Ok K (upd Z q o) B ρ H h) (hb : B q = none) (hz : Z q = none) : Ok K (upd Z q o2) B ρ (upd H q o2) h := by
  have hq : H q = some o := ok.zz q o upd_same
  refine ⟨fun b u e => by rw [upd_ne (ne_of_none e hb)]; exact ok.ex b u e, fun b u e => ?_, fun k c e => ?_, ok.nj, fun k a e => ?_, ok.up⟩
  · by_cases z : b = q
    · subst z; rw [upd_same] at e ⊢; exact e
    · rw [upd_ne z] at e ⊢
      exact ok.zz b u (by rw [upd_ne z]; exact e)
  · obtain ⟨a, h1, h2⟩ := ok.ce k c e
    refine ⟨a, h1, ?_⟩
    have ne : ∀ {b : Addr}, upd Z q o b = none → b ≠ q ∧ Z b = none := fun {b} e => by
      have z : b ≠ q := fun z => by rw [z, upd_same] at e; cases e
      rw [upd_ne z] at e
      exact ⟨z, e⟩
    cases h2 with
    | lst e1 e2 e3 e4 => exact .lst (by rw [upd_ne (ne e4).1]; exact e1) e2 e3 (by rw [upd_ne (ne e4).1]; exact (ne e4).2)
    | nd e1 e2 e3 =>
      exact .nd (e1.to fun b hb u e => by rw [upd_ne (ne (e3 b hb).2).1]; exact e) e2 fun b hb => ⟨(e3 b hb).1, by rw [upd_ne (ne (e3 b hb).2).1]; exact (ne (e3 b hb).2).2⟩
    | dead e1 => exact .dead (by rw [upd_ne (ne e1).1]; exact (ne e1).2)
  · by_cases z : a = q
    · subst z; rw [upd_same]; simp
    · rw [upd_ne z]; exact ok.al k a e
theorem Gr.aside {B' : Hp} {ρ' : Nat → Option Addr} (g : Gr (upd Z q o) B ρ B' ρ') (hz : Z q = none) : Gr Z B ρ B' ρ' := ⟨g.bb, g.rr, fun a e e' => by
  have z := g.fz a e e'
  by_cases y : a = q
  · subst y; exact hz
  · rwa [upd_ne y] at z⟩
theorem Ok.bare (ok : Ok K (upd Z q o) B ρ H h) (hz : Z q = none) : Ok K Z B ρ H h := ⟨ok.ex, fun b u e => ok.zz b u (by rw [upd_ne (ne_of_none e hz)]; exact e), fun k c e => by
  obtain ⟨a, h1, h2⟩ := ok.ce k c e
  refine ⟨a, h1, h2.zs (fun b e _ => ?_) (ok.al k a h1)⟩
  by_cases z : b = q
  · rw [z]; exact hz
  · rwa [upd_ne z] at e, ok.nj, ok.al, ok.up⟩
/-- it becomes a cell, or data -/
theorem Ok.adopt {W : XK} {Q : VK} {vs : List V} {ws : List A} {o : Bool} (ok : Ok K (upd Z q (.lst vs)) B ρ H h) (hb : B q = none) (hz : Z q = none) (r : RAL K B ρ vs ws) (p : Post K Z W B ρ (fun w _ B' ρ' H' => ∀ v, RA K B' ρ' v w → Q v H') (mkL o ws h)) : Q (.ref q) H := by
  have hq : H q = some (.lst vs) := ok.zz q _ upd_same
  have fresh : ∀ k a, ρ k = some a → a ≠ q := fun k a e z => by
    have hk : k < h.length := by
      apply Classical.byContradiction
      intro y
      rw [ok.up k (by omega)] at e
      cases e
    obtain ⟨c, hc⟩ : ∃ c, h[k]? = some c := ⟨_, List.getElem?_eq_getElem hk⟩
    obtain ⟨a', h1, h2⟩ := ok.ce k c hc
    rw [e] at h1
    cases h1
    have key : upd Z q (.lst vs) a = none := by
      cases h2 with
      | lst _ _ _ e4 => exact e4
      | nd e1 _ e3 => exact (e3 _ e1.own_or.1).2
      | dead e4 => exact e4
    rw [z, upd_same] at key
    cases key
  have ok0 := ok.bare hz
  have own_ne : ∀ (k : Nat) (c : O) (a : Addr), h[k]? = some c → ρ k = some a → CeAt K Z (upd B q (.lst vs)) H ρ a c ∧ CeAt K Z B H ρ a c := fun k c a e ea => by
    obtain ⟨a', h1, h2⟩ := ok.ce k c e
    rw [ea] at h1
    cases h1
    have ne : ∀ {b : Addr}, upd Z q (.lst vs) b = none → b ≠ q ∧ Z b = none := fun {b} e => by
      have z : b ≠ q := fun z => by rw [z, upd_same] at e; cases e
      rw [upd_ne z] at e
      exact ⟨z, e⟩
    have gg : Gr Z B ρ (upd B q (.lst vs)) ρ := ⟨fun a u e => by rw [upd_ne (ne_of_none e hb)]; exact e, fun _ _ e => e, fun a e e' => by
      by_cases z : a = q
      · rw [z]; exact hz
      · rw [upd_ne z] at e'; exact absurd e e'⟩
    cases h2 with
    | lst e1 e2 e3 e4 => exact ⟨.lst e1 (e2.mono gg) (by rw [upd_ne (ne e4).1]; exact e3) (ne e4).2, .lst e1 e2 e3 (ne e4).2⟩
    | nd e1 e2 e3 => exact ⟨.nd e1 (e2.mono gg) fun b hb => ⟨by rw [upd_ne (ne (e3 b hb).2).1]; exact (e3 b hb).1, (ne (e3 b hb).2).2⟩, .nd e1 e2 fun b hb => ⟨(e3 b hb).1, (ne (e3 b hb).2).2⟩⟩
    | dead e1 => exact ⟨.dead (ne e1).2, .dead (ne e1).2⟩
  unfold mkL at p
  split at p
  · split at p
    · have gg : Gr Z B ρ B (fun k => if k = h.length then some q else ρ k) := ⟨fun _ _ e => e, fun k a e => by
        have : k ≠ h.length := fun z => by rw [ok.up k (by omega)] at e; cases e
        show (if k = h.length then some q else ρ k) = some a
        rw [if_neg this]; exact e, fun a e e' => absurd e e'⟩
      refine p B (fun k => if k = h.length then some q else ρ k) H ⟨ok0.ex, ok0.zz, fun k c e => ?_, fun i j a e1 e2 => ?_, fun k a e => ?_, fun k e => ?_⟩ gg (.ref q) (.r (if_pos rfl))
      · by_cases z : k = h.length
        · subst z
          rw [List.getElem?_append_right (by omega), Nat.sub_self] at e
          cases e
          exact ⟨q, if_pos rfl, .lst hq (r.mono gg) hb hz⟩
        · have hk : k < h.length := by
            have := (List.getElem?_eq_some_iff.mp e).1
            rw [List.length_append, List.length_singleton] at this
            omega
          rw [List.getElem?_append_left hk] at e
          obtain ⟨a, h1, _⟩ := ok.ce k c e
          refine ⟨a, gg.rr k a h1, ?_⟩
          cases (own_ne k c a e h1).2 with
          | lst e1 e2 e3 e4 => exact .lst e1 (e2.mono gg) e3 e4
          | nd e1 e2 e3 => exact .nd e1 (e2.mono gg) e3
          | dead e1 => exact .dead e1
      · have e1 : (if i = h.length then some q else ρ i) = some a := e1
        have e2 : (if j = h.length then some q else ρ j) = some a := e2
        split at e1 <;> split at e2
        · omega
        · cases e1; exact absurd rfl (fresh _ _ e2)
        · cases e2; exact absurd rfl (fresh _ _ e1)
        · exact ok.nj i j a e1 e2
      · have e : (if k = h.length then some q else ρ k) = some a := e
        split at e
        · cases e; rw [hq]; simp
        · exact ok.al k a e
      · rw [List.length_append, List.length_singleton] at e
        show (if k = h.length then some q else ρ k) = none
        rw [if_neg (by omega)]
        exact ok.up k (by omega)
    · cases e : allD ws with
      | none => rw [e] at p; exact p.elim
      | some ds =>
        rw [e] at p
        cases allD_of e
        have gg : Gr Z B ρ (upd B q (.lst vs)) ρ := ⟨fun a u e => by rw [upd_ne (ne_of_none e hb)]; exact e, fun _ _ e => e, fun a e e' => by
          by_cases z : a = q
          · rw [z]; exact hz
          · rw [upd_ne z] at e'; exact absurd e e'⟩
        refine p (upd B q (.lst vs)) ρ H ⟨fun b u e => ?_, ok0.zz, fun k c e => ?_, ok.nj, ok.al, ok.up⟩ gg (.ref q) (.d (.lst upd_same ((ral_rpl r).mono gg.bb)))
        · by_cases z : b = q
          · subst z; rw [upd_same] at e; rw [hq]; exact e
          · rw [upd_ne z] at e; exact ok.ex b u e
        · obtain ⟨a, h1, _⟩ := ok.ce k c e
          exact ⟨a, h1, (own_ne k c a e h1).1⟩
  · exact p.elim
end

/-! ### comprehensions -/
def compM (nx : Nxt) (g : A → Sl → Hq → Option Sl) (mt : E Bool) (me : E A) (τw : Sl) : Nat → Nat → Hq → Option (List A × Hq)
  | 0, _, _ => none
  | f + 1, i, h => match nx i h with
    | some none => some ([], h)
    | some (some w) => (match g w τw h with
      | some τ1 => (match mt τ1 h with
        | some (.ok true h1) => (match me τ1 h1 with
          | some (.ok a h2) => (match compM nx g mt me τw f (i + 1) h2 with | some (r, h3) => some (a :: r, h3) | none => none)
          | _ => none)
        | some (.ok false h1) => compM nx g mt me τw f (i + 1) h1
        | _ => none)
      | none => none)
    | none => none
def mYes : E Bool := fun _ h => some (.ok true h)
def mLC (o : Bool) (mi : E Nxt) (g : A → Sl → Hq → Option Sl) (mt : E Bool) (me : E A) (vs : List Nat) : E A := fun τ h => bd (mi τ h) fun nx h1 => match compM nx g mt me (wipeT τ vs) FU 0 h1 with
  | some (ws, h2) => if ws.length ≤ LIM then mkL o ws h2 else none
  | none => none
structure RTs (X : Cx) (W : WX) (ifs : List Expr) (m : E Bool) : Prop where
  pt : PTs X ifs (tT X.K W m)
theorem pts_imp {X : Cx} {e : List Expr} {t t' : TT} (h : PTs X e t) (i : ∀ σ H Q, t' σ H Q → t σ H Q) : PTs X e t' := ⟨fun pins s σ H Q I q => h.run pins s σ H Q I (i _ _ _ q)⟩
theorem rts_nil {X : Cx} {W : WX} : RTs X W [] mYes := ⟨pts_imp pts_nil fun σ H Q q => by
  obtain ⟨Z, B, ρ, τ, h, ok, sl, q⟩ := q
  exact q.now ok⟩
theorem rts_one {X : Cx} {W : WX} {c : Expr} {m : E Bool} (h : RT X W c m) : RTs X W [c] m := ⟨pts_one h.pt⟩
abbrev W0 : WX := fun _ _ _ _ => False
/-- what stays true in the making of the list -/
theorem lc_reads {X : Cx} {vs : List Nat} {g : A → Sl → Hq → Option Sl} {mt : E Bool} {me : E A} {gg : TG} {tt : TT} {te : TE} {o : Bool}
    (hgg : ∀ v σ H Q, (∃ Z B ρ w τ τ' h, Ok X.K Z B ρ H h ∧ SlOk X.K B ρ σ τ ∧ RA X.K B ρ v w ∧ g w τ h = some τ' ∧ ∀ σ', SlOk X.K B ρ σ' τ' → Apart vs σ σ' → Q σ' H) → gg v σ H Q)
    (htt : ∀ σ H Q, tT X.K W0 mt σ H Q → tt σ H Q) (hte : ∀ σ H Q, tE X.K W0 me σ H Q → te σ H Q)
    {σ : L2.St} {Z B1 H1 : Hp} {ρ1 : Nat → Option Addr} {h1 h2 : Hq} {τ : Sl} {nx : Nxt} {J : It} {ws : List A} {Q : VK} {W : XK} (ok1 : Ok X.K Z B1 ρ1 H1 h1) (sl1 : SlOk X.K B1 ρ1 σ τ) (wk : Walk X.K B1 ρ1 J nx)
    (e : compM nx g mt me (wipeT τ vs) FU 0 h1 = some (ws, h2)) (hl : ws.length ≤ LIM) (k : Post X.K Z W B1 ρ1 (fun w _ B' ρ' H' => ∀ v, RA X.K B' ρ' v w → Q v H') (mkL o ws h2)) :
    ∀ D, H1 D = none → ∃ Wv : Nat → Nat → Hp → Prop, (∃ m, Wv 0 m (upd H1 D (.lst []))) ∧ ∀ i m H, Wv i m H →
  (J.stop i H ∧ Q (.ref D) H) ∨ (J.go i H ∧ ∃ Nx : Hp → Prop, (∀ H', Nx H' → ∃ m', m' < m ∧ Wv (i + 1) m' H') ∧ ∀ x H', J.yld i H x H' → gg x (L2.wipe σ vs) H' fun σ2 H2 => L2.wipe σ2 vs = L2.wipe σ vs ∧ tt σ2 H2 fun b H3 =>
    if b = true then te σ2 H3 fun y H4 => ∃ acc, H4 D = some (.lst acc) ∧ acc.length < sizeLine ∧ Nx (upd H4 D (.lst (acc ++ [y]))) else Nx H3) := by
  intro D hD
  have hzD : Z D = none := by
    cases z : Z D with
    | none => rfl
    | some u => rw [ok1.zz D u z] at hD; cases hD
  have hbD : B1 D = none := by
    cases z : B1 D with
    | none => rfl
    | some u => rw [ok1.ex D u z] at hD; cases hD
  refine ⟨fun i m H' => ∃ B' ρ' h' acc as rest, Ok X.K (upd Z D (.lst acc)) B' ρ' H' h' ∧ Gr Z B1 ρ1 B' ρ' ∧ B' D = none ∧ RAL X.K B' ρ' acc as ∧
      compM nx g mt me (wipeT τ vs) m i h' = some (rest, h2) ∧ ws = as ++ rest,
    ⟨FU, B1, ρ1, h1, [], [], ws, ok1.aside hD, Gr.refl, hbD, .nil, e, rfl⟩, ?_⟩
  rintro i m H2 ⟨B2, ρ2, h', acc, as, rest, ok2, g2, hb2, ra, ec, ew⟩
  cases m with
  | zero => cases ec
  | succ m =>
    obtain ⟨stop, go⟩ := wk _ B2 ρ2 H2 h' i ok2 g2.wk
    unfold compM at ec
    split at ec
    · rename_i e1
      cases ec
      rw [List.append_nil] at ew
      subst ew
      exact .inl ⟨stop e1, ok2.adopt hb2 hzD ra (k.from g2)⟩
    · rename_i w e1
      obtain ⟨k1, k2⟩ := go w e1
      refine .inr ⟨k1, fun H' => ∃ B' ρ' h' acc as rest, Ok X.K (upd Z D (.lst acc)) B' ρ' H' h' ∧ Gr Z B1 ρ1 B' ρ' ∧ B' D = none ∧ RAL X.K B' ρ' acc as ∧
        compM nx g mt me (wipeT τ vs) m (i + 1) h' = some (rest, h2) ∧ ws = as ++ rest, fun H' q => ⟨m, Nat.lt_succ_self m, q⟩, fun x H3 y => ?_⟩
      obtain ⟨B3, rx, ok3, g3⟩ := k2 x H3 y
      have keep : ∀ {B' : Hp} {ρ' : Nat → Option Addr} {Ba : Hp} {ρa : Nat → Option Addr}, Ba D = none → Gr (upd Z D (.lst acc)) Ba ρa B' ρ' → B' D = none := fun {B' ρ' Ba ρa} hn g => by
        cases z : B' D with
        | none => rfl
        | some u =>
          have := g.fz D hn (by rw [z]; simp)
          rw [upd_same] at this
          cases this
      have hb3 := keep hb2 g3
      have g13 := g2.trans (g3.aside hzD)
      split at ec
      · rename_i τ3 e3
        refine hgg _ _ _ _ ⟨_, B3, ρ2, w, wipeT τ vs, τ3, h', ok3, (sl1.mono g13).wipe vs, rx, e3, fun σ4 sl4 a4 => ⟨(wipe_apart a4).trans (wipe_wipe σ vs), htt _ _ _ ⟨_, B3, ρ2, τ3, h', ok3, sl4, ?_⟩⟩⟩
        split at ec
        · rename_i h5 e5
          rw [e5]
          intro B5 ρ5 H5 ok5 g5
          refine iteT (hte _ _ _ ⟨_, B5, ρ5, τ3, h5, ok5, sl4.mono g5, ?_⟩)
          have hb5 := keep hb3 g5
          split at ec
          · rename_i a h6 e6
            rw [e6]
            intro B6 ρ6 H6 ok6 g6 v rv
            have hb6 := keep hb5 g6
            split at ec
            · rename_i r h7 e7
              cases ec
              have g36 := (g5.trans g6).aside hzD
              refine ⟨acc, ok6.zz D _ upd_same, ?_, B6, ρ6, h6, acc ++ [v], as ++ [a], r, ok6.turn hb6 hzD, g13.trans g36, hb6, (ra.mono ((g3.aside hzD).trans g36)).append (.cons rv .nil), e7, by rw [ew, List.append_assoc]; rfl⟩
              rw [ra.length, ← lim_eq]
              rw [ew, List.length_append, List.length_cons] at hl
              omega
            · cases ec
          · cases ec
        · rename_i h5 e5
          rw [e5]
          intro B5 ρ5 H5 ok5 g5
          exact iteF ⟨B5, ρ5, h5, acc, as, rest, ok5, g13.trans (g5.aside hzD), keep hb3 g5, ra.mono ((g3.aside hzD).trans (g5.aside hzD)), ec, ew⟩
        · cases ec
      · cases ec
    · cases ec
section
variable {X : Cx} {W : WX} {tg iter elt : Expr} {ifs : List Expr} {scope : Scope} {mi : E Nxt} {g : A → Sl → Hq → Option Sl} {mt : E Bool} {me : E A} {pos : Pos}
theorem rx_lc (o : Bool) (hc : X.calm = true) (hN : X.N.Nodup) (own : List (Str × Nat)) (hi : RI X W tg iter mi)
    (hg : ∀ (s : Shared) (H : Hp) (C : Addr) (cl : List (Str × Addr)) (fp : List Addr), RG (X.blk s H scope (compEnvC scope cl C X.env) fp) (own.map (·.2)) tg g) (ht : ∀ (s : Shared) (H : Hp) (C : Addr) (cl : List (Str × Addr)) (fp : List Addr), RTs (X.blk s H scope (compEnvC scope cl C X.env) fp) W0 ifs mt)
    (he : ∀ (s : Shared) (H : Hp) (C : Addr) (cl : List (Str × Addr)) (fp : List Addr), RX (X.blk s H scope (compEnvC scope cl C X.env) fp) W0 elt me) (ok : BlkOk X.N X.env.scope scope own)
    (hs : ∀ x, foldedSetIterable iter X.env x = pure x := by intro _; rfl) : RX X W (.ListComp elt [⟨tg, iter, ifs, 0⟩] scope pos) (mLC o mi g mt me (own.map (·.2))) := ⟨pe_imp (pe_lc hc hN hi.pi ok (g := fun v σ H Q => ∃ Z B ρ w τ τ' h, Ok X.K Z B ρ H h ∧ SlOk X.K B ρ σ τ ∧ RA X.K B ρ v w ∧ g w τ h = some τ' ∧ ∀ σ', SlOk X.K B ρ σ' τ' → Apart (own.map (·.2)) σ σ' → Q σ' H) (tt := tT X.K W0 mt) (te := tE X.K W0 me)
    (fun s H C cl fp => (hg s H C cl fp).pg) (fun s H C cl fp => (ht s H C cl fp).pt) (fun s H C cl fp => (he s H C cl fp).pe) hs) fun σ H Q q => by
  obtain ⟨Z, B, ρ, τ, h, okk, sl, q⟩ := q
  unfold mLC at q
  refine ⟨Z, B, ρ, τ, h, okk, sl, q.bd.imp fun nx h1 B1 ρ1 H1 ok1 g1 q1 J wk => ?_⟩
  split at q1
  · rename_i ws h2 e1
    split at q1
    · rename_i hl
      exact lc_reads (X := X) (fun _ _ _ _ h => h) (fun _ _ _ h => h) (fun _ _ _ h => h) ok1 (sl.mono g1) wk e1 hl q1
    · exact q1.elim
  · exact q1.elim⟩
theorem rs_setLc (o : Bool) {i : Nat} {y : Str} {py spos : Pos} (hc : X.calm = true) (hN : X.N.Nodup) (own : List (Str × Nat)) (hi : RI X W tg iter mi)
    (hg : ∀ (s : Shared) (H : Hp) (C : Addr) (cl : List (Str × Addr)) (fp : List Addr), RG (X.blk s H scope (compEnvC scope cl C X.env) fp) (own.map (·.2)) tg g) (ht : ∀ (s : Shared) (H : Hp) (C : Addr) (cl : List (Str × Addr)) (fp : List Addr), RTs (X.blk s H scope (compEnvC scope cl C X.env) fp) W0 ifs mt)
    (he : ∀ (s : Shared) (H : Hp) (C : Addr) (cl : List (Str × Addr)) (fp : List Addr), RX (X.blk s H scope (compEnvC scope cl C X.env) fp) W0 elt me) (ok : BlkOk X.N X.env.scope scope own)
    (hsw : swapsWith (.ListComp elt [⟨tg, iter, ifs, 0⟩] scope pos) (some (.Name y py)) spos.line X.env = pure true) (hy : X.N[i]? = some y := by rfl) (hyl : X.env.scope.names.lookup y = some .local := by rfl)
    (hs : ∀ x, foldedSetIterable iter X.env x = pure x := by intro _; rfl) : RS X W (.Assign [.Name y py] (.ListComp elt [⟨tg, iter, ifs, 0⟩] scope pos) spos) (mSet i (mLC o mi g mt me (own.map (·.2)))) := ⟨ps_imp (ps_setLc hc hN hy hyl hsw hi.pi ok (g := fun v σ H Q => ∃ Z B ρ w τ τ' h, Ok X.K Z B ρ H h ∧ SlOk X.K B ρ σ τ ∧ RA X.K B ρ v w ∧ g w τ h = some τ' ∧ ∀ σ', SlOk X.K B ρ σ' τ' → Apart (own.map (·.2)) σ σ' → Q σ' H) (tt := tT X.K W0 mt) (te := tE X.K W0 me)
    (fun s H C cl fp => (hg s H C cl fp).pg) (fun s H C cl fp => (ht s H C cl fp).pt) (fun s H C cl fp => (he s H C cl fp).pe) hs) fun D σ H q => by
  obtain ⟨Z, B, ρ, τ, h, okk, sl, q⟩ := q
  have q2 := q.sb sl
  unfold mLC at q2
  refine ⟨Z, B, ρ, τ, h, okk, sl, q2.bd.imp fun nx h1 B1 ρ1 H1 ok1 g1 q1 J wk => ?_⟩
  split at q1
  · rename_i ws h2 e1
    split at q1
    · rename_i hl
      refine lc_reads (X := X) (Q := fun x H1 => gName i x σ H1 D.nx) (fun _ _ _ _ h => h) (fun _ _ _ h => h) (fun _ _ _ h => h) ok1 (sl.mono g1) wk e1 hl (q1.imp fun w h3 B3 ρ3 H3 ok3 g3 q3 v rv => ?_)
      exact q3.nx1 ok3 (((sl.mono g1).mono g3).put rv)
    · exact q1.elim
  · exact q1.elim⟩
end
end Tq

/-! Tq7: cells that turn: lists, fields, dicts. -/
namespace Tq
open PySem PySem.Spec PyProof.Rows L2
theorem ps_or {X : Cx} {e : Stmt} {t t' : TS} (h : PS X e t) (h' : PS X e t') : PS X e fun D σ H => t D σ H ∨ t' D σ H := ⟨fun pins s σ H D I q => q.elim (h.run pins s σ H D I) (h'.run pins s σ H D I)⟩
section
variable {K : PySem.W.Frag} {Z B H : Hp} {ρ : Nat → Option Addr} {h : Hq} {v : V} {k : Nat} {ws : List A}
theorem cell_lst (ok : Ok K Z B ρ H h) (r : RA K B ρ v (.r k)) (e : h[k]? = some (.lst ws)) : ∃ a vs, v = .ref a ∧ ρ k = some a ∧ H a = some (.lst vs) ∧ RAL K B ρ vs ws ∧
    ∀ vs' ws', RAL K B ρ vs' ws' → Ok K Z B ρ (upd H a (.lst vs')) (h.set k (.lst ws')) := by
  cases r with
  | r hr =>
    obtain ⟨a, h1, h2⟩ := ok.ce _ _ e
    rw [hr] at h1
    cases h1
    cases h2 with
    | lst q1 q2 q3 q4 => exact ⟨_, _, rfl, hr, q1, q2, fun vs' ws' r' => ok.mut e hr (fun z y => by rw [q1] at y; cases y) q3 q4 (.lst upd_same r' q3 q4)⟩
end
/-! ### list methods -/
def gApp : G2 := fun a w h => match a with
  | .r k => (match h[k]? with | some (.lst ws) => if ws.length < LIM then some (.ok (.d .non) (h.set k (.lst (ws ++ [w])))) else none | _ => none)
  | _ => none
theorem og_app {K : PySem.W.Frag} : Op2 K (fun x y H Q => rAppend x [y] H Q) gApp := by
  intro Z B ρ H h x y a b W Q ok rx ry q
  unfold gApp at q
  split at q
  · split at q
    · rename_i ws e
      split at q
      · rename_i hl
        obtain ⟨p, vs, rfl, hr, h1, r1, up⟩ := cell_lst ok rx e
        exact ⟨p, vs, y, rfl, rfl, h1, by rw [r1.length, ← lim_eq]; exact hl, q.now (up _ _ (r1.append (.cons ry .nil))) |> fun z => q B ρ _ (up _ _ (r1.append (.cons ry .nil))) Gr.refl _ (.d .non)⟩
      · exact q.elim
    · exact q.elim
  · exact q.elim
def gExt : G2 := fun a w h => match a with
  | .r k => (match h[k]? with
    | some (.lst ws) => (match lstOf h w with
      | some us => if ws.length + us.length ≤ LIM then some (.ok (.d .non) (h.set k (.lst (ws ++ us)))) else none
      | none => none)
    | _ => none)
  | _ => none
theorem og_ext {K : PySem.W.Frag} : Op2 K (fun x y H Q => rExtend x [y] H Q) gExt := by
  intro Z B ρ H h x y a b W Q ok rx ry q
  unfold gExt at q
  split at q
  · split at q
    · rename_i ws e
      split at q
      · rename_i us e2
        split at q
        · rename_i hl
          obtain ⟨p, vs, rfl, hr, h1, r1, up⟩ := cell_lst ok rx e
          obtain ⟨p', zs, rfl, h2, r2⟩ := lstOf_ra ok ry e2
          exact ⟨p, p', vs, zs, rfl, rfl, h1, h2, by rw [r1.length, r2.length, ← lim_eq]; exact hl, q B ρ _ (up _ _ (r1.append r2)) Gr.refl _ (.d .non)⟩
        · exact q.elim
      · exact q.elim
    · exact q.elim
  · exact q.elim
def gRev : G1 := fun a h => match a with
  | .r k => (match h[k]? with | some (.lst ws) => some (.ok (.d .non) (h.set k (.lst ws.reverse))) | _ => none)
  | _ => none
theorem og_rev {K : PySem.W.Frag} : Op1 K (fun x H Q => rReverse x [] H Q) gRev := by
  intro Z B ρ H h x a W Q ok rx q
  unfold gRev at q
  split at q
  · split at q
    · rename_i ws e
      obtain ⟨p, vs, rfl, hr, h1, r1, up⟩ := cell_lst ok rx e
      exact ⟨p, vs, rfl, rfl, h1, q B ρ _ (up _ _ r1.reverse) Gr.refl _ (.d .non)⟩
    · exact q.elim
  · exact q.elim
def gPop : G1 := fun a h => match a with
  | .r k => (match h[k]? with | some (.lst ws) => (match ws[ws.length - 1]? with | some w => some (.ok w (h.set k (.lst ws.dropLast))) | none => none) | _ => none)
  | _ => none
theorem RAL.dropLast {K : PySem.W.Frag} {B : Hp} {ρ : Nat → Option Addr} {vs : List V} {ws : List A} (r : RAL K B ρ vs ws) : RAL K B ρ vs.dropLast ws.dropLast := by
  rw [List.dropLast_eq_take, List.dropLast_eq_take, r.length]
  exact r.take _
theorem og_pop {K : PySem.W.Frag} : Op1 K (fun x H Q => rPop x [] H Q) gPop := by
  intro Z B ρ H h x a W Q ok rx q
  unfold gPop at q
  split at q
  · split at q
    · rename_i ws e
      split at q
      · rename_i w e2
        obtain ⟨p, vs, rfl, hr, h1, r1, up⟩ := cell_lst ok rx e
        obtain ⟨v, h2, r2⟩ := r1.get e2
        exact ⟨p, vs, v, rfl, rfl, h1, by rw [r1.length]; exact h2, q B ρ _ (up _ _ r1.dropLast) Gr.refl _ r2⟩
      · exact q.elim
    · exact q.elim
  · exact q.elim
section
variable {X : Cx} {W : WX} {a b : Expr} {ma mb : E A} {pos apos : Pos}
theorem rx_append (ha : RX X W a ma) (hb : RX X W b mb) (hbase : attributeBase a "append" X.env (eval a X.env) = eval a X.env := by rfl)
    (hfew : ((backTo pos (starEach (b :: []) X.env)).all (fun x => !x.1) && (backToKw pos (keywordEach [] X.env)).all (fun x => x.1.isSome)
      && decide ((b :: []).length + ([] : List Keyword).length + (if ([] : List Keyword).isEmpty then 0 else 1) < 30)) = true := by rfl)
    (hline : (apos.endLine == pos.line) = true := by rfl) (hs : starEach (b :: []) X.env = (false, eval b X.env) :: starEach [] X.env := by rfl) : RX X W (.Call (.Attribute a "append" apos) [b] [] pos) (mM1 tokL gApp ma mb) :=
  rx_m1 F.plainAttrs_list F.slot_list_append F.type_list_append mt_append tokL tokL_ty og_app ha hb hbase hfew hline hs
theorem rx_extend (ha : RX X W a ma) (hb : RX X W b mb) (hbase : attributeBase a "extend" X.env (eval a X.env) = eval a X.env := by rfl)
    (hfew : ((backTo pos (starEach (b :: []) X.env)).all (fun x => !x.1) && (backToKw pos (keywordEach [] X.env)).all (fun x => x.1.isSome)
      && decide ((b :: []).length + ([] : List Keyword).length + (if ([] : List Keyword).isEmpty then 0 else 1) < 30)) = true := by rfl)
    (hline : (apos.endLine == pos.line) = true := by rfl) (hs : starEach (b :: []) X.env = (false, eval b X.env) :: starEach [] X.env := by rfl) : RX X W (.Call (.Attribute a "extend" apos) [b] [] pos) (mM1 tokL gExt ma mb) :=
  rx_m1 F.plainAttrs_list F.slot_list_extend F.type_list_extend mt_extend tokL tokL_ty og_ext ha hb hbase hfew hline hs
theorem rx_reverse (ha : RX X W a ma) (hbase : attributeBase a "reverse" X.env (eval a X.env) = eval a X.env := by rfl) (hline : (apos.endLine == pos.line) = true := by rfl) : RX X W (.Call (.Attribute a "reverse" apos) [] [] pos) (mM0 tokL gRev ma) :=
  rx_m0 F.plainAttrs_list F.slot_list_reverse F.type_list_reverse mt_reverse tokL tokL_ty og_rev ha hbase hline
theorem rx_pop0 (ha : RX X W a ma) (hbase : attributeBase a "pop" X.env (eval a X.env) = eval a X.env := by rfl) (hline : (apos.endLine == pos.line) = true := by rfl) : RX X W (.Call (.Attribute a "pop" apos) [] [] pos) (mM0 tokL gPop ma) :=
  rx_m0 F.plainAttrs_list F.slot_list_pop F.type_list_pop mt_pop tokL tokL_ty og_pop ha hbase hline
end

/-! ### keys, parts by keys -/
def keyD : D → Option Key
  | .int i => some (.inl i)
  | .str x => some (.inr x)
  | _ => none
def keysD : List D → Option (List Key)
  | [] => some []
  | d :: r => match keyD d, keysD r with | some k, some ks => some (k :: ks) | _, _ => none
def keyA : A → Option Key
  | .d d => keyD d
  | _ => none
def keyT : A → Option (List Key)
  | .d (.tup ds) => keysD ds
  | _ => none
theorem keyD_rp {K : PySem.W.Frag} {B : Hp} {v : V} {d : D} {k : Key} (r : Rp K B v d) (h : keyD d = some k) : v = kV k := by
  cases r <;> first | (cases h; rfl) | cases h
theorem keysD_rp {K : PySem.W.Frag} {B : Hp} : ∀ {vs : List V} {ds : List D} {ks : List Key}, RpL K B vs ds → keysD ds = some ks → vs = ks.map kV
  | _, _, _, .nil, h => by cases h; rfl
  | _, d :: r, ks, .cons w wl, h => by
    unfold keysD at h
    split at h
    · rename_i k ks' h1 h2
      cases h
      rw [keyD_rp w h1, keysD_rp wl h2]
      rfl
    · cases h
section
variable {κ α : Type} [DecidableEq κ]
def dGet (k : κ) : List κ → List α → Option α
  | k' :: ks, s :: ss => if k' = k then some s else dGet k ks ss
  | _, _ => none
def dPut (k : κ) (s : α) : List κ → List α → List κ × List α
  | k' :: ks, s' :: ss => if k' = k then (k' :: ks, s :: ss) else ((k' :: (dPut k s ks ss).1), (s' :: (dPut k s ks ss).2))
  | ks, _ => if ks = [] then ([k], [s]) else (ks, [])
end
section
variable {κ : Type} [DecidableEq κ] {K : PySem.W.Frag} {B : Hp} {ρ : Nat → Option Addr}
theorem dGet_ok {k : κ} : ∀ {ks : List κ} {vs : List V} {ws : List A}, RAL K B ρ vs ws → ks.length = vs.length →
    (dGet k ks ws = none → valV (ks.zip vs) k = none) ∧ ∀ w, dGet k ks ws = some w → ∃ v, valV (ks.zip vs) k = some v ∧ RA K B ρ v w
  | [], _, _, r, _ => ⟨fun _ => by simp [valV], fun w h => by cases r <;> cases h⟩
  | k' :: ks, _, _, .nil, e => by simp at e
  | k' :: ks, _, _, .cons (v := v) (vs := vr) (w := s) (ws := sr) w wl, e => by
    have ih := dGet_ok (k := k) (ks := ks) wl (by simpa using e)
    by_cases z : k' = k
    · refine ⟨fun h => ?_, fun x h => ⟨v, ?_, ?_⟩⟩
      · simp [dGet, z] at h
      · rw [List.zip_cons_cons]; exact valV_pos z
      · simp [dGet, z] at h
        subst h
        exact w
    · have e1 : dGet k (k' :: ks) (s :: sr) = dGet k ks sr := by simp [dGet, z]
      have e2 : valV ((k' :: ks).zip (v :: vr)) k = valV (ks.zip vr) k := by rw [List.zip_cons_cons]; exact valV_neg z
      rw [e1, e2]
      exact ih
/-- the pairs with k: v, by place -/
def putZ (k : κ) (v : V) : List (κ × V) → List (κ × V)
  | [] => [(k, v)]
  | (k', x) :: r => if k' = k then (k', v) :: r else (k', x) :: putZ k v r
theorem map_other {k : κ} {v : V} : ∀ {l : List (κ × V)}, (∀ p ∈ l, p.1 ≠ k) → l.map (fun kv => if kv.1 = k then (kv.1, v) else kv) = l
  | [], _ => rfl
  | p :: r, h => by
    rw [List.map_cons, if_neg (h p (List.mem_cons_self ..)), map_other fun q hq => h q (List.mem_cons_of_mem _ hq)]
theorem putK_eq {k : κ} {v : V} : ∀ {l : List (κ × V)}, (l.map (·.1)).Nodup → putK l k v = putZ k v l
  | [], _ => by simp [putK, putZ]
  | (k', x) :: r, nd => by
    have nd : (k' :: r.map (·.1)).Nodup := nd
    obtain ⟨n1, n2⟩ := List.nodup_cons.mp nd
    have ih := putK_eq (k := k) (v := v) n2
    unfold putZ
    by_cases z : k' = k
    · subst z
      rw [if_pos rfl]
      unfold putK
      have : ((k', x) :: r).any (fun kv => decide (kv.1 = k')) = true := by simp
      rw [if_pos this, List.map_cons, if_pos rfl, map_other fun p hp e => n1 (by rw [← e]; exact List.mem_map_of_mem hp)]
    · rw [if_neg z]
      unfold putK at ih ⊢
      have e1 : ((k', x) :: r).any (fun kv => decide (kv.1 = k)) = r.any (fun kv => decide (kv.1 = k)) := by simp [z]
      rw [e1]
      by_cases y : r.any (fun kv => decide (kv.1 = k)) = true
      · rw [if_pos y] at ih ⊢
        rw [List.map_cons, if_neg z, ih]
      · rw [if_neg y] at ih ⊢
        rw [List.cons_append, ih]
theorem dPut_ok {k : κ} {v : V} {w : A} (rv : RA K B ρ v w) : ∀ {ks : List κ} {vs : List V} {ws : List A}, RAL K B ρ vs ws → ks.length = vs.length →
    ∃ vs', putZ k v (ks.zip vs) = (dPut k w ks ws).1.zip vs' ∧ (dPut k w ks ws).1.length = vs'.length ∧ RAL K B ρ vs' (dPut k w ks ws).2 ∧ (dPut k w ks ws).1 = if k ∈ ks then ks else ks ++ [k]
  | [], _, _, r, e => by
    cases r with
    | nil => exact ⟨[v], by simp [dPut, putZ], by simp [dPut], by simpa [dPut] using RAL.cons rv .nil, by simp [dPut]⟩
    | cons _ _ => simp at e
  | k' :: ks, _, _, .nil, e => by simp at e
  | k' :: ks, _, _, .cons (v := u) (vs := vr) (w := s) (ws := sr) w0 wl, e => by
    obtain ⟨vs', h1, h2, h3, h4⟩ := dPut_ok (k := k) rv (ks := ks) wl (by simpa using e)
    by_cases z : k' = k
    · refine ⟨v :: vr, ?_, ?_, ?_, ?_⟩
      · simp [dPut, putZ, z]
      · simp [dPut, z]; simpa using e
      · simp only [dPut, if_pos z]; exact .cons rv wl
      · simp [dPut, z]
    · refine ⟨u :: vs', ?_, ?_, ?_, ?_⟩
      · simp only [dPut, if_neg z, List.zip_cons_cons, putZ]
        rw [h1]
      · simp [dPut, z, h2]
      · simp only [dPut, if_neg z]; exact .cons w0 h3
      · simp only [dPut, if_neg z, List.mem_cons, Ne.symm z, false_or]
        rw [h4]
        by_cases y : k ∈ ks
        · rw [if_pos y, if_pos y]
        · rw [if_neg y, if_neg y]; rfl
end
/-- what is at a key; none: the value has no such reading; some none: nothing is there -/
def hGet (hd : Hd) (ws : List A) (kd : A) : Option (Option A) := match hd with
  | .dic ks => (keyA kd).map fun k => dGet k ks ws
  | .dit ks => (keyT kd).map fun k => dGet k ks ws
  | .ins _ _ => none
def hPut (hd : Hd) (ws : List A) (kd w : A) : Option (Hd × List A) := match hd with
  | .dic ks => if ks.Nodup ∧ ks.length < LIM then (keyA kd).map fun k => (.dic (dPut k w ks ws).1, (dPut k w ks ws).2) else none
  | .dit ks => if ks.Nodup ∧ ks.length < LIM then (keyT kd).map fun k => (.dit (dPut k w ks ws).1, (dPut k w ks ws).2) else none
  | .ins _ _ => none
/-- a dict, whatever it is in -/
def dicOf (h : Hq) : A → Option (Hd × List A)
  | .d (.nd hd xs) => some (hd, xs.map A.d)
  | .r k => match h[k]? with | some (.nd hd ws) => some (hd, ws) | _ => none
  | _ => none
section
variable {K : PySem.W.Frag} {Z B H : Hp} {ρ : Nat → Option Addr} {h : Hq} {x y v : V} {a kd w : A} {hd : Hd} {ws : List A}
theorem dicOf_ra (ok : Ok K Z B ρ H h) (r : RA K B ρ x a) (e : dicOf h a = some (hd, ws)) : ∃ p vs own, x = .ref p ∧ HdAt K H p hd vs own ∧ RAL K B ρ vs ws := by
  unfold dicOf at e
  split at e
  · cases e
    cases ra_d r with
    | nd h1 r1 => exact ⟨_, _, _, rfl, h1.to fun b _ u z => ok.ex b u z, ral_ds r1⟩
  · split at e
    · rename_i e1
      cases e
      cases r with
      | r hr =>
        obtain ⟨p, h1, h2⟩ := ok.ce _ _ e1
        rw [hr] at h1
        cases h1
        cases h2 with
        | nd q1 q2 q3 => exact ⟨_, _, _, rfl, q1, q2⟩
    · cases e
  · cases e
theorem hGet_isD {p : Addr} {vs : List V} {own : List Addr} {o : Option A} (x : HdAt K H p hd vs own) (e : hGet hd ws kd = some o) : IsD H p := by
  cases x with
  | dic h1 _ => exact .inl ⟨_, .inl h1⟩
  | dit h1 _ => exact .inr ⟨_, .inl h1⟩
  | ins => cases e
theorem hGet_ok {p : Addr} {vs : List V} {own : List Addr} {o : Option A} (ok : Ok K Z B ρ H h) (x : HdAt K H p hd vs own) (r : RAL K B ρ vs ws) (ry : RA K B ρ y kd) (e : hGet hd ws kd = some o) :
    (o = none → DGet H p y none) ∧ ∀ w, o = some w → ∃ v, DGet H p y (some v) ∧ RA K B ρ v w := by
  cases x with
  | dic h1 h2 =>
    obtain ⟨k, hk, rfl⟩ := Option.map_eq_some_iff.mp e
    have hy : y = kV k := by
      unfold keyA at hk
      split at hk
      · exact keyD_rp (ra_d ry) hk
      · cases hk
    subst hy
    obtain ⟨g1, g2⟩ := dGet_ok (k := k) r h2
    refine ⟨fun z => ?_, fun w z => ?_⟩
    · rw [← g1 z]; exact .k h1
    · obtain ⟨v, q1, q2⟩ := g2 w z
      exact ⟨v, by rw [← q1]; exact .k h1, q2⟩
  | dit h1 h2 =>
    obtain ⟨k, hk, rfl⟩ := Option.map_eq_some_iff.mp e
    have hy : ∃ b, y = .ref b ∧ H b = some (.tup (k.map kV)) := by
      unfold keyT at hk
      split at hk
      · cases ra_d ry with
        | tup q1 q2 => exact ⟨_, rfl, by rw [ok.ex _ _ q1, keysD_rp q2 hk]⟩
      · cases hk
    obtain ⟨b, rfl, hb⟩ := hy
    obtain ⟨g1, g2⟩ := dGet_ok (k := k) r h2
    refine ⟨fun z => ?_, fun w z => ?_⟩
    · rw [← g1 z]; exact .t h1 hb
    · obtain ⟨v, q1, q2⟩ := g2 w z
      exact ⟨v, by rw [← q1]; exact .t h1 hb, q2⟩
  | ins => cases e
theorem map_fst_zip {κ : Type} : ∀ {ks : List κ} {vs : List V}, ks.length = vs.length → (ks.zip vs).map (·.1) = ks
  | [], _, _ => rfl
  | _ :: _, [], e => by simp at e
  | k :: ks, v :: vs, e => by rw [List.zip_cons_cons, List.map_cons, map_fst_zip (by simpa using e)]
theorem hPut_ok {p : Addr} {vs : List V} {own : List Addr} {hd' : Hd} {ws' : List A} (ok : Ok K Z B ρ H h) (x : HdAt K H p hd vs own) (r : RAL K B ρ vs ws) (ry : RA K B ρ y kd) (rv : RA K B ρ v w) (e : hPut hd ws kd w = some (hd', ws')) :
    ∃ (o : HO) (vs' : List V), DPut H p y v (upd H p o) ∧ own = [p] ∧ HdAt K (upd H p o) p hd' vs' own ∧ RAL K B ρ vs' ws' := by
  cases x with
  | dic h1 h2 =>
    unfold hPut at e
    dsimp only at e
    split at e
    · rename_i hn
      obtain ⟨k, hk, e⟩ := Option.map_eq_some_iff.mp e
      cases e
      have hy : y = kV k := by
        unfold keyA at hk
        split at hk
        · exact keyD_rp (ra_d ry) hk
        · cases hk
      subst hy
      obtain ⟨vs', q1, q2, q3, _⟩ := dPut_ok (k := k) rv r h2
      refine ⟨_, vs', .k h1 (by rw [List.length_zip, ← h2, Nat.min_self, ← lim_eq]; exact hn.2), rfl, .dic ?_ q2, q3⟩
      rw [upd_same, putK_eq (by rw [map_fst_zip h2]; exact hn.1), q1]
    · cases e
  | dit h1 h2 =>
    unfold hPut at e
    dsimp only at e
    split at e
    · rename_i hn
      obtain ⟨k, hk, e⟩ := Option.map_eq_some_iff.mp e
      cases e
      have hy : ∃ b, y = .ref b ∧ H b = some (.tup (k.map kV)) := by
        unfold keyT at hk
        split at hk
        · cases ra_d ry with
          | tup q1 q2 => exact ⟨_, rfl, by rw [ok.ex _ _ q1, keysD_rp q2 hk]⟩
        · cases hk
      obtain ⟨b, rfl, hb⟩ := hy
      obtain ⟨vs', q1, q2, q3, _⟩ := dPut_ok (k := k) rv r h2
      refine ⟨_, vs', .t h1 hb (by rw [List.length_zip, ← h2, Nat.min_self, ← lim_eq]; exact hn.2), rfl, .dit ?_ q2, q3⟩
      rw [upd_same, putK_eq (by rw [map_fst_zip h2]; exact hn.1), q1]
    · cases e
  | ins => cases e
/-- a cell with parts turns, its own dict stays -/
theorem cell_nd (ok : Ok K Z B ρ H h) {k : Nat} (r : RA K B ρ v (.r k)) (e : h[k]? = some (.nd hd ws)) : ∃ a vs own, v = .ref a ∧ ρ k = some a ∧ HdAt K H a hd vs own ∧ RAL K B ρ vs ws ∧
    ∀ o hd' vs' ws', HdAt K (upd H a o) a hd' vs' own → RAL K B ρ vs' ws' → Ok K Z B ρ (upd H a o) (h.set k (.nd hd' ws')) := by
  cases r with
  | r hr =>
    obtain ⟨a, h1, h2⟩ := ok.ce _ _ e
    rw [hr] at h1
    cases h1
    cases h2 with
    | nd q1 q2 q3 => exact ⟨_, _, _, rfl, hr, q1, q2, fun o hd' vs' ws' x' r' => ok.mut e hr q1.own_or.2.2.2.2 (q3 _ q1.own_or.1).1 (q3 _ q1.own_or.1).2 (.nd x' r' q3)⟩
end

/-! ### xs[i], d[k] -/
def gGetD : G2 := fun a kd h => match dicOf h a with
  | some (hd, ws) => (match hGet hd ws kd with | some (some w) => some (.ok w h) | _ => none)
  | none => none
def gGet : G2 := fun a kd h => if (dicOf h a).isSome then gGetD a kd h else gIx a kd h
section
variable {X : Cx} {W : WX} {a b : Expr} {ma mb : E A} {pos : Pos}
/-- of a list, a tuple, a text, a dict -/
theorem rx_sub (hu : X.A.units + 1 < cLine) (ha : RX X W a ma) (hb : RX X W b mb) (hs : PlainIx b := by exact fun _ _ => rfl) (hs2 : NoSl b := by exact fun _ _ => rfl) : RX X W (.Subscript a b pos) (mBin gGet ma mb) := ⟨pe_imp (pe_or (pe_ix ix_seq ha.pe hb.pe hs) (pe_dget hu ha.pe hb.pe hs2)) fun σ H Q q => by
  obtain ⟨Z, B, ρ, τ, h, ok, sl, q⟩ := q
  unfold mBin at q
  have dec : ∀ (r : Option (Rs A)), Post X.K Z (fun c d H' => W c d σ H') B ρ (fun w _ B' ρ' H' => ∀ v, RA X.K B' ρ' v w → Q v H') (bd r fun a h1 => bd (mb τ h1) fun b h2 => gGet a b h2) →
      Post X.K Z (fun c d H' => W c d σ H') B ρ (fun w _ B' ρ' H' => ∀ v, RA X.K B' ρ' v w → tE X.K W mb σ H' fun y H2 => rIx X.K v y H2 Q) r ∨
      Post X.K Z (fun c d H' => W c d σ H') B ρ (fun w _ B' ρ' H' => ∀ v, RA X.K B' ρ' v w → tE X.K W mb σ H' fun y H2 => ∃ a v', v = .ref a ∧ DGet H2 a y (some v') ∧ Q v' H2) r := by
    intro r q
    match r, q with
    | some (.ex x h), q => exact .inl q
    | some (.ok a h1), q =>
      have q : Post X.K Z (fun c d H' => W c d σ H') B ρ (fun w _ B' ρ' H' => ∀ v, RA X.K B' ρ' v w → Q v H') (bd (mb τ h1) fun b h2 => gGet a b h2) := q
      -- what the other evaluation says
      have dec2 : ∀ (r2 : Option (Rs A)), Post X.K Z (fun c d H' => W c d σ H') B ρ (fun w _ B' ρ' H' => ∀ v, RA X.K B' ρ' v w → Q v H') (bd r2 fun b h2 => gGet a b h2) →
          (∀ b h2, r2 = some (.ok b h2) → dicOf h2 a = none) ∨ ∃ b h2 hw, r2 = some (.ok b h2) ∧ dicOf h2 a = some hw := by
        intro r2 _
        match r2 with
        | none => exact .inl fun _ _ e => by cases e
        | some (.ex _ _) => exact .inl fun _ _ e => by cases e
        | some (.ok b h2) =>
          cases e : dicOf h2 a with
          | none => exact .inl fun _ _ z => by cases z; exact e
          | some hw => exact .inr ⟨b, h2, hw, rfl, e⟩
      rcases dec2 (mb τ h1) q with hn | ⟨b, h2, hw, e1, e2⟩
      · refine .inl fun B1 ρ1 H1 ok1 g1 v rv => ⟨Z, B1, ρ1, τ, h1, ok1, sl.mono g1, ?_⟩
        have q := (q.from g1).bd
        revert q hn
        cases mb τ h1 with
        | none => exact fun _ q => q
        | some r2 =>
          cases r2 with
          | ex _ _ => exact fun _ q => q
          | ok b h2 =>
            intro hn q B2 ρ2 H2 ok2 g2 y ry
            have q : Post X.K Z (fun c d H' => W c d σ H') B2 ρ2 (fun w _ B' ρ' H' => ∀ v, RA X.K B' ρ' v w → Q v H') (gGet a b h2) := q B2 ρ2 H2 ok2 g2
            unfold gGet at q
            rw [hn b h2 rfl] at q
            exact og_ix Z B2 ρ2 H2 h2 v y a b _ Q ok2 (rv.mono g2) ry q
      · refine .inr fun B1 ρ1 H1 ok1 g1 v rv => ⟨Z, B1, ρ1, τ, h1, ok1, sl.mono g1, ?_⟩
        have q := (q.from g1).bd
        rw [e1] at q ⊢
        intro B2 ρ2 H2 ok2 g2 y ry
        have q : Post X.K Z (fun c d H' => W c d σ H') B2 ρ2 (fun w _ B' ρ' H' => ∀ v, RA X.K B' ρ' v w → Q v H') (gGet a b h2) := q B2 ρ2 H2 ok2 g2
        unfold gGet at q
        rw [e2] at q
        have q : Post X.K Z (fun c d H' => W c d σ H') B2 ρ2 (fun w _ B' ρ' H' => ∀ v, RA X.K B' ρ' v w → Q v H') (gGetD a b h2) := q
        unfold gGetD at q
        rw [e2] at q
        obtain ⟨hd, ws⟩ := hw
        dsimp only at q
        split at q
        · rename_i w e3
          obtain ⟨p, vs, own, rfl, x1, r1⟩ := dicOf_ra ok2 (rv.mono g2) e2
          obtain ⟨v', g, rv'⟩ := (hGet_ok ok2 x1 r1 ry e3).2 w rfl
          exact ⟨p, v', rfl, g, q.now ok2 _ rv'⟩
        · exact q.elim
  rcases dec (ma τ h) q with q | q
  · exact .inl ⟨Z, B, ρ, τ, h, ok, sl, q⟩
  · exact .inr ⟨Z, B, ρ, τ, h, ok, sl, q⟩⟩
end
/-! ### a[i] = v, d[k] = v -/
def putA (a kd w : A) (h : Hq) : Option Hq := match a with
  | .r k => (match h[k]? with
    | some (.lst ws) => (match kd with
      | .d (.int i) => (match ixN ws.length i with | some n => some (h.set k (.lst (ws.set n w))) | none => none)
      | _ => none)
    | some (.nd hd ws) => (match hPut hd ws kd w with | some (hd', ws') => some (h.set k (.nd hd' ws')) | none => none)
    | _ => none)
  | _ => none
def isLst (h : Hq) : A → Bool
  | .r k => match h[k]? with | some (.lst _) => true | _ => false
  | _ => false
/-- value, object, index -/
def mSetI (lst : Bool) (mo mi mv : E A) : MS := fun τ h => sb τ (mv τ h) fun w h1 => sb τ (mo τ h1) fun a h2 => sb τ (mi τ h2) fun kd h3 => if isLst h3 a = lst then (match putA a kd w h3 with | some h4 => some (.nx τ h4) | none => none) else none
section
variable {X : Cx} {W : WX} {o i e : Expr} {mo mi mv : E A} {pos tpos : Pos}
theorem rs_setL (ho : RX X W o mo) (hi : RX X W i mi) (hv : RX X W e mv) (hs : swapsWithSole [.Subscript o i tpos] e pos.line X.env = pure false := by rfl) (hw : swappedStores [.Subscript o i tpos] e X.env = pure none := by rfl)
    (h1 : (assignEach [.Subscript o i tpos] X.env).map (·.2) = [assign (.Subscript o i tpos) X.env] := by rfl)
    (ha : ∀ v, assign (.Subscript o i tpos) X.env v = (do
      let ov ← holding [v] (eval o X.env)
      let iv ← holding [v, ov] (eval i X.env)
      standAt tpos
      holding [v, ov, iv] (setItem ov iv v)
      release [v, ov, iv] []) := by intro _; rfl) : RS X W (.Assign [.Subscript o i tpos] e pos) (mSetI true mo mi mv) := ⟨ps_imp (ps_asg hv.pe (pg_sub ho.pe hi.pe set_list ha) hs hw h1) fun D σ H q => by
  obtain ⟨Z, B, ρ, τ, h, ok, sl, q⟩ := q
  refine ts_bd ok sl q fun v w h1 B1 ρ1 H1 rv ok1 sl1 g1 q1 => ts_bd ok1 sl1 q1 fun x a h2 B2 ρ2 H2 rx ok2 sl2 g2 q2 => ts_bd ok2 sl2 q2 fun y kd h3 B3 ρ3 H3 ry ok3 sl3 g3 q3 => ?_
  split at q3
  · rename_i hl
    split at q3
    · rename_i h4 e4
      unfold isLst at hl
      split at hl
      · split at hl
        · rename_i k ws e5
          unfold putA at e4
          dsimp only at e4
          rw [e5] at e4
          dsimp only at e4
          split at e4
          · rename_i j
            split at e4
            · rename_i n e6
              cases e4
              cases ra_int ry
              obtain ⟨p, vs, rfl, hr, h1', r1, up⟩ := cell_lst ok3 (rx.mono g3) e5
              exact ⟨p, vs, j, n, rfl, rfl, h1', by rw [r1.length]; exact e6, q3.nx1 (up _ _ (r1.set n (rv.mono (g2.trans g3)))) sl3⟩
            · cases e4
          · cases e4
        · cases hl
      · cases hl
    · exact q3.elim
  · exact q3.elim⟩
theorem rs_setD (hu : X.A.units + 1 < cLine) (ho : RX X W o mo) (hi : RX X W i mi) (hv : RX X W e mv) (hs : swapsWith e (some (.Subscript o i tpos)) pos.line X.env = pure false := by rfl) : RS X W (.Assign [.Subscript o i tpos] e pos) (mSetI false mo mi mv) := ⟨ps_imp (ps_dput hu ho.pe hi.pe hv.pe hs) fun D σ H q => by
  obtain ⟨Z, B, ρ, τ, h, ok, sl, q⟩ := q
  refine ts_bd ok sl q fun v w h1 B1 ρ1 H1 rv ok1 sl1 g1 q1 => ts_bd ok1 sl1 q1 fun x a h2 B2 ρ2 H2 rx ok2 sl2 g2 q2 => ts_bd ok2 sl2 q2 fun y kd h3 B3 ρ3 H3 ry ok3 sl3 g3 q3 => ?_
  split at q3
  · rename_i hl
    split at q3
    · rename_i h4 e4
      unfold putA at e4
      split at e4
      · rename_i k
        split at e4
        · rename_i ws e5
          unfold isLst at hl
          dsimp only at hl
          rw [e5] at hl
          cases hl
        · rename_i hd ws e5
          split at e4
          · rename_i hd' ws' e6
            cases e4
            obtain ⟨p, vs, own, rfl, hr, x1, r1, up⟩ := cell_nd ok3 (rx.mono g3) e5
            obtain ⟨o', vs', d1, d2, d3, d4⟩ := hPut_ok ok3 x1 r1 ry (rv.mono (g2.trans g3)) e6
            exact ⟨p, _, rfl, d1, q3.nx1 (up _ _ _ _ d3 d4) sl3⟩
          · cases e4
        · cases e4
      · cases e4
    · exact q3.elim
  · exact q3.elim⟩
/-- o[i] op= e: object, index, what is there, value -/
def mAugI (lst : Bool) (g : G2) (mo mi mv : E A) : MS := fun τ h => sb τ (mo τ h) fun a h1 => sb τ (mi τ h1) fun kd h2 => sb τ (if lst = true then (if isLst h2 a = true then gIx a kd h2 else none) else gGetD a kd h2) fun u h2' => sb τ (mv τ h2') fun w h3 => sb τ (g u w h3) fun z h4 =>
  if isLst h4 a = lst then (match putA a kd z h4 with | some h5 => some (.nx τ h5) | none => none) else none
theorem get_list : ∀ (pins : List (Addr × Obj)) (s : Shared) (σ : L2.St) (H : Hp) (o i : V) (ov iv : Value) (Q : VK), Inv X pins σ H s → RelV o ov → RelV i iv → rIxL X.K o i H Q →
    wpAny (model X.prog X.w) X.A (getItem ov iv) (EP X pins σ Q) X.xe s := by
  intro pins s σ H x y v u Q I rx ry h
  obtain ⟨p, xs, i, z, rfl, rfl, hq, he, q⟩ := h
  cases rx
  obtain ⟨t, rfl⟩ := ry
  obtain ⟨its, r, pl, hz⟩ := I.list hq
  obtain ⟨j, h1, h2, h3, h4, h5⟩ := atI_get he
  obtain ⟨w, ew, rw'⟩ := r.get h2
  have hl := r.length
  have hn := line63
  have fin : EP X pins σ Q w s := ⟨z, H, I, rw', q⟩
  by_cases h0 : 0 ≤ i
  · have hj : i.toNat = j := by
      rw [seqIndex_of h0 h5] at h1
      exact Option.some.inj h1
    exact wpAny_getItem_list pl.isList h0 (by omega) (by rw [hj]; simpa using ew) fin
  · have hj : (i + (its.toArray.size : Int)).toNat = j := by
      rw [seqIndex_neg (by omega) h4] at h1
      rw [List.size_toArray, ← hl]
      exact Option.some.inj h1
    exact wpAny_getItem_list_neg pl.isList (by omega) (by rw [List.size_toArray] <;> omega) (by omega) (by rw [hj]; simpa using ew) fin
theorem rs_augL {op : Operator} {r : R2} {g : G2} (hop : OpR X (inplaceOp op) r) (og : Op2 X.K r g) (ho : RX X W o mo) (hi : RX X W i mi) (hv : RX X W e mv)
    (ha : ∀ ov iv new, augStore i ov iv new = (do holding [new, ov, iv] (setItem ov iv new); release [new, ov, iv] []; pure .next) := by intros; rfl) : RS X W (.AugAssign (.Subscript o i tpos) op e pos) (mAugI true g mo mi mv) := ⟨ps_imp (ps_augS ho.pe hi.pe get_list hv.pe hop set_list ha) fun D σ H q => by
  obtain ⟨Z, B, ρ, τ, h, ok, sl, q⟩ := q
  refine ts_bd ok sl q fun x a h1 B1 ρ1 H1 rx ok1 sl1 g1 q1 => ts_bd ok1 sl1 q1 fun y kd h2 B2 ρ2 H2 ry ok2 sl2 g2 q2 => ?_
  rw [if_pos rfl] at q2
  split at q2
  · rename_i hl2
    have rx2 := rx.mono g2
    unfold isLst at hl2
    split at hl2
    · rename_i k
      split at hl2
      · rename_i ws e5
        obtain ⟨p, vs, rfl, hr, h1', r1, up⟩ := cell_lst ok2 rx2 e5
        have tn : tupOf (.r k) = none := rfl
        have ln : lstOf h2 (.r k) = some ws := by unfold lstOf; dsimp only; rw [e5]
        unfold gIx at q2
        split at q2
        · rename_i j
          dsimp only at q2
          rw [tn, ln] at q2
          dsimp only at q2
          cases e6 : atI ws j with
          | none => rw [e6] at q2; exact q2.elim
          | some u =>
            rw [e6] at q2
            cases ra_int ry
            obtain ⟨n, e4, e5'⟩ := atI_some e6
            obtain ⟨v0, e7, r2⟩ := r1.get e5'
            refine ⟨p, vs, j, v0, rfl, rfl, SqL.of h1', atI_of r1.length e4 e7, ts_bd ok2 sl2 q2 fun v w h3 B3 ρ3 H3 rv ok3 sl3 g3 q3 => ?_⟩
            refine og Z B3 ρ3 H3 h3 v0 v u w _ _ ok3 (r2.mono g3) rv ((q3.sb sl3).imp fun z h4 B4 ρ4 H4 ok4 g4 q4 zv rz => ?_)
            split at q4
            · rename_i hl4
              split at q4
              · rename_i h5 e8
                unfold isLst at hl4
                dsimp only at hl4
                split at hl4
                · rename_i ws4 e9
                  unfold putA at e8
                  dsimp only at e8
                  rw [e9] at e8
                  dsimp only at e8
                  split at e8
                  · rename_i n4 e10
                    cases e8
                    obtain ⟨p4, vs4, ep, hr4, h4', r4, up4⟩ := cell_lst ok4 (rx2.mono (g3.trans g4)) e9
                    cases ep
                    exact ⟨p, vs4, j, n4, rfl, rfl, h4', by rw [r4.length]; exact e10, q4.nx1 (up4 _ _ (r4.set n4 rz)) (sl3.mono g4)⟩
                  · cases e8
                · cases hl4
              · exact q4.elim
            · exact q4.elim
        · exact q2.elim
      · cases hl2
    · cases hl2
  · exact q2.elim⟩
theorem rs_augD {op : Operator} {r : R2} {g : G2} (hu : X.A.units + 1 < cLine) (hop : OpR X (inplaceOp op) r) (og : Op2 X.K r g) (ho : RX X W o mo) (hi : RX X W i mi) (hv : RX X W e mv)
    (ha : ∀ ov iv new, augStore i ov iv new = (do holding [new, ov, iv] (setItem ov iv new); release [new, ov, iv] []; pure .next) := by intro _ _ _; rfl) : RS X W (.AugAssign (.Subscript o i tpos) op e pos) (mAugI false g mo mi mv) := ⟨ps_imp (ps_daug hu ho.pe hi.pe hv.pe (fun pins s σ H x y u v Q I rx ry h => hop pins s σ H x y u v Q I rx ry h) ha) fun D σ H q => by
  obtain ⟨Z, B, ρ, τ, h, ok, sl, q⟩ := q
  refine ts_bd ok sl q fun x a h1 B1 ρ1 H1 rx ok1 sl1 g1 q1 => ts_bd ok1 sl1 q1 fun y kd h2 B2 ρ2 H2 ry ok2 sl2 g2 q2 => ?_
  rw [if_neg (by simp)] at q2
  · unfold gGetD at q2
    split at q2
    · rename_i hd ws e5
      split at q2
      · rename_i u e6
        obtain ⟨p, vs, own, rfl, x1, r1⟩ := dicOf_ra ok2 (rx.mono g2) e5
        obtain ⟨v0, gg, r2⟩ := (hGet_ok ok2 x1 r1 ry e6).2 u rfl
        refine ⟨p, v0, rfl, gg, ts_bd ok2 sl2 q2 fun v w h3 B3 ρ3 H3 rv ok3 sl3 g3 q3 => ?_⟩
        refine og Z B3 ρ3 H3 h3 v0 v u w _ _ ok3 (r2.mono g3) rv ((q3.sb sl3).imp fun z h4 B4 ρ4 H4 ok4 g4 q4 zv rz => ?_)
        split at q4
        · rename_i hl4
          split at q4
          · rename_i h5 e8
            unfold putA at e8
            split at e8
            · rename_i k
              split at e8
              · rename_i ws4 e9
                unfold isLst at hl4
                dsimp only at hl4
                rw [e9] at hl4
                cases hl4
              · rename_i hd4 ws4 e9
                split at e8
                · rename_i hd' ws' e10
                  cases e8
                  obtain ⟨p4, vs4, own4, ep, hr4, x4, r4, up4⟩ := cell_nd ok4 (rx.mono (g2.trans (g3.trans g4))) e9
                  cases ep
                  obtain ⟨o', vs', d1, d2, d3, d4⟩ := hPut_ok ok4 x4 r4 (ry.mono (g3.trans g4)) rz e10
                  exact ⟨_, d1, q4.nx1 (up4 _ _ _ _ d3 d4) (sl3.mono g4)⟩
                · cases e8
              · cases e8
            · cases e8
          · exact q4.elim
        · exact q4.elim
      · exact q2.elim
    · exact q2.elim⟩
end
end Tq

/-! Tq8: fields, instances, calls, defs. -/
namespace Tq
open PySem PySem.Spec PyProof.Rows L2

/-! ### fields -/
/-- classes of the text: the names of their instances' fields -/
abbrev FTab := List (Str × List Str)
def fOk (T : FTab) (C f : Str) : Bool := T.any fun p => decide (p.1 = C) && decide (f ∈ p.2)
structure ClsT (K : PySem.W.Frag) (T : FTab) : Prop where
  at_ : ∀ C f, fOk T C f = true → ∃ ca, glAt K C = some ca ∧ Cls K ca ∧ NoAttr K ca f
theorem clsT_nil {K : PySem.W.Frag} : ClsT K [] := ⟨fun _ _ h => by cases h⟩
theorem clsT_cons {K : PySem.W.Frag} {C : Str} {fs : List Str} {ca : Addr} {T : FTab} (h0 : glAt K C = some ca) (h1 : Cls K ca) (h2 : ∀ f ∈ fs, NoAttr K ca f) (h3 : ClsT K T) : ClsT K ((C, fs) :: T) := ⟨fun D f h => by
  unfold fOk at h
  rw [List.any_cons, Bool.or_eq_true] at h
  rcases h with h | h
  · rw [Bool.and_eq_true] at h
    have e : C = D := of_decide_eq_true h.1
    subst e
    exact ⟨ca, h0, h1, h2 f (of_decide_eq_true h.2)⟩
  · exact h3.at_ D f h⟩
def fGet (f : Str) : List Str → List A → Option A
  | g :: fs, w :: ws => if g = f then some w else fGet f fs ws
  | _, _ => none
def fPut (f : Str) (w : A) : List Str → List A → List Str × List A
  | g :: fs, u :: ws => if g = f then (g :: fs, w :: ws) else (g :: (fPut f w fs ws).1, u :: (fPut f w fs ws).2)
  | fs, _ => if fs = [] then ([f], [w]) else (fs, [])
section
variable {K : PySem.W.Frag} {B : Hp} {ρ : Nat → Option Addr}
theorem fGet_ok {f : Str} : ∀ {fs : List Str} {vs : List V} {ws : List A} {w : A}, RAL K B ρ vs ws → fGet f fs ws = some w → ∃ v, (fs.zip vs).lookup f = some v ∧ RA K B ρ v w
  | [], _, _, _, r, h => by cases r <;> cases h
  | g :: fs, _, _, _, .nil, h => by cases h
  | g :: fs, _, _, w, .cons (v := v) r rl, h => by
    unfold fGet at h
    split at h
    · rename_i e
      cases h
      subst e
      exact ⟨v, by simp, r⟩
    · rename_i e
      obtain ⟨u, h1, h2⟩ := fGet_ok (fs := fs) rl h
      refine ⟨u, ?_, h2⟩
      rw [List.zip_cons_cons, List.lookup_cons]
      have : (f == g) = false := by simpa using Ne.symm e
      rw [this]
      exact h1
theorem fPut_ok {f : Str} {v : V} {w : A} (rv : RA K B ρ v w) : ∀ {fs : List Str} {vs : List V} {ws : List A}, RAL K B ρ vs ws → fs.length = vs.length →
    ∃ vs', putF f v (fs.zip vs) = (fPut f w fs ws).1.zip vs' ∧ (fPut f w fs ws).1.length = vs'.length ∧ RAL K B ρ vs' (fPut f w fs ws).2
  | [], _, _, r, e => by
    cases r with
    | nil => exact ⟨[v], by simp [fPut, putF], by simp [fPut], by simpa [fPut] using RAL.cons rv .nil⟩
    | cons _ _ => simp at e
  | g :: fs, _, _, .nil, e => by simp at e
  | g :: fs, _, _, .cons (v := u) (vs := vr) (w := s) (ws := sr) w0 wl, e => by
    obtain ⟨vs', h1, h2, h3⟩ := fPut_ok (f := f) rv (fs := fs) wl (by simpa using e)
    by_cases z : g = f
    · refine ⟨v :: vr, ?_, ?_, ?_⟩
      · simp [fPut, putF, z]
      · simp [fPut, z]; simpa using e
      · simp only [fPut, if_pos z]; exact .cons rv wl
    · refine ⟨u :: vs', ?_, ?_, ?_⟩
      · simp only [fPut, if_neg z, List.zip_cons_cons, putF]
        rw [h1]
      · simp [fPut, z, h2]
      · simp only [fPut, if_neg z]; exact .cons w0 h3
end
def gFld (T : FTab) (f : Str) : G1 := fun a h => match dicOf h a with
  | some (.ins C fs, ws) => if fOk T C f = true then (match fGet f fs ws with | some w => some (.ok w h) | none => none) else none
  | _ => none
/-- o.f = e: value, object -/
def mSetF (T : FTab) (f : Str) (mo mv : E A) : MS := fun τ h => sb τ (mv τ h) fun w h1 => sb τ (mo τ h1) fun a h2 => match a with
  | .r k => (match h2[k]? with
    | some (.nd (.ins C fs) ws) => if fOk T C f = true ∧ fs.length < 1000 then some (.nx τ (h2.set k (.nd (.ins C (fPut f w fs ws).1) (fPut f w fs ws).2))) else none
    | _ => none)
  | _ => none
/-- o.f op= e: object, what is there, value -/
def mAugF (T : FTab) (f : Str) (g : G2) (mo mv : E A) : MS := fun τ h => sb τ (mo τ h) fun a h1 => sb τ (gFld T f a h1) fun u h1' => sb τ (mv τ h1') fun w h2 => sb τ (g u w h2) fun z h3 => match a with
  | .r k => (match h1[k]?, h3[k]? with
    | some (.nd (.ins C _) _), some (.nd (.ins C' fs) ws) => if C = C' ∧ fOk T C f = true ∧ fs.length < 1000 then some (.nx τ (h3.set k (.nd (.ins C (fPut f z fs ws).1) (fPut f z fs ws).2))) else none
    | _, _ => none)
  | _ => none
theorem zip_len {κ : Type} {fs : List κ} {vs : List V} (h : fs.length = vs.length) : (fs.zip vs).length = fs.length := by rw [List.length_zip, h, Nat.min_self]
section
variable {X : Cx} {W : WX} {T : FTab} {o e : Expr} {mo mv : E A} {f : Str} {pos pos' tpos : Pos}
theorem rx_fld (hT : ClsT X.K T) (ho : RX X W o mo) (hb : attributeBase o f X.env (eval o X.env) = eval o X.env := by rfl) : RX X W (.Attribute o f pos) (mUn (gFld T f) mo) := ⟨pe_imp (pe_fld ho.pe hb) fun σ H Q q => by
  obtain ⟨Z, B, ρ, τ, h, ok, sl, q⟩ := q
  refine te_bd ok sl q fun x a h1 B1 ρ1 H1 rx ok1 sl1 g1 q1 => ?_
  unfold gFld at q1
  split at q1
  · rename_i C fs ws e1
    split at q1
    · rename_i hf
      split at q1
      · rename_i w e2
        obtain ⟨ca, c1, c2, c3⟩ := hT.at_ C f hf
        obtain ⟨p, vs, own, rfl, x1, r1⟩ := dicOf_ra ok1 rx e1
        cases x1 with
        | ins i0 i1 i2 i3 =>
          rw [c1] at i0
          cases i0
          obtain ⟨v, k1, k2⟩ := fGet_ok r1 e2
          exact ⟨p, ca, _, _, v, rfl, i1, c2, c3, k1, q1.now ok1 _ k2⟩
      · exact q1.elim
    · exact q1.elim
  · exact q1.elim⟩
theorem rs_setF (hT : ClsT X.K T) (ho : RX X W o mo) (hv : RX X W e mv) (hs : swapsWith e (some (.Attribute o f pos')) pos.line X.env = pure false := by rfl) : RS X W (.Assign [.Attribute o f pos'] e pos) (mSetF T f mo mv) := ⟨ps_imp (ps_fld ho.pe hv.pe hs) fun D σ H q => by
  obtain ⟨Z, B, ρ, τ, h, ok, sl, q⟩ := q
  refine ts_bd ok sl q fun v w h1 B1 ρ1 H1 rv ok1 sl1 g1 q1 => ts_bd ok1 sl1 q1 fun x a h2 B2 ρ2 H2 rx ok2 sl2 g2 q2 => ?_
  split at q2
  · rename_i k
    split at q2
    · rename_i C fs ws e1
      split at q2
      · rename_i hf
        obtain ⟨ca, c1, c2, c3⟩ := hT.at_ C f hf.1
        obtain ⟨p, vs, own, rfl, hr, x1, r1, up⟩ := cell_nd ok2 rx e1
        cases x1 with
        | ins i0 i1 i2 i3 =>
          rw [c1] at i0
          cases i0
          obtain ⟨vs', d1, d2, d3⟩ := fPut_ok (f := f) (rv.mono g2) r1 i3
          refine ⟨p, ca, _, _, rfl, i1, c2, c3, by rw [zip_len i3]; exact hf.2, q2.nx1 (up _ _ vs' _ ?_ d3) sl2⟩
          exact .ins c1 (by rw [upd_same, d1]) (by rw [upd_ne fun z => by rw [z, i1] at i2; cases i2]; exact i2) d2
      · exact q2.elim
    · exact q2.elim
  · exact q2.elim⟩
theorem rs_augF {op : Operator} {r : R2} {g : G2} (hT : ClsT X.K T) (hop : OpR X (inplaceOp op) r) (og : Op2 X.K r g) (ho : RX X W o mo) (hv : RX X W e mv) : RS X W (.AugAssign (.Attribute o f tpos) op e pos) (mAugF T f g mo mv) := ⟨ps_imp (ps_fldaug ho.pe hv.pe (fun pins s σ H x y u v Q I rx ry h => hop pins s σ H x y u v Q I rx ry h)) fun D σ H q => by
  obtain ⟨Z, B, ρ, τ, h, ok, sl, q⟩ := q
  refine ts_bd ok sl q fun x a h1 B1 ρ1 H1 rx ok1 sl1 g1 q1 => ?_
  unfold gFld at q1
  split at q1
  · rename_i C fs ws e1
    split at q1
    · rename_i hf
      split at q1
      · rename_i u e2
        obtain ⟨ca, c1, c2, c3⟩ := hT.at_ C f hf
        obtain ⟨p, vs, own, rfl, x1, r1⟩ := dicOf_ra ok1 rx e1
        cases x1 with
        | ins i0 i1 i2 i3 =>
          rw [c1] at i0
          cases i0
          obtain ⟨v0, k1, k2⟩ := fGet_ok r1 e2
          refine ⟨p, ca, _, _, v0, rfl, i1, c2, c3, k1, ts_bd ok1 sl1 q1 fun v w h2 B2 ρ2 H2 rv ok2 sl2 g2 q2 => ?_⟩
          refine og Z B2 ρ2 H2 h2 v0 v u w _ _ ok2 (k2.mono g2) rv ((q2.sb sl2).imp fun z h3 B3 ρ3 H3 ok3 g3 q3 zv rz => ?_)
          split at q3
          · rename_i k
            split at q3
            · rename_i C1 fs1 ws1 C2 fs2 ws2 e3 e4
              split at q3
              · rename_i hc
                obtain ⟨rfl, hf2, hl⟩ := hc
                have eC : C1 = C := by
                  unfold dicOf at e1
                  dsimp only at e1
                  rw [e3] at e1
                  cases e1
                  rfl
                subst eC
                obtain ⟨p4, vs4, own4, ep, hr4, x4, r4, up⟩ := cell_nd ok3 (rx.mono (g2.trans g3)) e4
                cases ep
                cases x4 with
                | ins j0 j1 j2 j3 =>
                  rw [c1] at j0
                  cases j0
                  obtain ⟨vs', d1, d2, d3⟩ := fPut_ok (f := f) rz r4 j3
                  refine ⟨_, _, j1, by rw [zip_len j3]; exact hl, q3.nx1 (up _ _ vs' _ ?_ d3) (sl2.mono g3)⟩
                  exact .ins c1 (by rw [upd_same, d1]) (by rw [upd_ne fun z => by rw [z, j1] at j2; cases j2]; exact j2) d2
              · exact q3.elim
            · exact q3.elim
          · exact q3.elim
      · exact q1.elim
    · exact q1.elim
  · exact q1.elim⟩
end

/-! ### promises -/
abbrev Sem1 := List A → Hq → Option (Rs A)
def spQ (K : PySem.W.Frag) (np : Nat) (sem : Sem1) : Sp := fun vs H Q Ex => vs.length = np ∧ ∃ Z B ρ h ws, Ok K Z B ρ H h ∧ RAL K B ρ vs ws ∧ Post K Z Ex B ρ (fun w _ B' ρ' H' => ∀ v, RA K B' ρ' v w → Q v H') (sem ws h)
def startT (n : Nat) (ws : List A) : Sl := ws.map some ++ List.replicate (n - ws.length) none
def runB (np n : Nat) (m : MS) : Sem1 := fun ws h => if ws.length = np then (match m (startT n ws) h with
  | some (.rt w h') => some (.ok w h')
  | some (.nx _ h') => some (.ok (.d .non) h')
  | some (.ex x _ h') => some (.ex x h')
  | _ => none) else none
theorem slok_start {K : PySem.W.Frag} {B : Hp} {ρ : Nat → Option Addr} {vs : List V} {ws : List A} (N : List Str) (r : RAL K B ρ vs ws) : SlOk K B ρ (L2.start N vs) (startT N.length ws) := by
  unfold L2.start startT
  refine ⟨by simp [r.length], fun i w e => ?_⟩
  by_cases hi : i < ws.length
  · rw [List.getElem?_append_left (by simpa using hi), List.getElem?_map] at e
    cases z : ws[i]? with
    | none => rw [z] at e; cases e
    | some u =>
      rw [z] at e
      cases e
      obtain ⟨v, h1, h2⟩ := r.get z
      exact ⟨v, by rw [List.getElem?_append_left (by simpa [r.length] using hi), List.getElem?_map, h1]; rfl, h2⟩
  · rw [List.getElem?_append_right (by simpa using Nat.le_of_not_lt hi), List.getElem?_replicate] at e
    split at e <;> cases e
theorem runB_post {K : PySem.W.Frag} {Z B : Hp} {ρ : Nat → Option Addr} {Ex : XK} {Q : VK} {np n : Nat} {m : MS} {ws : List A} {h : Hq} (q : Post K Z Ex B ρ (fun w _ B' ρ' H' => ∀ v, RA K B' ρ' v w → Q v H') (runB np n m ws h)) :
    PostS K Z (fun c d _ H' => Ex c d H') B ρ { nx := fun _ H' => Q .non H', rt := Q } (m (startT n ws) h) := by
  unfold runB at q
  split at q
  · split at q
    · rename_i w h' e
      rw [e]
      exact fun v B' ρ' H' rv ok g => q B' ρ' H' ok g v rv
    · rename_i τ h' e
      rw [e]
      exact fun σ' B' ρ' H' ok sl g => q B' ρ' H' ok g .non (.d .non)
    · rename_i x τ h' e
      rw [e]
      exact fun σ' B' ρ' H' cls d ok sl g xc => q B' ρ' H' cls d ok g xc
    · exact q.elim
  · exact q.elim
structure Src (K : PySem.W.Frag) (mg : Str → Option Value) (x : Str) (st : Stmt) (ps : List Str) : Prop where
  ex : ∃ (fa : Addr) (fd : FuncData), Fun K x x st fa fd ∧ mg x = some (.ref fa) ∧ Binds K fd ps []
structure Def (P : Program) (w : World) (K : PySem.W.Frag) (mg : Str → Option Value) (base : Heap) (k : Nat) (x : Str) (ps : List Str) (sem : Sem1) : Prop where
  ex : ∃ (fa : Addr) (fd : FuncData), FnOk P w K mg base (L2.CX P w) k fa fd ps (spQ K ps.length sem) ∧ mg x = some (.ref fa) ∧ PySem.W.keepIn K (.ref fa) = true ∧ Binds K fd ps []
/-- a method -/
structure SrcM (K : PySem.W.Frag) (C m : Str) (st : Stmt) (ps : List Str) (qual : Str) : Prop where
  ex : ∃ (ca fa : Addr) (fd : FuncData), glAt K C = some ca ∧ Cls K ca ∧ Meth K ca m fa ∧ Fun K m qual st fa fd ∧ Binds K fd ps []
structure DefM (P : Program) (w : World) (K : PySem.W.Frag) (mg : Str → Option Value) (base : Heap) (k : Nat) (C m : Str) (ps : List Str) (sem : Sem1) : Prop where
  ex : ∃ (ca fa : Addr) (fd : FuncData), glAt K C = some ca ∧ Cls K ca ∧ Meth K ca m fa ∧ FnOk P w K mg base (L2.CX P w) k fa fd ps (spQ K ps.length sem) ∧ Binds K fd ps []
/-- a class with its __init__ -/
structure MkC (K : PySem.W.Frag) (mg : Str → Option Value) (C : Str) : Prop where
  ex : ∃ ca fa, glAt K C = some ca ∧ mg C = some (.ref ca) ∧ Mk K ca fa ∧ PySem.W.findIn K (.ref ca) "__init__" = some (some (.ref fa))
section
variable {Pr : Program} {w : World} {K : PySem.W.Frag} {mg : Str → Option Value} {base : Heap}
theorem fn_trX {x qual : Str} {st : Stmt} {fa : Addr} {fd : FuncData} {N ps : List Str} {k : Nat} {sem : Sem1} (m : MS) (F : Fun K x qual st fa fd) (Sc : FnScope N ps (defScope st)) (hsem : ∀ ws h r, sem ws h = some r → runB ps.length N.length m ws h = some r)
    (hb : ∀ (cdv : Value) (A : Around) (outer : List Env) (s : Shared) (H : Hp) (Ex : XK), Room k (A.deeper (envOfC qual (defScope st) s.heap.objs.size fa cdv)) →
      Takes (cxOf (L2.CX Pr w) Pr w K mg base N qual (defScope st) fa cdv A outer s H Ex) (fun c d _ H' => Ex c d H') →
      PassesOwn (model Pr w) (cxOf (L2.CX Pr w) Pr w K mg base N qual (defScope st) fa cdv A outer s H Ex).A (cxOf (L2.CX Pr w) Pr w K mg base N qual (defScope st) fa cdv A outer s H Ex).env (cxOf (L2.CX Pr w) Pr w K mg base N qual (defScope st) fa cdv A outer s H Ex).xe →
      RSs (cxOf (L2.CX Pr w) Pr w K mg base N qual (defScope st) fa cdv A outer s H Ex) (fun c d _ H' => Ex c d H') (defBody st) m) : FnOk Pr w K mg base (L2.CX Pr w) (k + 1) fa fd ps (spQ K ps.length sem) := by
  refine F.okX Sc (fun vs H Q Ex h => h.1) (fun cdv A outer s H vs Q Ex hr h => ?_)
  obtain ⟨hl, Z, B, ρ, h0, ws, ok, r, q⟩ := h
  refine ⟨_, (hb cdv A outer s H Ex hr (takes_of rfl rfl rfl rfl) (passes_of rfl)).ps, Z, B, ρ, startT N.length ws, h0, ok, slok_start _ r, ?_⟩
  have q2 : Post K Z Ex B ρ (fun w _ B' ρ' H' => ∀ v, RA K B' ρ' v w → Q v H') (runB ps.length N.length m ws h0) := by
    cases e : sem ws h0 with
    | none => rw [e] at q; exact q.elim
    | some r => rw [e] at q; rw [hsem ws h0 r e]; exact q
  exact runB_post q2
theorem def_tr {x : Str} {st : Stmt} {N ps : List Str} {k : Nat} {sem : Sem1} (S : Src K mg x st ps) (Sc : FnScope N ps (defScope st)) (m : MS)
    (hb : ∀ (fa : Addr) (cdv : Value) (A : Around) (outer : List Env) (s : Shared) (H : Hp) (Ex : XK), Room k (A.deeper (envOfC x (defScope st) s.heap.objs.size fa cdv)) →
      Takes (cxOf (L2.CX Pr w) Pr w K mg base N x (defScope st) fa cdv A outer s H Ex) (fun c d _ H' => Ex c d H') →
      PassesOwn (model Pr w) (cxOf (L2.CX Pr w) Pr w K mg base N x (defScope st) fa cdv A outer s H Ex).A (cxOf (L2.CX Pr w) Pr w K mg base N x (defScope st) fa cdv A outer s H Ex).env (cxOf (L2.CX Pr w) Pr w K mg base N x (defScope st) fa cdv A outer s H Ex).xe →
      RSs (cxOf (L2.CX Pr w) Pr w K mg base N x (defScope st) fa cdv A outer s H Ex) (fun c d _ H' => Ex c d H') (defBody st) m)
    (hsem : ∀ ws h r, sem ws h = some r → runB ps.length N.length m ws h = some r := by exact fun _ _ _ h => h) : Def Pr w K mg base (k + 1) x ps sem := by
  obtain ⟨fa, fd, F, hm', hbd⟩ := S.ex
  exact ⟨fa, fd, fn_trX m F Sc hsem (fun cdv A outer s H Ex hr => hb fa cdv A outer s H Ex hr), hm', F.kp, hbd⟩
theorem defM_tr {C mn qual : Str} {st : Stmt} {N ps : List Str} {k : Nat} {sem : Sem1} (S : SrcM K C mn st ps qual) (Sc : FnScope N ps (defScope st)) (m : MS)
    (hb : ∀ (fa : Addr) (cdv : Value) (A : Around) (outer : List Env) (s : Shared) (H : Hp) (Ex : XK), Room k (A.deeper (envOfC qual (defScope st) s.heap.objs.size fa cdv)) →
      Takes (cxOf (L2.CX Pr w) Pr w K mg base N qual (defScope st) fa cdv A outer s H Ex) (fun c d _ H' => Ex c d H') →
      PassesOwn (model Pr w) (cxOf (L2.CX Pr w) Pr w K mg base N qual (defScope st) fa cdv A outer s H Ex).A (cxOf (L2.CX Pr w) Pr w K mg base N qual (defScope st) fa cdv A outer s H Ex).env (cxOf (L2.CX Pr w) Pr w K mg base N qual (defScope st) fa cdv A outer s H Ex).xe →
      RSs (cxOf (L2.CX Pr w) Pr w K mg base N qual (defScope st) fa cdv A outer s H Ex) (fun c d _ H' => Ex c d H') (defBody st) m)
    (hsem : ∀ ws h r, sem ws h = some r → runB ps.length N.length m ws h = some r := by exact fun _ _ _ h => h) : DefM Pr w K mg base (k + 1) C mn ps sem := by
  obtain ⟨ca, fa, fd, h1, h2, h3, F, hbd⟩ := S.ex
  exact ⟨ca, fa, fd, h1, h2, h3, fn_trX m F Sc hsem (fun cdv A outer s H Ex hr => hb fa cdv A outer s H Ex hr), hbd⟩
/-- the law itself: nothing is let out -/
theorem fn_tr0 {x qual : Str} {st : Stmt} {fa : Addr} {fd : FuncData} {N ps : List Str} {k : Nat} {sem : Sem1} (m : MS) (F : Fun K x qual st fa fd) (Sc : FnScope N ps (defScope st)) (hsem : ∀ ws h r, sem ws h = some r → runB ps.length N.length m ws h = some r)
    (hb : ∀ (cdv : Value) (A : Around) (outer : List Env) (s : Shared) (H : Hp) (Ex : XK), Room k (A.deeper (envOfC qual (defScope st) s.heap.objs.size fa cdv)) →
      Takes (cxOf CX0 Pr w K mg base N qual (defScope st) fa cdv A outer s H Ex).nox W0 →
      PassesOwn (model Pr w) (cxOf CX0 Pr w K mg base N qual (defScope st) fa cdv A outer s H Ex).nox.A (cxOf CX0 Pr w K mg base N qual (defScope st) fa cdv A outer s H Ex).nox.env (cxOf CX0 Pr w K mg base N qual (defScope st) fa cdv A outer s H Ex).nox.xe →
      RSs (cxOf CX0 Pr w K mg base N qual (defScope st) fa cdv A outer s H Ex).nox W0 (defBody st) m) : FnOk Pr w K mg base CX0 (k + 1) fa fd ps (fun vs H Q _ => spQ K ps.length sem vs H Q E0) := by
  refine F.ok Sc (fun vs H Q Ex h => h.1) (fun cdv A outer s H vs Q Ex hr h => ?_)
  obtain ⟨hl, Z, B, ρ, h0, ws, ok, r, q⟩ := h
  refine ⟨_, (hb cdv A outer s H Ex hr takes0 PassesOwn.never).ps, Z, B, ρ, startT N.length ws, h0, ok, slok_start _ r, ?_⟩
  have q2 : Post K Z E0 B ρ (fun w _ B' ρ' H' => ∀ v, RA K B' ρ' v w → Q v H') (runB ps.length N.length m ws h0) := by
    cases e : sem ws h0 with
    | none => rw [e] at q; exact q.elim
    | some r => rw [e] at q; rw [hsem ws h0 r e]; exact q
  exact runB_post q2
theorem def_none {x : Str} {st : Stmt} {ps : List Str} {k : Nat} (S : Src K mg x st ps) : Def Pr w K mg base k x ps (fun _ _ => none) := by
  obtain ⟨fa, fd, F, hm', hbd⟩ := S.ex
  refine ⟨fa, fd, ⟨fun vs H Q Ex h => ?_, fun A outer s H args us vs Q Ex hr he hb hv h => ?_⟩, hm', F.kp, hbd⟩
  · obtain ⟨_, _, _, _, _, _, _, _, e⟩ := h
    exact e.elim
  · obtain ⟨_, _, _, _, _, _, _, _, e⟩ := h
    exact e.elim
theorem Def.mono {x : Str} {ps : List Str} {j k : Nat} {sem : Sem1} (D : Def Pr w K mg base j x ps sem) (h : j ≤ k) : Def Pr w K mg base k x ps sem := by
  obtain ⟨fa, fd, F, h1, h2, h3⟩ := D.ex
  exact ⟨fa, fd, F.mono h, h1, h2, h3⟩
end

/-! ### calls -/
def Xc.fz (h : Hq) : Xc → Option Xc
  | .own C => some (.own C)
  | .fld C f w => (view h w).map fun d => .fld C f (.d d)
  | .blt T => some (.blt T)
/-- with the whole heap -/
def mCall (sem : Sem1) (mr : E (List A)) : E A := fun τ h => bd (mr τ h) fun ws h1 => sem ws h1
/-- with no cell in sight: the answer is data -/
def callP (sem : Sem1) (ws : List A) (h1 : Hq) : Option (Rs A) := match mapMn (view h1) ws with
  | some ds => (match sem (ds.map A.d) [] with
    | some (.ok w h') => (match view h' w with | some d => if (allD ws).isSome || d.flat then some (.ok (.d d) h1) else none | none => none)
    | some (.ex x h') => if (allD ws).isSome then (match x.fz h' with | some x' => some (.ex x' h1) | none => none) else none
    | none => none)
  | none => none
def mCallP (sem : Sem1) (mr : E (List A)) : E A := fun τ h => bd (mr τ h) fun ws h1 => callP sem ws h1
section
variable {K : PySem.W.Frag} {Z B H : Hp} {ρ : Nat → Option Addr} {h : Hq}
/-- nobody's cells: what is there stands aside -/
theorem Ok.void (ok : Ok K Z B ρ H h) : Ok K H B (fun _ => none) H [] := ⟨ok.ex, fun _ _ e => e, (fun k o e => by simp at e), (fun _ _ _ e => by cases e), (fun _ _ e => by cases e), fun _ _ => rfl⟩
theorem Ok.voidH (ok : Ok K Z B ρ H h) : Ok K H H (fun _ => none) H [] := ⟨fun _ _ e => e, fun _ _ e => e, (fun k o e => by simp at e), (fun _ _ _ e => by cases e), (fun _ _ e => by cases e), fun _ _ => rfl⟩
/-- back from a call without cells: all that is new is frozen -/
theorem Ok.backP (ok : Ok K Z B ρ H h) {B' H' : Hp} {ρ' : Nat → Option Addr} {h' : Hq} (ok' : Ok K H B' ρ' H' h') (g : Gr H B (fun _ => none) B' ρ') :
    ∃ B2, Ok K Z B2 ρ H' h ∧ Gr Z B ρ B2 ρ ∧ (∀ v w d, RA K B' ρ' v w → view h' w = some d → Rp K B2 v d) := by
  let B2 : Hp := fun a => if H a = none then H' a else B a
  have s0 : Same H H' := ok'.zz
  have zn : ∀ a, H a = none → Z a = none := fun a e => by
    cases z : Z a with
    | none => rfl
    | some u => rw [ok.zz a u z] at e; cases e
  have bn : ∀ a, H a = none → B a = none := fun a e => by
    cases z : B a with
    | none => rfl
    | some u => rw [ok.ex a u z] at e; cases e
  have b1 : Same B B2 := fun a o e => by
    show (if H a = none then H' a else B a) = some o
    rw [if_neg (by rw [ok.ex a o e]; simp)]
    exact e
  have b2 : Same B2 H' := fun a o e => by
    have e : (if H a = none then H' a else B a) = some o := e
    split at e
    · exact e
    · exact s0 _ _ (ok.ex a o e)
  have b3 : ∀ a, H a ≠ none → B2 a = B a := fun a e => if_neg e
  have b4 : Same B' B2 := fun a o e => by
    by_cases z : B a = none
    · have hz := g.fz a z (by rw [e]; simp)
      show (if H a = none then H' a else B a) = some o
      rw [if_pos hz]
      exact ok'.ex a o e
    · cases y : B a with
      | none => exact absurd y z
      | some u =>
        have := g.bb a u y
        rw [e] at this
        cases this
        exact b1 a o y
  have gg : Gr Z B ρ B2 ρ := ⟨b1, fun _ _ e => e, fun a e e' => by
    by_cases z : H a = none
    · exact zn a z
    · rw [b3 a z] at e'; exact absurd e e'⟩
  refine ⟨B2, ⟨b2, fun a o e => s0 _ _ (ok.zz a o e), fun k c e => ?_, ok.nj, fun k a e => ?_, ok.up⟩, gg, fun v w d r e => vw_at ok' b4 (fun b hz hb u hu => ?_) _ v w d r e⟩
  · obtain ⟨a, h1, h2⟩ := ok.ce k c e
    refine ⟨a, h1, ?_⟩
    cases h2 with
    | lst e1 e2 e3 e4 => exact .lst (s0 _ _ e1) (e2.mono gg) (by rw [b3 a (by rw [e1]; simp)]; exact e3) e4
    | nd e1 e2 e3 => exact .nd (e1.to fun b _ u e => s0 _ _ e) (e2.mono gg) fun b hb => ⟨by rw [b3 b (e1.own_or.2.2.1 b hb)]; exact (e3 b hb).1, (e3 b hb).2⟩
    | dead e1 => exact .dead e1
  · have := ok.al k a e
    cases z : H a with
    | none => exact absurd z this
    | some u => rw [s0 _ _ z]; simp
  · show (if H b = none then H' b else B b) = some u
    rw [if_pos hz]
    exact hu
theorem rpl_views (ok : Ok K Z B ρ H h) {vs : List V} {ws : List A} {ds : List D} (r : RAL K B ρ vs ws) (e : mapMn (view h) ws = some ds) : RpL K H vs ds := vws_of (fun v w d rv ev => ok.see rv ev) r e
theorem allD_view {h : Hq} {ws : List A} {ds es : List D} (e : allD ws = some ds) (e2 : mapMn (view h) ws = some es) : ds = es := by
  cases allD_of e
  rw [mapMn_d _ _ (vw_d 32 h)] at e2
  exact Option.some.inj e2
theorem callP_ok {W : XK} {Q : VK} {sem : Sem1} {vs : List V} {ws : List A} {np : Nat} (ok : Ok K Z B ρ H h) (r : RAL K B ρ vs ws) (hl : ws.length = np)
    (q : Post K Z W B ρ (fun w _ B' ρ' H' => ∀ v, RA K B' ρ' v w → Q v H') (callP sem ws h)) : spQ K np sem vs H Q W := by
  refine ⟨by rw [r.length]; exact hl, ?_⟩
  unfold callP at q
  split at q
  · rename_i ds e1
    cases e0 : allD ws with
    | some ds' =>
      have := allD_view e0 e1
      subst this
      cases allD_of e0
      refine ⟨H, B, fun _ => none, [], ds'.map A.d, ok.void, ral_ds (ral_rpl r), ?_⟩
      split at q
      · rename_i w h' e2
        rw [e2]
        intro B' ρ' H' ok' g v rv
        split at q
        · rename_i d e3
          split at q
          · obtain ⟨B2, o2, g2, see⟩ := ok.backP ok' g
            exact q B2 ρ H' o2 g2 v (.d (see v w d rv e3))
          · exact q.elim
        · exact q.elim
      · rename_i x h' e2
        rw [e2]
        intro B' ρ' H' cls dd ok' g xc
        rw [e0] at q
        dsimp only [Option.isSome] at q
        rw [if_pos rfl] at q
        split at q
        · rename_i x' e3
          obtain ⟨B2, o2, g2, see⟩ := ok.backP ok' g
          refine q B2 ρ H' cls dd o2 g2 ?_
          cases xc with
          | own c => cases e3; exact .own c
          | fld c1 c2 c3 =>
            obtain ⟨d, e4, rfl⟩ := Option.map_eq_some_iff.mp e3
            exact .fld c1 c2 (.d (see _ _ _ c3 e4))
          | blt => cases e3; exact .blt
        · exact q.elim
      · exact q.elim
    | none =>
      refine ⟨H, H, fun _ => none, [], ds.map A.d, ok.voidH, ral_ds (rpl_views ok r e1), ?_⟩
      rw [e0] at q
      split at q
      · rename_i w h' e2
        rw [e2]
        intro B' ρ' H' ok' g v rv
        split at q
        · rename_i d e3
          split at q
          · rename_i hf
            have hf : d.flat = true := by simpa using hf
            have see := ok'.see rv e3
            have o2 := ok.grow ok'.zz
            exact q B ρ H' o2 Gr.refl v (.d (rp_flat see hf))
          · exact q.elim
        · exact q.elim
      · rename_i x h' e2
        exact q.elim
      · exact q.elim
  · exact q.elim
end
section
variable {X : Cx} {W : WX} {a o : Expr} {es : List Expr} {mr : E (List A)} {mo : E A} {sem : Sem1} {pos px apos : Pos} {j k : Nat} {ps : List Str}
theorem te_args {β : Type} {K : PySem.W.Frag} {σ : L2.St} {H Z B : Hp} {ρ : Nat → Option Addr} {τ : Sl} {h : Hq} {kk : List A → Hq → Option (Rs β)} {R : β → Hq → Hp → (Nat → Option Addr) → Hp → Prop} {Q : List V → Hp → Prop} (ok : Ok K Z B ρ H h) (sl : SlOk K B ρ σ τ) (q : Post K Z (fun c d H' => W c d σ H') B ρ R (bd (mr τ h) kk))
    (c : ∀ vs ws h1 B1 ρ1 H1, RAL K B1 ρ1 vs ws → Ok K Z B1 ρ1 H1 h1 → SlOk K B1 ρ1 σ τ → Gr Z B ρ B1 ρ1 → Post K Z (fun c d H' => W c d σ H') B1 ρ1 R (kk ws h1) → Q vs H1) : tAs K W mr σ H Q :=
  ⟨Z, B, ρ, τ, h, ok, sl, q.bd.imp fun ws h1 B1 ρ1 H1 ok1 g1 q1 vs r => c vs ws h1 B1 ρ1 H1 r ok1 (sl.mono g1) g1 q1⟩
/-- how many arguments: known from the text -/
def lenIs (n : Nat) (mr : E (List A)) : E (List A) := fun τ h => bd (mr τ h) fun ws h1 => if ws.length = n then some (.ok ws h1) else none
theorem rx_call {x : Str} (tk : Takes X W) (Df : Def X.prog X.w X.K X.mg X.base j x ps sem) (hr : Room k X.A) (hj : j ≤ k) (ha : RAs X W (a :: es) mr)
    (hg : Gl X x := by rfl) (hdb : (x == ("__debug__" : Str)) = false := by decide) (he : starEach (a :: es) X.env = (false, eval a X.env) :: starEach es X.env := by rfl) (hpl : (backTo pos (starEach es X.env)).any (·.1) = false := by rfl) :
    RX X W (.Call (.Name x px) (a :: es) [] pos) (mCall sem (lenIs ps.length mr)) := by
  obtain ⟨fa, fd, F, h1, h2, h3⟩ := Df.ex
  refine ⟨pe_imp (pe_callS F (hr.mono hj) hg h1 h2 h3 (fun σ => passAt tk σ) ha.pa hdb he hpl) fun σ H Q q => ?_⟩
  obtain ⟨Z, B, ρ, τ, h, ok, sl, q⟩ := q
  have q := q.bd
  unfold lenIs at q
  refine te_args ok sl q fun vs ws h1 B1 ρ1 H1 r ok1 sl1 g1 q1 => ?_
  split at q1
  · rename_i hl
    exact ⟨by rw [r.length]; exact hl, Z, B1, ρ1, h1, ws, ok1, r, q1.now ok1⟩
  · exact q1.elim
theorem rx_callP {x : Str} (tk : Takes X W) (Df : Def X.prog X.w X.K X.mg X.base j x ps sem) (hr : Room k X.A) (hj : j ≤ k) (ha : RAs X W (a :: es) mr)
    (hg : Gl X x := by rfl) (hdb : (x == ("__debug__" : Str)) = false := by decide) (he : starEach (a :: es) X.env = (false, eval a X.env) :: starEach es X.env := by rfl) (hpl : (backTo pos (starEach es X.env)).any (·.1) = false := by rfl) :
    RX X W (.Call (.Name x px) (a :: es) [] pos) (mCallP sem (lenIs ps.length mr)) := by
  obtain ⟨fa, fd, F, h1, h2, h3⟩ := Df.ex
  refine ⟨pe_imp (pe_callS F (hr.mono hj) hg h1 h2 h3 (fun σ => passAt tk σ) ha.pa hdb he hpl) fun σ H Q q => ?_⟩
  obtain ⟨Z, B, ρ, τ, h, ok, sl, q⟩ := q
  have q := q.bd
  unfold lenIs at q
  refine te_args ok sl q fun vs ws h1 B1 ρ1 H1 r ok1 sl1 g1 q1 => ?_
  split at q1
  · rename_i hl
    exact callP_ok ok1 r hl (q1.now ok1)
  · exact q1.elim
/-- of the class C, without a field m -/
def insOf (C m : Str) (a : A) (h : Hq) : Bool := match dicOf h a with
  | some (.ins C' fs, _) => decide (C' = C) && !decide (m ∈ fs)
  | _ => false
def mMeth (C m : Str) (n : Nat) (sem : Sem1) (mo : E A) (mr : E (List A)) : E A := fun τ h => bd (mo τ h) fun a h1 => if insOf C m a h1 = true then bd (mr τ h1) fun ws h2 => if ws.length + 1 = n then sem (a :: ws) h2 else none else none
def mMethP (C m : Str) (n : Nat) (sem : Sem1) (mo : E A) (mr : E (List A)) : E A := fun τ h => bd (mo τ h) fun a h1 => if insOf C m a h1 = true then bd (mr τ h1) fun ws h2 => if ws.length + 1 = n then callP sem (a :: ws) h2 else none else none
theorem lookup_none {f : Str} : ∀ {fs : List Str} {vs : List V}, f ∉ fs → (fs.zip vs).lookup f = none
  | [], _, _ => rfl
  | _ :: _, [], _ => rfl
  | g :: fs, v :: vs, h => by
    rw [List.zip_cons_cons, List.lookup_cons]
    have : (f == g) = false := by
      have : f ≠ g := fun z => h (by rw [z]; exact List.mem_cons_self ..)
      simpa using this
    rw [this]
    exact lookup_none fun z => h (List.mem_cons_of_mem _ z)
theorem insOf_ra {K : PySem.W.Frag} {Z B H : Hp} {ρ : Nat → Option Addr} {h : Hq} {C m : Str} {ca : Addr} {x : V} {a : A} (ok : Ok K Z B ρ H h) (hc : glAt K C = some ca) (r : RA K B ρ x a) (e : insOf C m a h = true) : ∃ p dx fs, x = .ref p ∧ H p = some (.ins ca dx fs) ∧ fs.lookup m = none := by
  unfold insOf at e
  split at e
  · rename_i C' fs ws e1
    rw [Bool.and_eq_true] at e
    have eC : C' = C := of_decide_eq_true e.1
    subst eC
    obtain ⟨p, vs, own, rfl, x1, r1⟩ := dicOf_ra ok r e1
    cases x1 with
    | ins i0 i1 i2 i3 =>
      rw [hc] at i0
      cases i0
      exact ⟨p, _, _, rfl, i1, lookup_none (by simpa using e.2)⟩
  · cases e
/-- o.m(..), where what is raised is wished for at the slots -/
theorem pe_methW {pl : Sem Bool} {C f : Addr} {m : Str} {fd : FuncData} {sp : Sp} {t : TA} {ta : TE} {CX : CXT} {E : L2.St → XK} (he : PE X o ta) (c : Cls X.K C) (hm : Meth X.K C m f) (F : FnOk X.prog X.w X.K X.mg X.base CX k f fd ps sp) (hr : Room k X.A) (hb : Binds X.K fd ps []) (hx : ∀ σ, PassesAt CX X σ (E σ)) (ha : PA X (a :: es) t)
    (hst : starEach (a :: es) X.env = (false, eval a X.env) :: starEach es X.env := by rfl) (hpl : (backTo pos (starEach es X.env)).any (·.1) = false := by rfl)
    (ht : eval (.Call (.Attribute o m apos) (a :: es) [] pos) X.env = (do
      let ov ← eval o X.env
      standAt apos.atName
      let (f, first) ← holding [ov] (getMethod ov m pl)
      callWith pos f first (backTo pos (starEach (a :: es) X.env)) (backToKw pos (keywordEach [] X.env))) := by rfl) :
    PE X (.Call (.Attribute o m apos) (a :: es) [] pos) (fun σ H Q => ta σ H fun x H1 => ∃ a dx fs, x = .ref a ∧ H1 a = some (.ins C dx fs) ∧ fs.lookup m = none ∧ t σ H1 fun vs H2 => sp (x :: vs) H2 Q (E σ)) := by
  refine ⟨fun pins s σ H Q I h => ?_⟩
  refine PySem.W.methodCall_KW (pl := pl) (thn (he.run pins s σ H _ I h) fun u s1 ⟨x, H1, I1, rx, a, dx, fs, ex, ea, l, q⟩ => ?_) ht
  subst ex
  obtain rfl : u = Value.ref a := rx
  refine getmeth_ok I1 ea c hm l ?_
  refine PySem.W.callWith_K (first := [.ref a]) (h₀ := X.base) I.ok.mod.kin hm.kp (thn (ha.run pos pins s1 σ H1 _ I1 q) fun us s2 ⟨vs, H2, I2, r, q2⟩ => ⟨I2.kIn, ?_⟩) hst hpl
  exact run_fnS (us := .ref a :: us) (vs := .ref a :: vs) F hr hb (hx σ) I2 (.cons rfl r) q2
theorem pe_methW0 {pl : Sem Bool} {C f : Addr} {m : Str} {fd : FuncData} {sp : Sp} {ta : TE} {CX : CXT} {E : L2.St → XK} (he : PE X o ta) (c : Cls X.K C) (hm : Meth X.K C m f) (F : FnOk X.prog X.w X.K X.mg X.base CX k f fd ps sp) (hr : Room k X.A) (hb : Binds X.K fd ps []) (hx : ∀ σ, PassesAt CX X σ (E σ))
    (ht : eval (.Call (.Attribute o m apos) [] [] pos) X.env = (do
      let ov ← eval o X.env
      standAt apos.atName
      let (f, first) ← holding [ov] (getMethod ov m pl)
      callWith pos f first (backTo pos (starEach [] X.env)) (backToKw pos (keywordEach [] X.env))) := by rfl) :
    PE X (.Call (.Attribute o m apos) [] [] pos) (fun σ H Q => ta σ H fun x H1 => ∃ a dx fs, x = .ref a ∧ H1 a = some (.ins C dx fs) ∧ fs.lookup m = none ∧ sp [x] H1 Q (E σ)) := by
  refine ⟨fun pins s σ H Q I h => ?_⟩
  refine PySem.W.methodCall_KW (pl := pl) (thn (he.run pins s σ H _ I h) fun u s1 ⟨x, H1, I1, rx, a, dx, fs, ex, ea, l, q⟩ => ?_) ht
  subst ex
  obtain rfl : u = Value.ref a := rx
  refine getmeth_ok I1 ea c hm l ?_
  exact PySem.W.callWith_K0 (first := [.ref a]) I1.kIn hm.kp (run_fnS (us := [.ref a]) (vs := [.ref a]) F hr hb (hx σ) I1 (.cons rfl .nil) q)
theorem rx_meth {C m : Str} {pl : Sem Bool} (tk : Takes X W) (Df : DefM X.prog X.w X.K X.mg X.base j C m ps sem) (hr : Room k X.A) (hj : j ≤ k) (ho : RX X W o mo) (ha : RAs X W (a :: es) mr)
    (hst : starEach (a :: es) X.env = (false, eval a X.env) :: starEach es X.env := by rfl) (hpl : (backTo pos (starEach es X.env)).any (·.1) = false := by rfl)
    (ht : eval (.Call (.Attribute o m apos) (a :: es) [] pos) X.env = (do
      let ov ← eval o X.env
      standAt apos.atName
      let (f, first) ← holding [ov] (getMethod ov m pl)
      callWith pos f first (backTo pos (starEach (a :: es) X.env)) (backToKw pos (keywordEach [] X.env))) := by rfl) : RX X W (.Call (.Attribute o m apos) (a :: es) [] pos) (mMeth C m ps.length sem mo mr) := by
  obtain ⟨ca, fa, fd, c1, c2, c3, F, hb⟩ := Df.ex
  refine ⟨pe_imp (pe_methW ho.pe c2 c3 F (hr.mono hj) hb (fun σ => passAt tk σ) ha.pa hst hpl ht) fun σ H Q q => ?_⟩
  obtain ⟨Z, B, ρ, τ, h, ok, sl, q⟩ := q
  refine te_bd ok sl q fun x w h1 B1 ρ1 H1 rx ok1 sl1 g1 q1 => ?_
  split at q1
  · rename_i hi
    obtain ⟨p, dx, fs, ex, i1, i2⟩ := insOf_ra ok1 c1 rx hi
    refine ⟨p, dx, fs, ex, i1, i2, te_args ok1 sl1 q1 fun vs ws h2 B2 ρ2 H2 r ok2 sl2 g2 q2 => ?_⟩
    split at q2
    · rename_i hl
      exact ⟨by rw [List.length_cons, r.length]; exact hl, Z, B2, ρ2, h2, w :: ws, ok2, .cons (rx.mono g2) r, q2⟩
    · exact q2.elim
  · exact q1.elim
theorem rx_meth0 {C m : Str} {pl : Sem Bool} (tk : Takes X W) (Df : DefM X.prog X.w X.K X.mg X.base j C m ps sem) (hr : Room k X.A) (hj : j ≤ k) (ho : RX X W o mo)
    (ht : eval (.Call (.Attribute o m apos) [] [] pos) X.env = (do
      let ov ← eval o X.env
      standAt apos.atName
      let (f, first) ← holding [ov] (getMethod ov m pl)
      callWith pos f first (backTo pos (starEach [] X.env)) (backToKw pos (keywordEach [] X.env))) := by rfl) : RX X W (.Call (.Attribute o m apos) [] [] pos) (mMeth C m ps.length sem mo maNil) := by
  obtain ⟨ca, fa, fd, c1, c2, c3, F, hb⟩ := Df.ex
  refine ⟨pe_imp (pe_methW0 ho.pe c2 c3 F (hr.mono hj) hb (fun σ => passAt tk σ) ht) fun σ H Q q => ?_⟩
  obtain ⟨Z, B, ρ, τ, h, ok, sl, q⟩ := q
  refine te_bd ok sl q fun x w h1 B1 ρ1 H1 rx ok1 sl1 g1 q1 => ?_
  split at q1
  · rename_i hi
    obtain ⟨p, dx, fs, ex, i1, i2⟩ := insOf_ra ok1 c1 rx hi
    refine ⟨p, dx, fs, ex, i1, i2, ?_⟩
    have q2 : Post X.K Z (fun c d H' => W c d σ H') B1 ρ1 (fun w _ B' ρ' H' => ∀ v, RA X.K B' ρ' v w → Q v H') (if ([] : List A).length + 1 = ps.length then sem (w :: []) h1 else none) := q1
    split at q2
    · rename_i hl
      exact ⟨hl, Z, B1, ρ1, h1, [w], ok1, .cons rx .nil, q2⟩
    · exact q2.elim
  · exact q1.elim
theorem rx_methP {C m : Str} {pl : Sem Bool} (tk : Takes X W) (Df : DefM X.prog X.w X.K X.mg X.base j C m ps sem) (hr : Room k X.A) (hj : j ≤ k) (ho : RX X W o mo) (ha : RAs X W (a :: es) mr)
    (hst : starEach (a :: es) X.env = (false, eval a X.env) :: starEach es X.env := by rfl) (hpl : (backTo pos (starEach es X.env)).any (·.1) = false := by rfl)
    (ht : eval (.Call (.Attribute o m apos) (a :: es) [] pos) X.env = (do
      let ov ← eval o X.env
      standAt apos.atName
      let (f, first) ← holding [ov] (getMethod ov m pl)
      callWith pos f first (backTo pos (starEach (a :: es) X.env)) (backToKw pos (keywordEach [] X.env))) := by rfl) : RX X W (.Call (.Attribute o m apos) (a :: es) [] pos) (mMethP C m ps.length sem mo mr) := by
  obtain ⟨ca, fa, fd, c1, c2, c3, F, hb⟩ := Df.ex
  refine ⟨pe_imp (pe_methW ho.pe c2 c3 F (hr.mono hj) hb (fun σ => passAt tk σ) ha.pa hst hpl ht) fun σ H Q q => ?_⟩
  obtain ⟨Z, B, ρ, τ, h, ok, sl, q⟩ := q
  refine te_bd ok sl q fun x w h1 B1 ρ1 H1 rx ok1 sl1 g1 q1 => ?_
  split at q1
  · rename_i hi
    obtain ⟨p, dx, fs, ex, i1, i2⟩ := insOf_ra ok1 c1 rx hi
    refine ⟨p, dx, fs, ex, i1, i2, te_args ok1 sl1 q1 fun vs ws h2 B2 ρ2 H2 r ok2 sl2 g2 q2 => ?_⟩
    split at q2
    · rename_i hl
      exact callP_ok ok2 (.cons (rx.mono g2) r) (by rw [List.length_cons]; exact hl) q2
    · exact q2.elim
  · exact q1.elim
theorem rx_methP0 {C m : Str} {pl : Sem Bool} (tk : Takes X W) (Df : DefM X.prog X.w X.K X.mg X.base j C m ps sem) (hr : Room k X.A) (hj : j ≤ k) (ho : RX X W o mo)
    (ht : eval (.Call (.Attribute o m apos) [] [] pos) X.env = (do
      let ov ← eval o X.env
      standAt apos.atName
      let (f, first) ← holding [ov] (getMethod ov m pl)
      callWith pos f first (backTo pos (starEach [] X.env)) (backToKw pos (keywordEach [] X.env))) := by rfl) : RX X W (.Call (.Attribute o m apos) [] [] pos) (mMethP C m ps.length sem mo maNil) := by
  obtain ⟨ca, fa, fd, c1, c2, c3, F, hb⟩ := Df.ex
  refine ⟨pe_imp (pe_methW0 ho.pe c2 c3 F (hr.mono hj) hb (fun σ => passAt tk σ) ht) fun σ H Q q => ?_⟩
  obtain ⟨Z, B, ρ, τ, h, ok, sl, q⟩ := q
  refine te_bd ok sl q fun x w h1 B1 ρ1 H1 rx ok1 sl1 g1 q1 => ?_
  split at q1
  · rename_i hi
    obtain ⟨p, dx, fs, ex, i1, i2⟩ := insOf_ra ok1 c1 rx hi
    refine ⟨p, dx, fs, ex, i1, i2, ?_⟩
    have q2 : Post X.K Z (fun c d H' => W c d σ H') B1 ρ1 (fun w _ B' ρ' H' => ∀ v, RA X.K B' ρ' v w → Q v H') (if ([] : List A).length + 1 = ps.length then callP sem (w :: []) h1 else none) := q1
    split at q2
    · rename_i hl
      exact callP_ok ok1 (.cons rx .nil) hl q2
    · exact q2.elim
  · exact q1.elim

/-! ### C(..) -/
def mMake (C : Str) (n : Nat) (sem : Sem1) (mr : E (List A)) : E A := fun τ h => bd (mr τ h) fun ws h1 => if ws.length + 1 = n then (match sem (.r h1.length :: ws) (h1 ++ [.nd (.ins C []) []]) with
  | some (.ok (.d .non) h2) => some (.ok (.r h1.length) h2)
  | _ => none) else none
/-- frozen at once: arguments data -/
def makeP (C : Str) (n : Nat) (sem : Sem1) (ws : List A) (h1 : Hq) : Option (Rs A) := if ws.length + 1 = n then (match allD ws with
  | some ds => (match sem (.r 0 :: ds.map A.d) [.nd (.ins C []) []] with
    | some (.ok (.d .non) h2) => (match view h2 (.r 0) with | some d => some (.ok (.d d) h1) | none => none)
    | _ => none)
  | none => none) else none
def mMakeP (C : Str) (n : Nat) (sem : Sem1) (mr : E (List A)) : E A := fun τ h => bd (mr τ h) fun ws h1 => makeP C n sem ws h1
theorem ok_new {K : PySem.W.Frag} {Z B H : Hp} {ρ : Nat → Option Addr} {h : Hq} {C : Str} {ca x dx : Addr} (ok : Ok K Z B ρ H h) (hc : glAt K C = some ca) (hx : H x = none) (hdx : H dx = none) (ne : dx ≠ x) :
    Ok K Z B (fun k => if k = h.length then some x else ρ k) (upd (upd H dx (.own x)) x (.ins ca dx [])) (h ++ [.nd (.ins C []) []]) ∧ Gr Z B ρ B (fun k => if k = h.length then some x else ρ k) := by
  have bn : ∀ a, H a = none → B a = none ∧ Z a = none := fun a e => by
    constructor
    · cases z : B a with
      | none => rfl
      | some u => rw [ok.ex a u z] at e; cases e
    · cases z : Z a with
      | none => rfl
      | some u => rw [ok.zz a u z] at e; cases e
  refine ok.newC hx (fun b u e => ?_) (by rw [upd_same]; simp) (.nd (vs := []) (own := [x, dx]) (.ins hc (by rw [upd_same]; rfl) (by rw [upd_ne ne, upd_same]) rfl) .nil fun b hb => ?_)
  · rw [upd_ne (ne_of_none e hx), upd_ne (ne_of_none e hdx)]; exact e
  · rcases List.mem_cons.mp hb with z | hb
    · rw [z]; exact bn x hx
    · rw [List.mem_singleton.mp hb]; exact bn dx hdx
theorem rx_make {C : Str} (tk : Takes X W) (hMk : MkC X.K X.mg C) (Df : DefM X.prog X.w X.K X.mg X.base j C "__init__" ps sem) (hr : Room k X.A) (hj : j + 1 ≤ k) (ha : RAs X W (a :: es) mr)
    (hg : Gl X C := by rfl) (hdb : (C == ("__debug__" : Str)) = false := by decide) (he : starEach (a :: es) X.env = (false, eval a X.env) :: starEach es X.env := by rfl) (hpl : (backTo pos (starEach es X.env)).any (·.1) = false := by rfl) :
    RX X W (.Call (.Name C px) (a :: es) [] pos) (mMake C ps.length sem mr) := by
  obtain ⟨ca, fa, fd, c1, c2, c3, F, hb⟩ := Df.ex
  obtain ⟨ca', fa', m1, m2, m3, m4⟩ := hMk.ex
  rw [c1] at m1
  cases m1
  have ef : fa' = fa := by
    have := c3.at_
    rw [m4] at this
    cases this
    rfl
  subst ef
  refine ⟨pe_imp (pe_make m3 F (hr.mono hj) hg m2 hb .nil passL ha.pa hdb he hpl) fun σ H Q q => ?_⟩
  obtain ⟨Z, B, ρ, τ, h, ok, sl, q⟩ := q
  refine te_args ok sl q fun vs ws h1 B1 ρ1 H1 r ok1 sl1 g1 q1 => ?_
  intro x dx hx hdx ne
  split at q1
  · rename_i hl
    obtain ⟨ok2, g2⟩ := ok_new ok1 c1 hx hdx ne
    refine ⟨by rw [List.append_nil, List.length_cons, r.length]; exact hl, Z, B1, _, _, .r h1.length :: ws, ok2, .cons (.r (if_pos rfl)) (by rw [List.append_nil]; exact r.mono g2), ?_⟩
    split at q1
    · rename_i h2 e2
      rw [e2]
      intro B' ρ' H' ok' g' v rv
      refine ⟨rp_non (ra_d rv), q1 B' ρ' H' ok' (g2.trans g') _ (.r (g'.rr _ _ (if_pos rfl)))⟩
    · exact q1.elim
  · exact q1.elim
theorem rx_make0 {C : Str} (tk : Takes X W) (hMk : MkC X.K X.mg C) (Df : DefM X.prog X.w X.K X.mg X.base j C "__init__" ps sem) (hr : Room k X.A) (hj : j + 1 ≤ k)
    (hg : Gl X C := by rfl) (hdb : (C == ("__debug__" : Str)) = false := by decide) : RX X W (.Call (.Name C px) [] [] pos) (mMake C ps.length sem maNil) := by
  obtain ⟨ca, fa, fd, c1, c2, c3, F, hb⟩ := Df.ex
  obtain ⟨ca', fa', m1, m2, m3, m4⟩ := hMk.ex
  rw [c1] at m1
  cases m1
  have ef : fa' = fa := by
    have := c3.at_
    rw [m4] at this
    cases this
    rfl
  subst ef
  refine ⟨pe_imp (pe_make0 m3 F (hr.mono hj) hg m2 hb .nil passL hdb) fun σ H Q q => ?_⟩
  obtain ⟨Z, B, ρ, τ, h, ok, sl, q⟩ := q
  intro x dx hx hdx ne
  have q1 : Post X.K Z (fun c d H' => W c d σ H') B ρ (fun w _ B' ρ' H' => ∀ v, RA X.K B' ρ' v w → Q v H') (if ([] : List A).length + 1 = ps.length then (match sem (.r h.length :: []) (h ++ [.nd (.ins C []) []]) with
    | some (.ok (.d .non) h2) => some (.ok (.r h.length) h2)
    | _ => none) else none) := q
  split at q1
  · rename_i hl
    obtain ⟨ok2, g2⟩ := ok_new ok c1 hx hdx ne
    refine ⟨hl, Z, B, _, _, [.r h.length], ok2, .cons (.r (if_pos rfl)) .nil, ?_⟩
    split at q1
    · rename_i h2 e2
      rw [e2]
      intro B' ρ' H' ok' g' v rv
      refine ⟨rp_non (ra_d rv), q1 B' ρ' H' ok' (g2.trans g') _ (.r (g'.rr _ _ (if_pos rfl)))⟩
    · exact q1.elim
  · exact q1.elim
theorem rx_makeP {C : Str} (tk : Takes X W) (hMk : MkC X.K X.mg C) (Df : DefM X.prog X.w X.K X.mg X.base j C "__init__" ps sem) (hr : Room k X.A) (hj : j + 1 ≤ k) (ha : RAs X W (a :: es) mr)
    (hg : Gl X C := by rfl) (hdb : (C == ("__debug__" : Str)) = false := by decide) (he : starEach (a :: es) X.env = (false, eval a X.env) :: starEach es X.env := by rfl) (hpl : (backTo pos (starEach es X.env)).any (·.1) = false := by rfl) :
    RX X W (.Call (.Name C px) (a :: es) [] pos) (mMakeP C ps.length sem mr) := by
  obtain ⟨ca, fa, fd, c1, c2, c3, F, hb⟩ := Df.ex
  obtain ⟨ca', fa', m1, m2, m3, m4⟩ := hMk.ex
  rw [c1] at m1
  cases m1
  have ef : fa' = fa := by
    have := c3.at_
    rw [m4] at this
    cases this
    rfl
  subst ef
  refine ⟨pe_imp (pe_make m3 F (hr.mono hj) hg m2 hb .nil passL ha.pa hdb he hpl) fun σ H Q q => ?_⟩
  obtain ⟨Z, B, ρ, τ, h, ok, sl, q⟩ := q
  refine te_args ok sl q fun vs ws h1 B1 ρ1 H1 r ok1 sl1 g1 q1 => ?_
  intro x dx hx hdx ne
  unfold makeP at q1
  split at q1
  · rename_i hl
    split at q1
    · rename_i ds e0
      cases allD_of e0
      obtain ⟨ok2, g2⟩ := ok_new ok1.void c1 hx hdx ne
      refine ⟨by rw [List.append_nil, List.length_cons, r.length]; exact hl, H1, B1, _, _, .r 0 :: ds.map A.d, ok2, .cons (.r (if_pos rfl)) (by rw [List.append_nil]; exact ral_ds (ral_rpl r)), ?_⟩
      split at q1
      · rename_i h2 e2
        have e2' : sem (.r 0 :: ds.map A.d) ([] ++ [.nd (.ins C []) []]) = some (.ok (.d .non) h2) := e2
        rw [e2']
        intro B' ρ' H' ok' g' v rv
        refine ⟨rp_non (ra_d rv), ?_⟩
        split at q1
        · rename_i d e3
          obtain ⟨B2, o2, g3, see⟩ := ok1.backP ok' (g2.trans g')
          exact q1 B2 ρ1 H' o2 g3 _ (.d (see _ _ d (.r (g'.rr _ _ (if_pos rfl))) e3))
        · exact q1.elim
      · exact q1.elim
    · exact q1.elim
  · exact q1.elim
end
end Tq

/-! Tq9: more operations: in, dict displays, get, isinstance of two, chains. -/
namespace Tq
open PySem PySem.Spec PyProof.Rows L2
/-! ### a text times a number -/
def repS (z : Str) (n : Nat) : Str := ⟨(List.replicate n z.cps).foldl (· ++ ·) #[]⟩
theorem fold_nil : ∀ (n : Nat) (a : Array Nat), List.foldl (fun x1 x2 => x1 ++ x2) a (List.replicate n #[]) = a
  | 0, _ => rfl
  | n + 1, a => by rw [List.replicate_succ, List.foldl_cons, Array.append_empty, fold_nil n]
def gRep : G2 := fun a b h => match a, b with
  | .d (.str z), .d (.int n) => if z.length * n.toNat ≤ LIM ∧ n < 2 ^ 62 ∧ -(2 ^ 62) < n then some (.ok (.d (.str (repS z n.toNat))) h) else none
  | _, _ => none
def rRepS : R2 := fun x y H Q => ∃ (z : Str) (n : Int), x = .str z ∧ y = .int n ∧ z.length * n.toNat ≤ LIM ∧ n < 2 ^ 62 ∧ -(2 ^ 62) < n ∧ Q (.str (repS z n.toNat)) H
theorem repS_len (z : Str) : ∀ n : Nat, (repS z n).length = n * z.length := by
  have go : ∀ (n : Nat) (a : Array Nat), (List.foldl (fun x1 x2 => x1 ++ x2) a (List.replicate n z.cps)).size = a.size + n * z.cps.size := by
    intro n
    induction n with
    | zero => intro a; simp
    | succ n ih =>
      intro a
      rw [List.replicate_succ, List.foldl_cons, ih, Array.size_append, Nat.succ_mul]
      omega
  intro n
  show (List.foldl (fun x1 x2 => x1 ++ x2) #[] (List.replicate n z.cps)).size = _
  rw [go]
  show 0 + n * z.cps.size = n * z.cps.size
  omega
theorem repS_ok {z : Str} (hz : PyData.strOk z = true) (n : Nat) : PyData.strOk (repS z n) = true := by
  have go : ∀ (n : Nat) (a : Array Nat), a.all (· < 0x110000) = true → (List.foldl (fun x1 x2 => x1 ++ x2) a (List.replicate n z.cps)).all (· < 0x110000) = true := by
    intro n
    induction n with
    | zero => intro a h; exact h
    | succ n ih =>
      intro a h
      rw [List.replicate_succ, List.foldl_cons]
      refine ih _ ?_
      rw [Array.all_append, h]
      exact hz
  exact go n #[] (by decide +kernel)
theorem str_eta (z : Str) : z = ⟨z.cps⟩ := rfl
section
variable {X : Cx}
theorem op_repS : OpR X (binaryOp .Mult) rRepS := by
  intro pins s σ H x y v u Q I rx ry h
  obtain ⟨z, n, rfl, rfl, hz, h1, h2, q⟩ := h
  obtain ⟨t, rfl⟩ := rx
  obtain ⟨t', rfl⟩ := ry
  rw [lim_eq] at hz
  have ns : ∀ b : Bool, ¬ n < 1 → Builtin.Str.tooLong (z.length * n.toNat) = false := fun _ _ => decide_eq_false (by omega)
  refine P.mul_str (by rw [decide_eq_false (by omega), decide_eq_false (by omega)]; rfl) (fun a b c => ?_) (fun a _ => ns true a) ?_
  · have e1 : ((z.length * n.toNat : Nat) : Int) = (z.length : Int) * n := by
      rw [Int.natCast_mul, Int.toNat_of_nonneg (by omega)]
    have h3 : (z.length : Int) * n ≤ 16777216 := by
      rw [← e1]
      have : z.length * n.toNat ≤ 16777216 := hz
      omega
    have h4 : (z.length : Int) * n ≤ 2 ^ 63 - 1 := by omega
    have h5 := (Int.le_ediv_iff_mul_le (by omega : (0 : Int) < n)).mpr h4
    omega
  · by_cases g1 : n < 1
    · rw [if_pos g1]
      have e : repS z n.toNat = Str.empty := by
        have : n.toNat = 0 := by omega
        rw [this]
        rfl
      rw [e] at q
      exact ⟨by decide, .str Str.empty, H, I.tok _, ⟨_, rfl⟩, q⟩
    · rw [if_neg g1]
      by_cases g2 : (n == 1 || z.length == 0) = true
      · rw [if_pos g2]
        have e : repS z n.toNat = z := by
          rw [Bool.or_eq_true] at g2
          rcases g2 with g | g
          · have : n = 1 := eq_of_beq g
            subst this
            show Str.mk (#[] ++ z.cps) = z
            rw [Array.empty_append]
          · have g : z.cps.size = 0 := eq_of_beq g
            have g : z.cps = #[] := Array.eq_empty_of_size_eq_zero g
            show Str.mk (List.foldl (fun x1 x2 => x1 ++ x2) #[] (List.replicate n.toNat z.cps)) = z
            rw [g, fold_nil, ← g]
        rw [e] at q
        exact ⟨.str z, H, I, ⟨_, rfl⟩, q⟩
      · rw [if_neg g2]
        refine ⟨?_, .str (repS z n.toNat), H, I.tok _, ⟨_, rfl⟩, q⟩
        show (repS z n.toNat).length ≤ sizeLine
        rw [repS_len, Nat.mul_comm]
        exact hz
end
theorem og_rep {K : PySem.W.Frag} : Op2 K rRepS gRep := by
  intro Z B ρ H h x y a b W Q ok rx ry q
  unfold gRep at q
  split at q
  · split at q
    · rename_i hc
      exact ⟨_, _, ra_str rx, ra_int ry, hc.1, hc.2.1, hc.2.2, q.now ok _ (.d (.str _))⟩
    · exact q.elim
  · exact q.elim

def gIsi2 (A T : String) : G1 := fun a h => match tyA h a with | some n => some (.ok (.d (.bl (isiN A n || isiN T n))) h) | none => none
section
variable {X : Cx} {W : WX} {a : Expr} {ma : E Tq.A} {pos : Pos}
theorem rx_isi2 {x y : Str} {A T : String} {px p1 p2 p3 : Pos} {k1 : Nat} (ha : RX X W a ma) (hmi : X.mg "isinstance" = none) (hmA : X.mg x = none) (hmT : X.mg y = none) (hv : bootBuiltins x = some (.type A) := by decide +kernel) (hw : bootBuiltins y = some (.type T) := by decide +kernel)
    (hA : A ∈ ["bool", "int", "str", "tuple", "list", "dict"] := by decide) (hT : T ∈ ["bool", "int", "str", "tuple", "list", "dict"] := by decide)
    (hgi : Gl X "isinstance" := by rfl) (hg : Gl X x := by rfl) (hg2 : Gl X y := by rfl) (hn : x ≠ "__name__" := by decide) (hn2 : y ≠ "__name__" := by decide) (hdb : (x == ("__debug__" : Str)) = false := by decide) (hdb2 : (y == ("__debug__" : Str)) = false := by decide)
    (he : starEach [a, .Tuple [.Name x p1, .Name y p2] k1 p3] X.env = (false, eval a X.env) :: starEach [.Tuple [.Name x p1, .Name y p2] k1 p3] X.env := by rfl) (he2 : starEach [.Tuple [.Name x p1, .Name y p2] k1 p3] X.env = (false, eval (.Tuple [.Name x p1, .Name y p2] k1 p3) X.env) :: starEach [] X.env := by rfl)
    (he3 : starEach [.Name x p1, .Name y p2] X.env = (false, eval (.Name x p1) X.env) :: starEach [.Name y p2] X.env := by rfl) (he4 : starEach [.Name y p2] X.env = (false, eval (.Name y p2) X.env) :: starEach [] X.env := by rfl)
    (hpl : (backTo pos (starEach [.Tuple [.Name x p1, .Name y p2] k1 p3] X.env)).any (·.1) = false := by rfl) :
    RX X W (.Call (.Name "isinstance" px) [a, .Tuple [.Name x p1, .Name y p2] k1 p3] [] pos) (mUn (gIsi2 A T) ma) := by
  let r2 : V → Hp → VK → Prop := fun v H Q => [V.ty A, V.ty T].length ≤ sizeLine ∧ ∀ q, H q = none → rIsiT X.K [v, .ref q] (upd H q (.tup [.ty A, .ty T])) Q
  refine rx_op1 (r := r2) ha ?_ fun {ta} h1 => pe_callB call_isiT hgi hmi (by decide +kernel) (pa_cons h1 (pa_cons (pe_tup (pa_cons (pe_bltn (v := .ty A) hg hmA hv rfl hn hdb) (pa_cons (pe_bltn (v := .ty T) hg2 hmT hw rfl hn2 hdb2) pa_nil he4) he3)) pa_nil he2) he) (by decide) (by decide) he hpl
  intro Z B ρ H h x a W Q ok rx q
  unfold gIsi2 at q
  split at q
  · rename_i n e
    refine ⟨show 2 ≤ 16777216 by decide, fun p hp => ?_⟩
    obtain ⟨ok2, g2⟩ := ok.newB (o := .tup [V.ty A, V.ty T]) hp
    obtain ⟨h1, h2⟩ := tyx_ra ok2 (rx.mono g2) e
    refine ⟨x, p, _, .type n, [.type A, .type T], _, rfl, upd_same, .cons (.ty A) (.cons (.ty T) .nil), h1, ?_, q _ _ _ ok2 g2 _ (.d (.bl _))⟩
    show (match PySem.W.kitOne X.K (.type n) (.type A) with
      | some true => some true
      | some false => (match PySem.W.kitOne X.K (.type n) (.type T) with | some true => some true | some false => some false | none => none)
      | none => none) = _
    rw [kit_isiN hA h2, kit_isiN hT h2]
    cases isiN A n <;> cases isiN T n <;> rfl
  · exact q.elim
end
/-! ### in -/
theorem flatV_rp {K : PySem.W.Frag} {B : Hp} {v : V} {d : D} (r : Rp K B v d) (h : d.flat = true) : flatV v = true := by
  cases r <;> first | rfl | cases h
theorem eqV_rp {K : PySem.W.Frag} {B : Hp} {v u : V} {d e : D} (r1 : Rp K B v d) (r2 : Rp K B u e) (h1 : d.flat = true) (h2 : e.flat = true) : eqV v u = D.eqv d e := by
  cases r1 <;> first | (cases h1; done) | (cases r2 <;> first | (cases h2; done) | simp [eqV, D.eqv, D.toP, PyData.eqv])
theorem all_flatV {K : PySem.W.Frag} {B : Hp} {vs : List V} {ds : List D} (r : RpL K B vs ds) (h : ds.all D.flat = true) : vs.all flatV = true := by
  induction vs generalizing ds with
  | nil => rfl
  | cons v vs ih =>
    cases r with
    | cons w wl =>
      rw [List.all_cons, Bool.and_eq_true] at h
      rw [List.all_cons, flatV_rp w h.1, ih wl h.2]
      rfl
theorem inV_rp {K : PySem.W.Frag} {B : Hp} {v : V} {d : D} {vs : List V} {ds : List D} (r1 : Rp K B v d) (h1 : d.flat = true) (r : RpL K B vs ds) (h : ds.all D.flat = true) : inV v vs = ds.any fun z => D.eqv z d := by
  unfold inV
  induction vs generalizing ds with
  | nil =>
    cases r
    rfl
  | cons u vs ih =>
    cases r with
    | cons w wl =>
      rw [List.all_cons, Bool.and_eq_true] at h
      rw [List.any_cons, List.any_cons, eqV_rp w r1 h.1 h1, ih wl h.2]
theorem any_toPs (d : D) : ∀ ds : List D, (D.toPs ds).any (fun z => PyData.eqv z d.toP) = ds.any fun z => D.eqv z d
  | [] => rfl
  | x :: r => by
    unfold D.toPs
    rw [List.any_cons, List.any_cons, any_toPs d r]
    rfl
def sign1 (x : Str) : Option Nat := match x.cps.toList with | [c] => some c | _ => none
theorem sign1_eq {x : Str} {c : Nat} (h : sign1 x = some c) : x = ⟨#[c]⟩ := by
  obtain ⟨⟨l⟩⟩ := x
  unfold sign1 at h
  match l, h with
  | [d], h => cases h; rfl
/-- x in y: a list, a tuple of flat things, one sign in a text -/
def inD (neg : Bool) (x y : D) : Option Bool := match y with
  | .lst ds => if x.shp && (D.lst ds).shp then some (if neg then !ds.any fun z => D.eqv z x else ds.any fun z => D.eqv z x) else none
  | .tup ds => if x.flat && ds.all D.flat then some (if neg then !ds.any fun z => D.eqv z x else ds.any fun z => D.eqv z x) else none
  | .kt ds => if x.flat && ds.all D.flat then some (if neg then !ds.any fun z => D.eqv z x else ds.any fun z => D.eqv z x) else none
  | .str z => (match x with
    | .str w => (match sign1 w with
      | some c => some (if neg then !decide (c ∈ z.cps.toList) else decide (c ∈ z.cps.toList))
      | none => some (if neg then !(!(Builtin.Str.occurrences z w 0 z.length 1).isEmpty) else !(Builtin.Str.occurrences z w 0 z.length 1).isEmpty))
    | _ => none)
  | _ => none
abbrev rInA (K : PySem.W.Frag) : R2 := fun x y H Q => rInD K x y H Q ∨ rIn K false x y H Q ∨ (∃ (c : Nat) (z : Str), x = .str ⟨#[c]⟩ ∧ y = .str z ∧ Q (.bl (decide (c ∈ z.cps.toList))) H) ∨ (∃ i j, x = .str i ∧ y = .str j ∧ Q (.bl (!(Builtin.Str.occurrences j i 0 j.length 1).isEmpty)) H)
abbrev rNotInA (K : PySem.W.Frag) : R2 := fun x y H Q => rNotInD K x y H Q ∨ rIn K true x y H Q ∨ (∃ (c : Nat) (z : Str), x = .str ⟨#[c]⟩ ∧ y = .str z ∧ Q (.bl (!decide (c ∈ z.cps.toList))) H) ∨ (∃ i j, x = .str i ∧ y = .str j ∧ Q (.bl (!(!(Builtin.Str.occurrences j i 0 j.length 1).isEmpty))) H)
theorem op_inA {X : Cx} (hu : X.A.units + 65 < cLine) : OpR X (compareOp .In) (rInA X.K) := (op_inD hu).or (op_in_seq.or (op_in_sign.or op_in_str))
theorem op_notInA {X : Cx} (hu : X.A.units + 65 < cLine) : OpR X (compareOp .NotIn) (rNotInA X.K) := (op_notInD hu).or (op_notIn_seq.or (op_notIn_sign.or op_notIn_str))
theorem og_in {K : PySem.W.Frag} : Op2 K (rInA K) (g2V (inD false)) := og_2v fun H x y d e k Q r1 r2 hk q => by
  unfold inD at hk
  split at hk
  · rename_i ds
    split at hk
    · rename_i hs
      rw [Bool.and_eq_true] at hs
      cases hk
      refine .inl ⟨_, _, r1.dp hs.1, (show Dp K H y (.list (D.toPs ds)) from r2.dp hs.2), hs.1, hs.2, ?_⟩
      rw [any_toPs]
      exact q
    · cases hk
  · rename_i ds
    split at hk
    · rename_i hs
      rw [Bool.and_eq_true] at hs
      cases hk
      cases r2 with
      | tup ht rl =>
        refine .inr (.inl ⟨_, _, rfl, .inr (sqt_of ht), flatV_rp r1 hs.1, all_flatV rl hs.2, ?_⟩)
        rw [inV_rp r1 hs.1 rl hs.2]
        exact q
    · cases hk
  · rename_i ds
    split at hk
    · rename_i hs
      rw [Bool.and_eq_true] at hs
      cases hk
      cases r2 with
      | kt ht rl =>
        refine .inr (.inl ⟨_, _, rfl, .inr ht, flatV_rp r1 hs.1, all_flatV rl hs.2, ?_⟩)
        rw [inV_rp r1 hs.1 rl hs.2]
        exact q
    · cases hk
  · rename_i z
    split at hk
    · rename_i w
      cases rp_str r1
      cases rp_str r2
      split at hk
      · rename_i c e
        cases hk
        cases sign1_eq e
        exact .inr (.inr (.inl ⟨c, z, rfl, rfl, q⟩))
      · cases hk
        exact .inr (.inr (.inr ⟨w, z, rfl, rfl, q⟩))
    · cases hk
  · cases hk
theorem og_notIn {K : PySem.W.Frag} : Op2 K (rNotInA K) (g2V (inD true)) := og_2v fun H x y d e k Q r1 r2 hk q => by
  unfold inD at hk
  split at hk
  · rename_i ds
    split at hk
    · rename_i hs
      rw [Bool.and_eq_true] at hs
      cases hk
      refine .inl ⟨_, _, r1.dp hs.1, (show Dp K H y (.list (D.toPs ds)) from r2.dp hs.2), hs.1, hs.2, ?_⟩
      rw [any_toPs]
      exact q
    · cases hk
  · rename_i ds
    split at hk
    · rename_i hs
      rw [Bool.and_eq_true] at hs
      cases hk
      cases r2 with
      | tup ht rl =>
        refine .inr (.inl ⟨_, _, rfl, .inr (sqt_of ht), flatV_rp r1 hs.1, all_flatV rl hs.2, ?_⟩)
        rw [inV_rp r1 hs.1 rl hs.2]
        exact q
    · cases hk
  · rename_i ds
    split at hk
    · rename_i hs
      rw [Bool.and_eq_true] at hs
      cases hk
      cases r2 with
      | kt ht rl =>
        refine .inr (.inl ⟨_, _, rfl, .inr ht, flatV_rp r1 hs.1, all_flatV rl hs.2, ?_⟩)
        rw [inV_rp r1 hs.1 rl hs.2]
        exact q
    · cases hk
  · rename_i z
    split at hk
    · rename_i w
      cases rp_str r1
      cases rp_str r2
      split at hk
      · rename_i c e
        cases hk
        cases sign1_eq e
        exact .inr (.inr (.inl ⟨c, z, rfl, rfl, q⟩))
      · cases hk
        exact .inr (.inr (.inr ⟨w, z, rfl, rfl, q⟩))
    · cases hk
  · cases hk
/-- k in d, d a dict -/
def gInK (neg : Bool) : G2 := fun kd a h => match dicOf h a with
  | some (hd, ws) => (match hGet hd ws kd with | some o => some (.ok (.d (.bl (neg != o.isSome))) h) | none => none)
  | none => none
section
variable {X : Cx} {W : WX} {a b c : Expr} {ma mb mc : E Tq.A} {pos : Pos}
theorem dinK_ok {K : PySem.W.Frag} {Z B H : Hp} {ρ : Nat → Option Addr} {h : Hq} {x y : V} {kd d : A} {neg : Bool} {Wk : XK} {Q : VK} (ok : Ok K Z B ρ H h) (ry : RA K B ρ y kd) (rx : RA K B ρ x d) (q : Post K Z Wk B ρ (fun w _ B' ρ' H' => ∀ v, RA K B' ρ' v w → Q v H') (gInK neg kd d h)) :
    ∃ p o, x = .ref p ∧ DGet H p y o ∧ Q (.bl (neg != o.isSome)) H := by
  unfold gInK at q
  split at q
  · rename_i hd ws e1
    split at q
    · rename_i o e2
      obtain ⟨p, vs, own, rfl, x1, r1⟩ := dicOf_ra ok rx e1
      obtain ⟨g1, g2⟩ := hGet_ok ok x1 r1 ry e2
      cases o with
      | none => exact ⟨p, none, rfl, g1 rfl, q.now ok _ (.d (.bl _))⟩
      | some w =>
        obtain ⟨v, g, _⟩ := g2 w rfl
        exact ⟨p, some v, rfl, g, q.now ok _ (.d (.bl _))⟩
    · exact q.elim
  · exact q.elim
theorem rx_inK (hu : X.A.units + 1 < cLine) (ha : RX X W a ma) (hb : RX X W b mb) (hm : behindInMarks .In b = false := by with_unfolding_all rfl) : RX X W (.Compare a [.In] [b] pos) (mBin (gInK false) ma mb) := ⟨pe_imp (pe_cmp (pc_din hu ha.pe hb.pe) hm) fun σ H Q q => by
  obtain ⟨Z, B, ρ, τ, h, ok, sl, q⟩ := q
  refine te_bd ok sl q fun y kd h1 B1 ρ1 H1 ry ok1 sl1 g1 q1 => te_bd ok1 sl1 q1 fun x d h2 B2 ρ2 H2 rx ok2 sl2 g2 q2 => ?_
  obtain ⟨p, o, e, g, z⟩ := dinK_ok ok2 (ry.mono g2) rx q2
  exact ⟨p, o, e, g, by simpa using z⟩⟩
theorem rx_notInK (hu : X.A.units + 1 < cLine) (ha : RX X W a ma) (hb : RX X W b mb) (hm : behindInMarks .NotIn b = false := by with_unfolding_all rfl) : RX X W (.Compare a [.NotIn] [b] pos) (mBin (gInK true) ma mb) := ⟨pe_imp (pe_cmp (pc_dnotin hu ha.pe hb.pe) hm) fun σ H Q q => by
  obtain ⟨Z, B, ρ, τ, h, ok, sl, q⟩ := q
  refine te_bd ok sl q fun y kd h1 B1 ρ1 H1 ry ok1 sl1 g1 q1 => te_bd ok1 sl1 q1 fun x d h2 B2 ρ2 H2 rx ok2 sl2 g2 q2 => ?_
  obtain ⟨p, o, e, g, z⟩ := dinK_ok ok2 (ry.mono g2) rx q2
  exact ⟨p, o, e, g, by simpa using z⟩⟩
/-- d.get(k, e) -/
def isDic (h : Hq) (a : Tq.A) : Bool := match dicOf h a with | some (.dic _, _) => true | some (.dit _, _) => true | _ => false
def mGet2 (mo mk md : E Tq.A) : E Tq.A := fun τ h => bd (mo τ h) fun a h1 => if isDic h1 a = true then bd (mk τ h1) fun kd h2 => bd (md τ h2) fun d h3 => match dicOf h3 a with
  | some (hd, ws) => (match hGet hd ws kd with | some (some w) => some (.ok w h3) | some none => some (.ok d h3) | none => none)
  | none => none else none
theorem rx_get2 {apos cpos : Pos} (hu : X.A.units + 1 < cLine) (ha : RX X W a ma) (hb : RX X W b mb) (hc : RX X W c mc) (m : M2 X a "get" apos b c cpos := by exact ⟨by rfl, by rfl, by rfl, by rfl⟩) : RX X W (.Call (.Attribute a "get" apos) [b, c] [] cpos) (mGet2 ma mb mc) := ⟨pe_imp (pe_dget2 hu ha.pe hb.pe hc.pe m) fun σ H Q q => by
  obtain ⟨Z, B, ρ, τ, h, ok, sl, q⟩ := q
  refine te_bd ok sl q fun x a h1 B1 ρ1 H1 rx ok1 sl1 g1 q1 => ?_
  split at q1
  · rename_i hd0
    have isd : ∃ p, x = .ref p ∧ IsD H1 p := by
      unfold isDic at hd0
      split at hd0
      · rename_i ks ws e
        obtain ⟨p, vs, own, rfl, x1, r1⟩ := dicOf_ra ok1 rx e
        cases x1 with
        | dic i1 i2 => exact ⟨p, rfl, .inl ⟨_, .inl i1⟩⟩
      · rename_i ks ws e
        obtain ⟨p, vs, own, rfl, x1, r1⟩ := dicOf_ra ok1 rx e
        cases x1 with
        | dit i1 i2 => exact ⟨p, rfl, .inr ⟨_, .inl i1⟩⟩
      · cases hd0
    obtain ⟨p, rfl, hp⟩ := isd
    refine ⟨p, rfl, hp, te_bd ok1 sl1 q1 fun y kd h2 B2 ρ2 H2 ry ok2 sl2 g2 q2 => te_bd ok2 sl2 q2 fun z d h3 B3 ρ3 H3 rz ok3 sl3 g3 q3 => ?_⟩
    split at q3
    · rename_i hd ws e1
      obtain ⟨p', vs, own, ep, x1, r1⟩ := dicOf_ra ok3 (rx.mono (g2.trans g3)) e1
      cases ep
      split at q3
      · rename_i w e2
        obtain ⟨v, g, rv⟩ := (hGet_ok ok3 x1 r1 (ry.mono g3) e2).2 w rfl
        exact ⟨some v, g, q3.now ok3 _ rv⟩
      · rename_i e2
        exact ⟨none, (hGet_ok ok3 x1 r1 (ry.mono g3) e2).1 rfl, q3.now ok3 _ rz⟩
      · exact q3.elim
    · exact q3.elim
  · exact q1.elim⟩
/-- a < b < c -/
theorem rx_chain {op op' : CmpOp} {r r' : R2} {g g' : G2} (ho : OpR X (compareOp op) r) (og : Op2 X.K r g) (ho' : OpR X (compareOp op') r') (og' : Op2 X.K r' g') (ha : RX X W a ma) (hb : RX X W b mb) (hc : RX X W c mc) (hm : lastMarks [op, op'] [b, c] = false := by with_unfolding_all rfl) :
    RX X W (.Compare a [op, op'] [b, c] pos) (mChain g g' ma mb mc) := ⟨pe_imp (pe_chain ho ho' ha.pe hb.pe hc.pe hm) fun σ H Q q => by
  obtain ⟨Z, B, ρ, τ, h, ok, sl, q⟩ := q
  refine te_bd ok sl q fun x a h1 B1 ρ1 H1 rx ok1 sl1 g1 q1 => te_bd ok1 sl1 q1 fun y b h2 B2 ρ2 H2 ry ok2 sl2 g2 q2 => ?_
  refine og Z B2 ρ2 H2 h2 x y a b _ _ ok2 (rx.mono g2) ry (q2.bd.imp fun k h3 B3 ρ3 H3 ok3 g3 q3 z rz => ?_)
  split at q3
  · refine ⟨true, rp_bl (ra_d rz), iteT (te_bd ok3 (sl2.mono g3) q3 fun u c h4 B4 ρ4 H4 ru ok4 sl4 g4 q4 => ?_)⟩
    exact og' Z B4 ρ4 H4 h4 y u b c _ Q ok4 (ry.mono (g3.trans g4)) ru q4
  · exact ⟨false, rp_bl (ra_d rz), iteF (q3.now ok3 _ (.d (.bl false)))⟩
  · exact q3.elim⟩
end
/-! ### dict displays -/
def mDict0 (tup : Bool) : E Tq.A := fun _ h => some (.ok (.r h.length) (h ++ [.nd (if tup then .dit [] else .dic []) []]))
section
variable {X : Cx} {W : WX} {pos : Pos}
theorem ok_newD {K : PySem.W.Frag} {Z B H : Hp} {ρ : Nat → Option Addr} {h : Hq} {p : Addr} {o : HO} {hd : Hd} {vs : List V} {ws : List A} (ok : Ok K Z B ρ H h) (hp : H p = none) (x : HdAt K (upd H p o) p hd vs [p]) (r : RAL K B ρ vs ws) :
    Ok K Z B (fun k => if k = h.length then some p else ρ k) (upd H p o) (h ++ [.nd hd ws]) ∧ Gr Z B ρ B (fun k => if k = h.length then some p else ρ k) := by
  have bn : ∀ a, H a = none → B a = none ∧ Z a = none := fun a e => by
    constructor
    · cases z : B a with
      | none => rfl
      | some u => rw [ok.ex a u z] at e; cases e
    · cases z : Z a with
      | none => rfl
      | some u => rw [ok.zz a u z] at e; cases e
  refine ok.newC hp (fun b u e => ?_) (by rw [upd_same]; simp) (.nd x r fun b hb => ?_)
  · rw [upd_ne (ne_of_none e hp)]; exact e
  · rw [List.mem_singleton.mp hb]; exact bn p hp
theorem rx_dict0 (tup : Bool) : RX X W (.Dict [] [] pos) (mDict0 tup) := by
  constructor
  cases tup with
  | true =>
    refine pe_imp pe_dnewT fun σ H Q q => ?_
    obtain ⟨Z, B, ρ, τ, h, ok, sl, q⟩ := q
    intro p hp
    obtain ⟨ok2, g2⟩ := ok_newD (o := .dT []) (hd := .dit []) (vs := []) (ws := []) ok hp (.dit upd_same rfl) .nil
    exact q _ _ _ ok2 g2 _ (.r (if_pos rfl))
  | false =>
    refine pe_imp pe_dnewK fun σ H Q q => ?_
    obtain ⟨Z, B, ρ, τ, h, ok, sl, q⟩ := q
    intro p hp
    obtain ⟨ok2, g2⟩ := ok_newD (o := .dK []) (hd := .dic []) (vs := []) (ws := []) ok hp (.dic upd_same rfl) .nil
    exact q _ _ _ ok2 g2 _ (.r (if_pos rfl))
theorem Post.besides {α : Type} {K : PySem.W.Frag} {Z B : Hp} {W : XK} {ρ : Nat → Option Addr} {R : α → Hq → Hp → (Nat → Option Addr) → Hp → Prop} {r : Option (Rs α)} {q : Addr} {o : HO} (hz : Z q = none) (p : Post K Z W B ρ R r) : Post K (upd Z q o) W B ρ R r := by
  match r, p with
  | some (.ok a h), p => exact fun B' ρ' H' ok g => p B' ρ' H' (ok.bare hz) (g.aside hz)
  | some (.ex x h), p => exact fun B' ρ' H' cls d ok g xc => p B' ρ' H' cls d (ok.bare hz) (g.aside hz) xc
theorem Ok.adoptC {K : PySem.W.Frag} {Z B H : Hp} {ρ : Nat → Option Addr} {h : Hq} {q : Addr} {ob : HO} {c : O} (ok : Ok K (upd Z q ob) B ρ H h) (hz : Z q = none) (cc : CeAt K Z B H ρ q c) :
    Ok K Z B (fun k => if k = h.length then some q else ρ k) H (h ++ [c]) ∧ Gr Z B ρ B (fun k => if k = h.length then some q else ρ k) := by
  have hq : H q = some ob := ok.zz q _ upd_same
  have ok0 := ok.bare hz
  have fresh : ∀ k a, ρ k = some a → a ≠ q := fun k a e z => by
    have hk : k < h.length := by
      apply Classical.byContradiction
      intro y
      rw [ok.up k (by omega)] at e
      cases e
    obtain ⟨c, hc⟩ : ∃ c, h[k]? = some c := ⟨_, List.getElem?_eq_getElem hk⟩
    obtain ⟨a', h1, h2⟩ := ok.ce k c hc
    rw [e] at h1
    cases h1
    have key : upd Z q ob a = none := by
      cases h2 with
      | lst _ _ _ e4 => exact e4
      | nd e1 _ e3 => exact (e3 _ e1.own_or.1).2
      | dead e4 => exact e4
    rw [z, upd_same] at key
    cases key
  have gg : Gr Z B ρ B (fun k => if k = h.length then some q else ρ k) := ⟨fun _ _ e => e, fun k a e => by
    have : k ≠ h.length := fun z => by rw [ok.up k (by omega)] at e; cases e
    show (if k = h.length then some q else ρ k) = some a
    rw [if_neg this]; exact e, fun a e e' => absurd e e'⟩
  refine ⟨⟨ok0.ex, ok0.zz, fun k c' e => ?_, fun i j a e1 e2 => ?_, fun k a e => ?_, fun k e => ?_⟩, gg⟩
  · by_cases z : k = h.length
    · subst z
      rw [List.getElem?_append_right (by omega), Nat.sub_self] at e
      cases e
      refine ⟨q, if_pos rfl, ?_⟩
      cases cc with
      | lst e1 e2 e3 e4 => exact .lst e1 (e2.mono gg) e3 e4
      | nd e1 e2 e3 => exact .nd e1 (e2.mono gg) e3
      | dead e1 => exact .dead e1
    · have hk : k < h.length := by
        have := (List.getElem?_eq_some_iff.mp e).1
        rw [List.length_append, List.length_singleton] at this
        omega
      rw [List.getElem?_append_left hk] at e
      obtain ⟨a, h1, h2⟩ := ok0.ce k c' e
      refine ⟨a, gg.rr k a h1, ?_⟩
      cases h2 with
      | lst e1 e2 e3 e4 => exact .lst e1 (e2.mono gg) e3 e4
      | nd e1 e2 e3 => exact .nd e1 (e2.mono gg) e3
      | dead e1 => exact .dead e1
  · have e1 : (if i = h.length then some q else ρ i) = some a := e1
    have e2 : (if j = h.length then some q else ρ j) = some a := e2
    split at e1 <;> split at e2
    · omega
    · cases e1; exact absurd rfl (fresh _ _ e2)
    · cases e2; exact absurd rfl (fresh _ _ e1)
    · exact ok.nj i j a e1 e2
  · have e : (if k = h.length then some q else ρ k) = some a := e
    split at e
    · cases e; rw [hq]; simp
    · exact ok.al k a e
  · rw [List.length_append, List.length_singleton] at e
    show (if k = h.length then some q else ρ k) = none
    rw [if_neg (by omega)]
    exact ok.up k (by omega)
/-- {k: v, ..}, the keys written, no two alike -/
def mPairs : List Key → List (E Tq.A) → E (List Tq.A)
  | k :: ks, m :: ms => fun τ h => bd (m τ h) fun w h1 => bd (mPairs ks ms τ h1) fun r h2 => some (.ok (w :: r) h2)
  | _, _ => fun _ h => some (.ok [] h)
def mDict (ks : List Key) (ms : List (E Tq.A)) : E Tq.A := fun τ h => bd (mPairs ks ms τ h) fun ws h1 => if ws.length = ks.length then some (.ok (.r h1.length) (h1 ++ [.nd (.dic ks) ws])) else none
inductive RPs (X : Cx) (W : WX) (pos : Pos) : List (Option Expr) → List Expr → List Key → List (E Tq.A) → List (TE × TE) → Prop
  | nil : RPs X W pos [] [] [] [] []
  | cons {k : Key} {ke ve : Expr} {kes : List (Option Expr)} {ves : List Expr} {ks : List Key} {m : E Tq.A} {ms : List (E Tq.A)} {trs : List (TE × TE)} : PE X ke (tC (kV k)) → RX X W ve m → RPs X W pos kes ves ks ms trs →
      RPs X W pos (some ke :: kes) (ve :: ves) (k :: ks) (m :: ms) ((tC (kV k), tE X.K W m) :: trs)
theorem RPs.pps {kes : List (Option Expr)} {ves : List Expr} {ks : List Key} {ms : List (E Tq.A)} {trs : List (TE × TE)} (r : RPs X W pos kes ves ks ms trs) : PPs X pos kes ves trs := by
  induction r with
  | nil => exact pps_nil
  | cons h1 h2 _ ih => exact pps_cons h1 h2.pe ih
theorem RPs.reads {kes : List (Option Expr)} {ves : List Expr} {ks : List Key} {ms : List (E Tq.A)} {trs : List (TE × TE)} (r : RPs X W pos kes ves ks ms trs) : ∀ {σ : L2.St} {H Z B : Hp} {ρ : Nat → Option Addr} {τ : Sl} {h : Hq} {Q : List (V × V) → Hp → Prop} {R : List A → Hq → Hp → (Nat → Option Addr) → Hp → Prop},
    Ok X.K Z B ρ H h → SlOk X.K B ρ σ τ → Post X.K Z (fun c d H' => W c d σ H') B ρ R (mPairs ks ms τ h) →
    (∀ vs ws h1 B1 ρ1 H1, RAL X.K B1 ρ1 vs ws → vs.length = ks.length → Ok X.K Z B1 ρ1 H1 h1 → Gr Z B ρ B1 ρ1 → R ws h1 B1 ρ1 H1 → Q ((ks.zip vs).map fun kv => (kV kv.1, kv.2)) H1) → tPairs trs σ H Q := by
  induction r with
  | nil => exact fun ok sl q k => k [] [] _ _ _ _ .nil rfl ok Gr.refl (q.now ok)
  | cons h1 h2 _ ih =>
    intro σ H Z B ρ τ h Q R ok sl q k
    refine te_bd ok sl q fun v w h1 B1 ρ1 H1 rv ok1 sl1 g1 q1 => ?_
    refine ih ok1 sl1 q1.bd fun vs ws h2 B2 ρ2 H2 rl hl ok2 g2 q2 => ?_
    have := k (v :: vs) (w :: ws) h2 B2 ρ2 H2 (.cons (rv.mono g2) rl) (by rw [List.length_cons, List.length_cons, hl]) ok2 (g1.trans g2) (q2.now ok2)
    exact this
theorem putZ_new {k : Key} {v : V} : ∀ {l : List (Key × V)}, k ∉ l.map (·.1) → putK l k v = l ++ [(k, v)] := fun {l} h => by
  unfold putK
  have : l.any (fun kv => decide (kv.1 = k)) = false := by
    rw [List.any_eq_false]
    intro x hx e
    exact h (by rw [← of_decide_eq_true e]; exact List.mem_map_of_mem hx)
  rw [this]
  rfl
theorem mergeK_new : ∀ {more kvs : List (Key × V)}, ((kvs ++ more).map (·.1)).Nodup → mergeK kvs more = kvs ++ more
  | [], kvs, _ => by show kvs = kvs ++ []; rw [List.append_nil]
  | p :: r, kvs, h => by
    have h' : ((kvs ++ [p]) ++ r).map (·.1) = (kvs ++ p :: r).map (·.1) := by simp
    have hn : p.1 ∉ kvs.map (·.1) := by
      rw [List.map_append, List.nodup_append] at h
      exact fun z => h.2.2 p.1 z p.1 (by simp) rfl
    show mergeK (putK kvs p.1 p.2) r = _
    rw [putZ_new hn, mergeK_new (by rw [h']; exact h), List.append_assoc]
    rfl
theorem rx_dict {kes : List (Option Expr)} {ves : List Expr} {ks : List Key} {ms : List (E Tq.A)} {trs : List (TE × TE)} (r : RPs X W pos kes ves ks ms trs) (hn : ks.Nodup) (hall : kes.all (·.isSome) = true := by rfl) (hl : kes.length = ves.length := by rfl) (h0 : kes ≠ [] := by exact fun z => by cases z) (h15 : kes.length ≤ 15 := by decide) (hk : ks.length ≤ 15 := by decide) :
    RX X W (.Dict kes ves pos) (mDict ks ms) := ⟨pe_imp (pe_disp r.pps hall hl h0 h15) fun σ H Q q => by
  obtain ⟨Z, B, ρ, τ, h, ok, sl, q⟩ := q
  intro p hp
  have hzp : Z p = none := by
    cases z : Z p with
    | none => rfl
    | some u => rw [ok.zz p u z] at hp; cases hp
  have hbp : B p = none := by
    cases z : B p with
    | none => rfl
    | some u => rw [ok.ex p u z] at hp; cases hp
  have keep : ∀ {B' : Hp} {ρ' : Nat → Option Addr}, Gr (upd Z p (.dK [])) B ρ B' ρ' → B' p = none := fun {B' ρ'} g => by
    cases z : B' p with
    | none => rfl
    | some u =>
      have := g.fz p hbp (by rw [z]; simp)
      rw [upd_same] at this
      cases this
  refine r.reads (ok.aside hp) sl ((q.bd).besides hzp) fun vs ws h1 B1 ρ1 H1 rl hl1 ok1 g1 q1 => ?_
  have hb1 := keep g1
  refine ⟨ok1.zz p _ upd_same, ks.zip vs, rfl, by rw [List.length_zip, hl1, Nat.min_self]; exact hk, ?_⟩
  have hmg : mergeK [] (ks.zip vs) = ks.zip vs := by
    have := mergeK_new (more := ks.zip vs) (kvs := []) (by rw [List.nil_append, map_fst_zip hl1.symm]; exact hn)
    simpa using this
  rw [hmg]
  split at q1
  · have ok2 := ok1.turn (o2 := .dK (ks.zip vs)) hb1 hzp
    obtain ⟨ok3, g3⟩ := ok2.adoptC hzp (c := .nd (.dic ks) ws) (.nd (own := [p]) (.dic upd_same hl1.symm) rl fun b hb => by rw [List.mem_singleton.mp hb]; exact ⟨hb1, hzp⟩)
    exact q1 _ _ _ ok3 g3 _ (.r (if_pos rfl))
  · exact q1.elim⟩
end
end Tq

/-! Tq10: calls that give a new list; the law's end; plain lemmas on m's. -/
namespace Tq
open PySem PySem.Spec PyProof.Rows L2
theorem Room_u1 {k : Nat} {A : Around} (r : Room k A) : A.units + 1 < cLine := by have := r.un; omega
theorem Room_u65 {k : Nat} {A : Around} (r : Room k A) : A.units + 65 < cLine := by have := r.un; omega
theorem Room_u64 {k : Nat} {A : Around} (r : Room k A) : A.units + 64 < cLine := r.units
/-! ### a call without cells that gives a new list: the list is a cell of the caller's -/
def vwA (q : Nat) : Nat → Hq → A → Option D
  | _, _, .d x => some x
  | 0, _, _ => none
  | n + 1, h, .r k => if k = q then none else match h[k]? with
    | some (.lst ws) => (mapMn (vwA q n h) ws).map .lst
    | some (.nd hd ws) => (mapMn (vwA q n h) ws).map (.nd hd)
    | _ => none
  | n + 1, h, .tup ws => (mapMn (vwA q n h) ws).map .tup
@[simp] theorem vwA_d (q n : Nat) (h : Hq) (x : D) : vwA q n h (.d x) = some x := by cases n <;> rfl
section
variable {K : PySem.W.Frag} {Z B H : Hp} {ρ : Nat → Option Addr} {h : Hq}
theorem vwA_at {P : Hp} {q : Nat} {p : Addr} (ok : Ok K Z B ρ H h) (hq : ρ q = some p) (hp : ∀ z, H p ≠ some (.own z)) (e1 : Same B P) (e2 : ∀ b, b ≠ p → Z b = none → B b = none → ∀ u, H b = some u → P b = some u) : ∀ (n : Nat) (v : V) (w : A) (d : D), RA K B ρ v w → vwA q n h w = some d → Rp K P v d
  | n, _, .d x, d, .d r, e => by rw [vwA_d] at e; cases e; exact r.mono e1
  | 0, _, .r k, d, _, e => by cases e
  | 0, _, .tup ws, d, _, e => by cases e
  | n + 1, _, .r k, d, .r (a := a) hr, e => by
    unfold vwA at e
    split at e
    · cases e
    · rename_i hk
      have na : a ≠ p := fun z => hk (ok.nj k q p (by rw [← z]; exact hr) hq)
      split at e
      · rename_i ws e3
        obtain ⟨ds, e4, rfl⟩ := Option.map_eq_some_iff.mp e
        obtain ⟨a', h1, h2⟩ := ok.ce k _ e3
        rw [hr] at h1
        cases h1
        cases h2 with
        | lst q1 q2 q3 q4 => exact .lst (e2 _ na q4 q3 _ q1) (vws_of (vwA_at ok hq hp e1 e2 n) q2 e4)
      · rename_i hd ws e3
        obtain ⟨ds, e4, rfl⟩ := Option.map_eq_some_iff.mp e
        obtain ⟨a', h1, h2⟩ := ok.ce k _ e3
        rw [hr] at h1
        cases h1
        cases h2 with
        | nd q1 q2 q3 =>
          refine .nd (q1.to fun b hb u eu => e2 b ?_ (q3 b hb).2 (q3 b hb).1 u eu) (vws_of (vwA_at ok hq hp e1 e2 n) q2 e4)
          rcases q1.own_or.2.1 b hb with z | z
          · rw [z]; exact na
          · exact fun y => hp a (by rw [← y]; exact z)
      · cases e
  | n + 1, _, .tup ws, d, .tup ht rl, e => by
    unfold vwA at e
    obtain ⟨ds, e4, rfl⟩ := Option.map_eq_some_iff.mp e
    exact .tup (e1 _ _ ht) (vws_of (vwA_at ok hq hp e1 e2 n) rl e4)
end
def callO (sem : Sem1) (ws : List A) (h1 : Hq) : Option (Rs A) := match mapMn (view h1) ws with
  | some ds => (match sem (ds.map A.d) [] with
    | some (.ok (.r k) h') => (match h'[k]? with
      | some (.lst us) => (match mapMn (vwA k 32 h') us with
        | some es => if (allD ws).isSome || es.all D.flat then some (.ok (.r h1.length) (h1 ++ [.lst (es.map A.d)])) else none
        | none => none)
      | _ => none)
    | some (.ok (.d x) h') => callP sem ws h1
    | some (.ex x h') => if (allD ws).isSome then (match x.fz h' with | some x' => some (.ex x' h1) | none => none) else none
    | _ => none)
  | none => none
def mCallO (sem : Sem1) (mr : E (List A)) : E A := fun τ h => bd (mr τ h) fun ws h1 => callO sem ws h1
section
variable {K : PySem.W.Frag} {Z B H : Hp} {ρ : Nat → Option Addr} {h : Hq}
theorem rpl_flat {B B' : Hp} : ∀ {vs : List V} {ds : List D}, RpL K B vs ds → ds.all D.flat = true → RpL K B' vs ds
  | _, _, .nil, _ => .nil
  | _, _, .cons r t, h => by
    rw [List.all_cons, Bool.and_eq_true] at h
    exact .cons (rp_flat r h.1) (rpl_flat t h.2)
/-- back, all new but p frozen, p adopted -/
theorem Ok.backO (ok : Ok K Z B ρ H h) {B0 B' H' : Hp} {ρ' : Nat → Option Addr} {h' : Hq} {k : Nat} {us : List A} {es : List D} (hB : B0 = B ∨ (B0 = H ∧ es.all D.flat = true)) (ok' : Ok K H B' ρ' H' h') (g : Gr H B0 (fun _ => none) B' ρ') (e1 : h'[k]? = some (.lst us)) (e2 : mapMn (vwA k 32 h') us = some es) :
    ∃ p B2, ρ' k = some p ∧ Ok K Z B2 (fun j => if j = h.length then some p else ρ j) H' (h ++ [.lst (es.map A.d)]) ∧ Gr Z B ρ B2 (fun j => if j = h.length then some p else ρ j) := by
  obtain ⟨p, hp, c⟩ := ok'.ce k _ e1
  refine ⟨p, ?_⟩
  cases c with
  | lst q1 q2 q3 q4 =>
    rename_i vs
    let B2 : Hp := fun a => if H a = none ∧ a ≠ p then H' a else B a
    have s0 : Same H H' := ok'.zz
    have zn : ∀ a, H a = none → Z a = none := fun a e => by
      cases z : Z a with
      | none => rfl
      | some u => rw [ok.zz a u z] at e; cases e
    have bn : ∀ a, H a = none → B a = none := fun a e => by
      cases z : B a with
      | none => rfl
      | some u => rw [ok.ex a u z] at e; cases e
    have b1 : Same B B2 := fun a o e => by
      show (if H a = none ∧ a ≠ p then H' a else B a) = some o
      rw [if_neg fun z => by rw [ok.ex a o e] at z; exact nomatch z.1]
      exact e
    have b2 : Same B2 H' := fun a o e => by
      have e : (if H a = none ∧ a ≠ p then H' a else B a) = some o := e
      split at e
      · exact e
      · exact s0 _ _ (ok.ex a o e)
    have b3 : ∀ a, H a ≠ none → B2 a = B a := fun a e => if_neg fun z => e z.1
    have bp : B2 p = none := by
      show (if H p = none ∧ p ≠ p then H' p else B p) = none
      rw [if_neg fun z => z.2 rfl]
      exact bn p q4
    have gg : Gr Z B ρ B2 ρ := ⟨b1, fun _ _ e => e, fun a e e' => by
      by_cases z : H a = none
      · exact zn a z
      · rw [b3 a z] at e'; exact absurd e e'⟩
    have ok2 : Ok K (upd Z p (.lst vs)) B2 ρ H' h := by
      refine ⟨b2, fun a o e => ?_, fun j c e => ?_, ok.nj, fun j a e => ?_, ok.up⟩
      · by_cases z : a = p
        · subst z; rw [upd_same] at e; rw [q1]; exact e
        · rw [upd_ne z] at e; exact s0 _ _ (ok.zz a o e)
      · obtain ⟨a, h1, h2⟩ := ok.ce j c e
        refine ⟨a, h1, ?_⟩
        have ne : ∀ {b : Addr}, H b ≠ none → b ≠ p := fun hb z => hb (by rw [z]; exact q4)
        cases h2 with
        | lst e1 e2 e3 e4 => exact .lst (s0 _ _ e1) (e2.mono gg) (by rw [b3 a (by rw [e1]; simp)]; exact e3) (by rw [upd_ne (ne (by rw [e1]; simp))]; exact e4)
        | nd e1 e2 e3 => exact .nd (e1.to fun b _ u e => s0 _ _ e) (e2.mono gg) fun b hb => ⟨by rw [b3 b (e1.own_or.2.2.1 b hb)]; exact (e3 b hb).1, by rw [upd_ne (ne (e1.own_or.2.2.1 b hb))]; exact (e3 b hb).2⟩
        | dead e1 => exact .dead (by rw [upd_ne (ne (ok.al j a h1))]; exact e1)
      · have := ok.al j a e
        cases z : H a with
        | none => exact absurd z this
        | some u => rw [s0 _ _ z]; simp
    have els : RpL K B2 vs es := by
      rcases hB with rfl | ⟨rfl, hf⟩
      · have b4 : Same B' B2 := fun a o e => by
          by_cases z : B0 a = none
          · have hz := g.fz a z (by rw [e]; simp)
            show (if H a = none ∧ a ≠ p then H' a else B0 a) = some o
            rw [if_pos ⟨hz, fun y => by rw [y, q3] at e; cases e⟩]
            exact ok'.ex a o e
          · cases y : B0 a with
            | none => exact absurd y z
            | some u =>
              have := g.bb a u y
              rw [e] at this
              cases this
              exact b1 a o y
        refine vws_of (fun v w d r e => vwA_at ok' hp (fun z y => by rw [q1] at y; cases y) b4 (fun b hb hz hb' u hu => ?_) 32 v w d r e) q2 e2
        show (if H b = none ∧ b ≠ p then H' b else B0 b) = some u
        rw [if_pos ⟨hz, hb⟩]
        exact hu
      · have all : RpL K H' vs es := vws_of (fun v w d r e => vwA_at ok' hp (fun z y => by rw [q1] at y; cases y) ok'.ex (fun b _ _ _ u hu => hu) 32 v w d r e) q2 e2
        exact rpl_flat all hf
    obtain ⟨ok3, g3⟩ := ok2.adoptC (zn p q4) (c := .lst (es.map A.d)) (.lst q1 (ral_ds els) bp (zn p q4))
    exact ⟨B2, hp, ok3, gg.trans g3⟩
theorem callO_ok {W : XK} {Q : VK} {sem : Sem1} {vs : List V} {ws : List A} {np : Nat} (ok : Ok K Z B ρ H h) (r : RAL K B ρ vs ws) (hl : ws.length = np)
    (q : Post K Z W B ρ (fun w _ B' ρ' H' => ∀ v, RA K B' ρ' v w → Q v H') (callO sem ws h)) : spQ K np sem vs H Q W := by
  unfold callO at q
  split at q
  · rename_i ds e1
    split at q
    · rename_i k h' e2
      split at q
      · rename_i us e3
        split at q
        · rename_i es e4
          split at q
          · rename_i hc
            refine ⟨by rw [r.length]; exact hl, ?_⟩
            cases e0 : allD ws with
            | some ds' =>
              have := allD_view e0 e1
              subst this
              cases allD_of e0
              refine ⟨H, B, fun _ => none, [], ds'.map A.d, ok.void, ral_ds (ral_rpl r), ?_⟩
              rw [e2]
              intro B' ρ' H' ok' g v rv
              obtain ⟨p, B2, hp, o2, g2⟩ := ok.backO (.inl rfl) ok' g e3 e4
              cases rv with
              | r hr =>
                rw [hp] at hr
                cases hr
                exact q B2 _ H' o2 g2 _ (.r (if_pos rfl))
            | none =>
              rw [e0] at hc
              have hf : es.all D.flat = true := by simpa using hc
              refine ⟨H, H, fun _ => none, [], ds.map A.d, ok.voidH, ral_ds (rpl_views ok r e1), ?_⟩
              rw [e2]
              intro B' ρ' H' ok' g v rv
              obtain ⟨p, B2, hp, o2, g2⟩ := ok.backO (.inr ⟨rfl, hf⟩) ok' g e3 e4
              cases rv with
              | r hr =>
                rw [hp] at hr
                cases hr
                exact q B2 _ H' o2 g2 _ (.r (if_pos rfl))
          · exact q.elim
        · exact q.elim
      · exact q.elim
    · exact callP_ok ok r hl q
    · rename_i x h' e2
      refine callP_ok ok r hl ?_
      unfold callP
      rw [e1]
      dsimp only
      rw [e2]
      exact q
    · exact q.elim
  · exact q.elim
end
section
variable {X : Cx} {W : WX} {a o : Expr} {es : List Expr} {mr : E (List A)} {mo : E A} {sem : Sem1} {pos px apos : Pos} {j k : Nat} {ps : List Str}
theorem rx_callO {x : Str} (tk : Takes X W) (Df : Def X.prog X.w X.K X.mg X.base j x ps sem) (hr : Room k X.A) (hj : j ≤ k) (ha : RAs X W (a :: es) mr)
    (hg : Gl X x := by rfl) (hdb : (x == ("__debug__" : Str)) = false := by decide) (he : starEach (a :: es) X.env = (false, eval a X.env) :: starEach es X.env := by rfl) (hpl : (backTo pos (starEach es X.env)).any (·.1) = false := by rfl) :
    RX X W (.Call (.Name x px) (a :: es) [] pos) (mCallO sem (lenIs ps.length mr)) := by
  obtain ⟨fa, fd, F, h1, h2, h3⟩ := Df.ex
  refine ⟨pe_imp (pe_callS F (hr.mono hj) hg h1 h2 h3 (fun σ => passAt tk σ) ha.pa hdb he hpl) fun σ H Q q => ?_⟩
  obtain ⟨Z, B, ρ, τ, h, ok, sl, q⟩ := q
  have q := q.bd
  unfold lenIs at q
  refine te_args ok sl q fun vs ws h1 B1 ρ1 H1 r ok1 sl1 g1 q1 => ?_
  split at q1
  · rename_i hl
    exact callO_ok ok1 r hl (q1.now ok1)
  · exact q1.elim
end
/-! ### the law's end -/
theorem sp_law {K : PySem.W.Frag} {sem : Sem1} {a : Addr} {ns : List Int} {H : Hp} (hS : SqL K H a (ns.map V.int)) (h : ∃ h', sem [.d (.scr ns)] [] = some (.ok (.d (.bl true)) h')) : spQ K 1 sem [.ref a] H (fun v _ => v = .bl true) E0 := by
  obtain ⟨h', e⟩ := h
  refine ⟨rfl, NZ, H, fun _ => none, [], [.d (.scr ns)], ⟨fun _ _ e => e, (fun _ _ e => by cases e), (fun k o e => by simp at e), (fun _ _ _ e => by cases e), (fun _ _ e => by cases e), fun _ _ => rfl⟩, .cons (.d (.scr hS)) .nil, ?_⟩
  rw [e]
  exact fun B' ρ' H' ok g v rv => rp_bl (ra_d rv)
end Tq

/-! TrO: the order of data (truths, ints, texts, tuples of these to any depth): what the first pair that differs says. -/
namespace TrO
open PySem PySem.SeqAt
open PySem.AutoSeq1 (wpAny_loadPart')
open PySem.MeetsSeq PySem.MeetsSeq2 PySem.MeetsSeq3
def szO (op : CmpOp) (m n : Nat) : Bool := match op with
  | .Lt => decide (m < n) | .LtE => decide (m ≤ n) | .Gt => decide (m > n) | _ => decide (m ≥ n)
def LexV (op : CmpOp) (A : Around) (s : Shared) (r : Bool) : List Value → List Value → Prop
  | x :: xs, y :: ys => (EqAt A s x y true ∧ LexV op A s r xs ys) ∨ (EqAt A s x y false ∧ Ob.RcOp op A s x y r)
  | xs, ys => szO op xs.length ys.length = r
theorem szO_add (op : CmpOp) (i m n : Nat) : szO op (i + m) (i + n) = szO op m n := by
  unfold szO
  split <;> (rw [decide_eq_decide]; omega)
theorem tupLex_lt (l b : Addr) (I J : Array Value) (n m : Nat) (dd ee : Option Addr) (sl tl : Array (Option Value)) :
    Meets (Builtin.«tuple.__lt__» ⟨[.ref l, .ref b], []⟩)
      (fun A R s => s.heap.get? l = some { cls := .type "tuple", dict := dd, data := .seq I n, slots := sl } ∧ s.heap.get? b = some { cls := .type "tuple", dict := ee, data := .seq J m, slots := tl } ∧
        ∃ r, LexV .Lt A.in1 s r I.toList J.toList ∧ R (.ok (.ret (.bool r))) s) :=
  .of_wp fun prog w A R s h => by
    obtain ⟨hp, gl, dn, tk, os⟩ := s
    obtain ⟨hl, hb, r, hx, hR⟩ := h
    have sub2 := AutoSeq1.sub_tuple_tuple
    wp_walk using wpAny_loadPart' hl, wpAny_loadPart' hb, wpAny_forIn_list _ (fun rest c s' => c.1 = none ∧ s' = ⟨hp, gl, dn, tk, os⟩ ∧ ∃ xs ys k, rest = xs.zip ys ∧ LexV .Lt A.in1 ⟨hp, gl, dn, tk, os⟩ r xs ys ∧ I.size = k + xs.length ∧ J.size = k + ys.length) _
    case turn =>
      rintro ⟨p, q⟩ rest c s' ⟨hc, rfl, xs, ys, k, hz, hx, e1, e2⟩
      cases xs with
      | nil => cases hz
      | cons x xs =>
        cases ys with
        | nil => cases hz
        | cons y ys =>
          rw [List.zip_cons_cons] at hz
          injection hz with hpq hrest
          cases hpq
          rcases hx with ⟨he, hx⟩ | ⟨he, hr⟩
          · refine wpAny_bind (he prog w _ _ ?_)
            wp_walk
            exact ⟨rfl, rfl, xs, ys, k + 1, hrest, hx, by rw [e1, List.length_cons]; omega, by rw [e2, List.length_cons]; omega⟩
          · refine wpAny_bind (he prog w _ _ ?_)
            have hri := hr prog w
            wp_walk using hri
            exact ⟨_, rfl, by simpa using hR⟩
    case fin =>
      rintro ⟨c1, c2⟩ s' ⟨hc, rfl, xs, ys, k, hz, hx, e1, e2⟩
      simp only at hc
      subst hc
      have hx2 : szO .Lt xs.length ys.length = r := by
        cases xs with
        | nil => cases ys <;> exact hx
        | cons x xs =>
          cases ys with
          | nil => exact hx
          | cons y ys => cases hz
      rw [← szO_add _ k, ← e1, ← e2] at hx2
      subst hx2
      wp_walk
      exact ⟨_, rfl, by simpa [Builtin.Tuple.tupleCompareSizes, szO] using hR⟩
    case h =>
      exact ⟨rfl, rfl, I.toList, J.toList, 0, rfl, hx, by simp, by simp⟩
theorem tup_lt {A : Around} {s : Shared} {l b : Addr} {I J : Array Value} {r : Bool} (hl : s.heap.IsTuple l I) (hb : s.heap.IsTuple b J) (hu : A.units < cLine) (hx : LexV .Lt A.in1 s r I.toList J.toList) :
    Ob.RcOp .Lt A s (.ref l) (.ref b) r := fun prog w E Q hq => by
  obtain ⟨⟨c1, d1, x1, s1⟩, g1, k1, n1, z1⟩ := id hl
  obtain ⟨⟨c2, d2, x2, s2⟩, g2, k2, n2, z2⟩ := id hb
  simp only at k1 z1 k2 z2
  subst k1 z1 k2 z2
  exact richCompare_meets_room (op := .Lt) ⟨_, g1, rfl⟩ ⟨_, g2, rfl⟩ F.slot_tuple_lt F.entry_tuple_lt (F.args_tuple_lt_2 _ _) (tupLex_lt l b I J n1 n2 d1 d2 s1 s2)
    ⟨g1, g2, r, hx, ⟨(fun z => nomatch z), hq⟩⟩ hu
theorem tupLex_le (l b : Addr) (I J : Array Value) (n m : Nat) (dd ee : Option Addr) (sl tl : Array (Option Value)) :
    Meets (Builtin.«tuple.__le__» ⟨[.ref l, .ref b], []⟩)
      (fun A R s => s.heap.get? l = some { cls := .type "tuple", dict := dd, data := .seq I n, slots := sl } ∧ s.heap.get? b = some { cls := .type "tuple", dict := ee, data := .seq J m, slots := tl } ∧
        ∃ r, LexV .LtE A.in1 s r I.toList J.toList ∧ R (.ok (.ret (.bool r))) s) :=
  .of_wp fun prog w A R s h => by
    obtain ⟨hp, gl, dn, tk, os⟩ := s
    obtain ⟨hl, hb, r, hx, hR⟩ := h
    have sub2 := AutoSeq1.sub_tuple_tuple
    wp_walk using wpAny_loadPart' hl, wpAny_loadPart' hb, wpAny_forIn_list _ (fun rest c s' => c.1 = none ∧ s' = ⟨hp, gl, dn, tk, os⟩ ∧ ∃ xs ys k, rest = xs.zip ys ∧ LexV .LtE A.in1 ⟨hp, gl, dn, tk, os⟩ r xs ys ∧ I.size = k + xs.length ∧ J.size = k + ys.length) _
    case turn =>
      rintro ⟨p, q⟩ rest c s' ⟨hc, rfl, xs, ys, k, hz, hx, e1, e2⟩
      cases xs with
      | nil => cases hz
      | cons x xs =>
        cases ys with
        | nil => cases hz
        | cons y ys =>
          rw [List.zip_cons_cons] at hz
          injection hz with hpq hrest
          cases hpq
          rcases hx with ⟨he, hx⟩ | ⟨he, hr⟩
          · refine wpAny_bind (he prog w _ _ ?_)
            wp_walk
            exact ⟨rfl, rfl, xs, ys, k + 1, hrest, hx, by rw [e1, List.length_cons]; omega, by rw [e2, List.length_cons]; omega⟩
          · refine wpAny_bind (he prog w _ _ ?_)
            have hri := hr prog w
            wp_walk using hri
            exact ⟨_, rfl, by simpa using hR⟩
    case fin =>
      rintro ⟨c1, c2⟩ s' ⟨hc, rfl, xs, ys, k, hz, hx, e1, e2⟩
      simp only at hc
      subst hc
      have hx2 : szO .LtE xs.length ys.length = r := by
        cases xs with
        | nil => cases ys <;> exact hx
        | cons x xs =>
          cases ys with
          | nil => exact hx
          | cons y ys => cases hz
      rw [← szO_add _ k, ← e1, ← e2] at hx2
      subst hx2
      wp_walk
      exact ⟨_, rfl, by simpa [Builtin.Tuple.tupleCompareSizes, szO] using hR⟩
    case h =>
      exact ⟨rfl, rfl, I.toList, J.toList, 0, rfl, hx, by simp, by simp⟩
theorem tup_le {A : Around} {s : Shared} {l b : Addr} {I J : Array Value} {r : Bool} (hl : s.heap.IsTuple l I) (hb : s.heap.IsTuple b J) (hu : A.units < cLine) (hx : LexV .LtE A.in1 s r I.toList J.toList) :
    Ob.RcOp .LtE A s (.ref l) (.ref b) r := fun prog w E Q hq => by
  obtain ⟨⟨c1, d1, x1, s1⟩, g1, k1, n1, z1⟩ := id hl
  obtain ⟨⟨c2, d2, x2, s2⟩, g2, k2, n2, z2⟩ := id hb
  simp only at k1 z1 k2 z2
  subst k1 z1 k2 z2
  exact richCompare_meets_room (op := .LtE) ⟨_, g1, rfl⟩ ⟨_, g2, rfl⟩ F.slot_tuple_le F.entry_tuple_le (F.args_tuple_le_2 _ _) (tupLex_le l b I J n1 n2 d1 d2 s1 s2)
    ⟨g1, g2, r, hx, ⟨(fun z => nomatch z), hq⟩⟩ hu
theorem tupLex_gt (l b : Addr) (I J : Array Value) (n m : Nat) (dd ee : Option Addr) (sl tl : Array (Option Value)) :
    Meets (Builtin.«tuple.__gt__» ⟨[.ref l, .ref b], []⟩)
      (fun A R s => s.heap.get? l = some { cls := .type "tuple", dict := dd, data := .seq I n, slots := sl } ∧ s.heap.get? b = some { cls := .type "tuple", dict := ee, data := .seq J m, slots := tl } ∧
        ∃ r, LexV .Gt A.in1 s r I.toList J.toList ∧ R (.ok (.ret (.bool r))) s) :=
  .of_wp fun prog w A R s h => by
    obtain ⟨hp, gl, dn, tk, os⟩ := s
    obtain ⟨hl, hb, r, hx, hR⟩ := h
    have sub2 := AutoSeq1.sub_tuple_tuple
    wp_walk using wpAny_loadPart' hl, wpAny_loadPart' hb, wpAny_forIn_list _ (fun rest c s' => c.1 = none ∧ s' = ⟨hp, gl, dn, tk, os⟩ ∧ ∃ xs ys k, rest = xs.zip ys ∧ LexV .Gt A.in1 ⟨hp, gl, dn, tk, os⟩ r xs ys ∧ I.size = k + xs.length ∧ J.size = k + ys.length) _
    case turn =>
      rintro ⟨p, q⟩ rest c s' ⟨hc, rfl, xs, ys, k, hz, hx, e1, e2⟩
      cases xs with
      | nil => cases hz
      | cons x xs =>
        cases ys with
        | nil => cases hz
        | cons y ys =>
          rw [List.zip_cons_cons] at hz
          injection hz with hpq hrest
          cases hpq
          rcases hx with ⟨he, hx⟩ | ⟨he, hr⟩
          · refine wpAny_bind (he prog w _ _ ?_)
            wp_walk
            exact ⟨rfl, rfl, xs, ys, k + 1, hrest, hx, by rw [e1, List.length_cons]; omega, by rw [e2, List.length_cons]; omega⟩
          · refine wpAny_bind (he prog w _ _ ?_)
            have hri := hr prog w
            wp_walk using hri
            exact ⟨_, rfl, by simpa using hR⟩
    case fin =>
      rintro ⟨c1, c2⟩ s' ⟨hc, rfl, xs, ys, k, hz, hx, e1, e2⟩
      simp only at hc
      subst hc
      have hx2 : szO .Gt xs.length ys.length = r := by
        cases xs with
        | nil => cases ys <;> exact hx
        | cons x xs =>
          cases ys with
          | nil => exact hx
          | cons y ys => cases hz
      rw [← szO_add _ k, ← e1, ← e2] at hx2
      subst hx2
      wp_walk
      exact ⟨_, rfl, by simpa [Builtin.Tuple.tupleCompareSizes, szO] using hR⟩
    case h =>
      exact ⟨rfl, rfl, I.toList, J.toList, 0, rfl, hx, by simp, by simp⟩
theorem tup_gt {A : Around} {s : Shared} {l b : Addr} {I J : Array Value} {r : Bool} (hl : s.heap.IsTuple l I) (hb : s.heap.IsTuple b J) (hu : A.units < cLine) (hx : LexV .Gt A.in1 s r I.toList J.toList) :
    Ob.RcOp .Gt A s (.ref l) (.ref b) r := fun prog w E Q hq => by
  obtain ⟨⟨c1, d1, x1, s1⟩, g1, k1, n1, z1⟩ := id hl
  obtain ⟨⟨c2, d2, x2, s2⟩, g2, k2, n2, z2⟩ := id hb
  simp only at k1 z1 k2 z2
  subst k1 z1 k2 z2
  exact richCompare_meets_room (op := .Gt) ⟨_, g1, rfl⟩ ⟨_, g2, rfl⟩ F.slot_tuple_gt F.entry_tuple_gt (F.args_tuple_gt_2 _ _) (tupLex_gt l b I J n1 n2 d1 d2 s1 s2)
    ⟨g1, g2, r, hx, ⟨(fun z => nomatch z), hq⟩⟩ hu
theorem tupLex_ge (l b : Addr) (I J : Array Value) (n m : Nat) (dd ee : Option Addr) (sl tl : Array (Option Value)) :
    Meets (Builtin.«tuple.__ge__» ⟨[.ref l, .ref b], []⟩)
      (fun A R s => s.heap.get? l = some { cls := .type "tuple", dict := dd, data := .seq I n, slots := sl } ∧ s.heap.get? b = some { cls := .type "tuple", dict := ee, data := .seq J m, slots := tl } ∧
        ∃ r, LexV .GtE A.in1 s r I.toList J.toList ∧ R (.ok (.ret (.bool r))) s) :=
  .of_wp fun prog w A R s h => by
    obtain ⟨hp, gl, dn, tk, os⟩ := s
    obtain ⟨hl, hb, r, hx, hR⟩ := h
    have sub2 := AutoSeq1.sub_tuple_tuple
    wp_walk using wpAny_loadPart' hl, wpAny_loadPart' hb, wpAny_forIn_list _ (fun rest c s' => c.1 = none ∧ s' = ⟨hp, gl, dn, tk, os⟩ ∧ ∃ xs ys k, rest = xs.zip ys ∧ LexV .GtE A.in1 ⟨hp, gl, dn, tk, os⟩ r xs ys ∧ I.size = k + xs.length ∧ J.size = k + ys.length) _
    case turn =>
      rintro ⟨p, q⟩ rest c s' ⟨hc, rfl, xs, ys, k, hz, hx, e1, e2⟩
      cases xs with
      | nil => cases hz
      | cons x xs =>
        cases ys with
        | nil => cases hz
        | cons y ys =>
          rw [List.zip_cons_cons] at hz
          injection hz with hpq hrest
          cases hpq
          rcases hx with ⟨he, hx⟩ | ⟨he, hr⟩
          · refine wpAny_bind (he prog w _ _ ?_)
            wp_walk
            exact ⟨rfl, rfl, xs, ys, k + 1, hrest, hx, by rw [e1, List.length_cons]; omega, by rw [e2, List.length_cons]; omega⟩
          · refine wpAny_bind (he prog w _ _ ?_)
            have hri := hr prog w
            wp_walk using hri
            exact ⟨_, rfl, by simpa using hR⟩
    case fin =>
      rintro ⟨c1, c2⟩ s' ⟨hc, rfl, xs, ys, k, hz, hx, e1, e2⟩
      simp only at hc
      subst hc
      have hx2 : szO .GtE xs.length ys.length = r := by
        cases xs with
        | nil => cases ys <;> exact hx
        | cons x xs =>
          cases ys with
          | nil => exact hx
          | cons y ys => cases hz
      rw [← szO_add _ k, ← e1, ← e2] at hx2
      subst hx2
      wp_walk
      exact ⟨_, rfl, by simpa [Builtin.Tuple.tupleCompareSizes, szO] using hR⟩
    case h =>
      exact ⟨rfl, rfl, I.toList, J.toList, 0, rfl, hx, by simp, by simp⟩
theorem tup_ge {A : Around} {s : Shared} {l b : Addr} {I J : Array Value} {r : Bool} (hl : s.heap.IsTuple l I) (hb : s.heap.IsTuple b J) (hu : A.units < cLine) (hx : LexV .GtE A.in1 s r I.toList J.toList) :
    Ob.RcOp .GtE A s (.ref l) (.ref b) r := fun prog w E Q hq => by
  obtain ⟨⟨c1, d1, x1, s1⟩, g1, k1, n1, z1⟩ := id hl
  obtain ⟨⟨c2, d2, x2, s2⟩, g2, k2, n2, z2⟩ := id hb
  simp only at k1 z1 k2 z2
  subst k1 z1 k2 z2
  exact richCompare_meets_room (op := .GtE) ⟨_, g1, rfl⟩ ⟨_, g2, rfl⟩ F.slot_tuple_ge F.entry_tuple_ge (F.args_tuple_ge_2 _ _) (tupLex_ge l b I J n1 n2 d1 d2 s1 s2)
    ⟨g1, g2, r, hx, ⟨(fun z => nomatch z), hq⟩⟩ hu
end TrO

namespace TrO
open PySem PySem.SeqAt PyProof.Rows
def b2 (b : Bool) : Int := if b then 1 else 0
def cmpI (op : CmpOp) (i j : Int) : Bool := match op with
  | .Lt => decide (i < j) | .LtE => decide (i ≤ j) | .Gt => decide (j < i) | _ => decide (j ≤ i)
def cmpS (op : CmpOp) (x y : Str) : Bool := match op with
  | .Lt => decide (x.cps.toList < y.cps.toList) | .LtE => !decide (y.cps.toList < x.cps.toList) | .Gt => decide (y.cps.toList < x.cps.toList) | _ => !decide (x.cps.toList < y.cps.toList)
mutual
def ordP (op : CmpOp) : PyData → PyData → Option Bool
  | .bool x, .bool y => some (cmpI op (b2 x) (b2 y))
  | .int i, .int j => some (cmpI op i j)
  | .str x, .str y => some (cmpS op x y)
  | .tuple xs, .tuple ys => ordPs op xs ys
  | _, _ => none
def ordPs (op : CmpOp) : List PyData → List PyData → Option Bool
  | x :: xs, y :: ys => if PyData.eqv x y = true then ordPs op xs ys else ordP op x y
  | [], ys => some (szO op 0 ys.length)
  | x :: xs, [] => some (szO op (xs.length + 1) 0)
end
def Four (op : CmpOp) : Prop := op = .Lt ∨ op = .LtE ∨ op = .Gt ∨ op = .GtE
theorem rc_bool {op : CmpOp} (h : Four op) {A : Around} {s : Shared} (x y : Bool) : Ob.RcOp op A s (.bool x) (.bool y) (cmpI op (b2 x) (b2 y)) := by
  intro prog w E Q hq
  rcases h with rfl | rfl | rfl | rfl
  · exact lt_bool hq
  · exact le_bool hq
  · exact gt_bool hq
  · exact ge_bool hq
theorem rc_int {op : CmpOp} (h : Four op) {A : Around} {s : Shared} (x y : Int) (t u : Tok) : Ob.RcOp op A s (.int x t) (.int y u) (cmpI op x y) := by
  rcases h with rfl | rfl | rfl | rfl
  · exact Ob.RcOp.lt_int x y t u
  · exact Ob.RcOp.le_int x y t u
  · exact Ob.RcOp.gt_int x y t u
  · exact Ob.RcOp.ge_int x y t u
theorem rc_str {op : CmpOp} (h : Four op) {A : Around} {s : Shared} (x y : Str) (t u : Tok) : Ob.RcOp op A s (.str x t) (.str y u) (cmpS op x y) := by
  intro prog w E Q hq
  rcases h with rfl | rfl | rfl | rfl
  · exact PyProof.Rows.lt_str hq
  · exact P.le_str hq
  · exact P.gt_str hq
  · exact P.ge_str hq
theorem rc_tup {op : CmpOp} (h : Four op) {A : Around} {s : Shared} {l b : Addr} {I J : Array Value} {r : Bool} (hl : s.heap.IsTuple l I) (hb : s.heap.IsTuple b J) (hu : A.units < cLine) (hx : LexV op A.in1 s r I.toList J.toList) :
    Ob.RcOp op A s (.ref l) (.ref b) r := by
  rcases h with rfl | rfl | rfl | rfl
  · exact tup_lt hl hb hu hx
  · exact tup_le hl hb hu hx
  · exact tup_gt hl hb hu hx
  · exact tup_ge hl hb hu hx
mutual
theorem rc_ord {op : CmpOp} (h4 : Four op) : ∀ (da db : PyData) (A : Around) (s : Shared) (a b : Value) (as bs : List Addr) (r : Bool), Reads s.heap a da as → Reads s.heap b db bs → da.canLay0 = true → db.canLay0 = true → ordP op da db = some r →
    A.units + min da.depth db.depth < cLine → Ob.RcOp op A s a b r
  | .none, db, _, _, _, _, _, _, _, _, _, _, _, h, _ => by cases db <;> cases h
  | .dict _, db, _, _, _, _, _, _, _, _, _, _, _, h, _ => by cases db <;> cases h
  | .list _, db, _, _, _, _, _, _, _, _, _, _, _, h, _ => by cases db <;> cases h
  | .bool x, db, A, s, a, b, as, bs, r, ra, rb, _, _, h, _ => by
    cases db with
    | bool y =>
      cases h
      cases ra
      cases rb
      exact rc_bool h4 x y
    | _ => cases h
  | .int x, db, A, s, a, b, as, bs, r, ra, rb, _, _, h, _ => by
    cases db with
    | int y =>
      cases h
      cases ra
      cases rb
      exact rc_int h4 x y _ _
    | _ => cases h
  | .str x, db, A, s, a, b, as, bs, r, ra, rb, _, _, h, _ => by
    cases db with
    | str y =>
      cases h
      cases ra
      cases rb
      exact rc_str h4 x y _ _
    | _ => cases h
  | .tuple xs, db, A, s, a, b, as, bs, r, ra, rb, la, lb, h, hu => by
    cases db with
    | tuple ys =>
      have h : ordPs op xs ys = some r := h
      cases ra with
      | @tuple l o vs n _ as₁ h1 h2 h3 r1 =>
        cases rb with
        | @tuple l' o' vs' n' _ bs₁ k1 k2 k3 r2 =>
          have hu : A.units + min (PyData.depthAll xs + 1) (PyData.depthAll ys + 1) < cLine := hu
          refine rc_tup h4 ⟨_, h1, h2, _, h3⟩ ⟨_, k1, k2, _, k3⟩ (by omega) ?_
          exact rc_ords h4 xs ys A.in1 s _ _ _ _ r r1 r2 la lb h (by show A.units + 1 + _ < _; omega)
    | _ => cases h
theorem rc_ords {op : CmpOp} (h4 : Four op) : ∀ (xs ys : List PyData) (A : Around) (s : Shared) (vs ws : List Value) (as bs : List Addr) (r : Bool), ReadsAll s.heap vs xs as → ReadsAll s.heap ws ys bs → PyData.canLayAll0 xs = true → PyData.canLayAll0 ys = true → ordPs op xs ys = some r →
    A.units + min (PyData.depthAll xs) (PyData.depthAll ys) < cLine → LexV op A s r vs ws
  | [], ys, A, s, vs, ws, as, bs, r, ra, rb, _, _, h, _ => by
    cases ra
    have h : some (szO op 0 ys.length) = some r := by cases ys <;> exact h
    have hl := ReadsAll.length _ _ _ rb
    cases h
    cases ws with
    | nil => show szO op 0 0 = szO op 0 ys.length; rw [← hl]; rfl
    | cons w ws => show szO op 0 (w :: ws).length = szO op 0 ys.length; rw [← hl]
  | x :: xs, [], A, s, vs, ws, as, bs, r, ra, rb, _, _, h, _ => by
    cases rb
    cases ra with
    | cons h1 h2 =>
      have h : some (szO op (xs.length + 1) 0) = some r := h
      have hl := ReadsAll.length _ _ _ h2
      cases h
      show szO op (_ + 1) 0 = szO op (xs.length + 1) 0
      rw [hl]
  | x :: xs, y :: ys, A, s, vs, ws, as, bs, r, ra, rb, la, lb, h, hu => by
    cases ra with
    | cons r1 ra =>
      cases rb with
      | cons r2 rb =>
        have la : (x.canLay0 && PyData.canLayAll0 xs) = true := la
        have lb : (y.canLay0 && PyData.canLayAll0 ys) = true := lb
        have hu : A.units + min (max x.depth (PyData.depthAll xs)) (max y.depth (PyData.depthAll ys)) < cLine := hu
        rw [Bool.and_eq_true] at la lb
        have he := eqAt_reads x y A s _ _ _ _ r1 r2 la.1 lb.1 (by omega)
        have h : (if PyData.eqv x y = true then ordPs op xs ys else ordP op x y) = some r := h
        by_cases e : PyData.eqv x y = true
        · rw [if_pos e] at h
          rw [e] at he
          exact .inl ⟨he, rc_ords h4 xs ys A s _ _ _ _ r ra rb la.2 lb.2 h (by omega)⟩
        · rw [if_neg e] at h
          rw [Bool.not_eq_true] at e
          rw [e] at he
          exact .inr ⟨he, rc_ord h4 x y A s _ _ _ _ r r1 r2 la.1 lb.1 h (by omega)⟩
end
end TrO
namespace Tq
open PySem PySem.Spec PyProof.Rows L2
def ordD (op : CmpOp) (x y : D) : Option Bool := if x.shp && y.shp then TrO.ordP op x.toP y.toP else none
abbrev gOrdO (op : CmpOp) : G2 := g2V (ordD op)
def rOrd (K : PySem.W.Frag) (op : CmpOp) : R2 := fun x y H Q => ∃ da db r, Dp K H x da ∧ Dp K H y db ∧ SeqAt.shaped da = true ∧ SeqAt.shaped db = true ∧ TrO.ordP op da db = some r ∧ Q (.bl r) H
theorem op_ord {X : Cx} {op : CmpOp} (hu : X.A.units + 64 < cLine) (h4 : TrO.Four op) : OpR X (compareOp op) (rOrd X.K op) := by
  intro pins s σ H x y v u Q I rx ry h
  obtain ⟨da, db, r, ha, hb, sa, sb, e, q⟩ := h
  obtain ⟨as, r1⟩ := Dp.reads I da x v ha rx
  obtain ⟨bs, r2⟩ := Dp.reads I db y u hb ry
  have z := TrO.rc_ord h4 da db X.A s v u as bs r r1 r2 (SeqAt.canLay_of_shaped sa) (SeqAt.canLay_of_shaped sb) e (SeqAt.room_of_shaped sa hu)
  have z2 : wpAny (model X.prog X.w) X.A (richCompare op v u) (EP X pins σ Q) X.xe s := z X.prog X.w X.xe (EP X pins σ Q) ⟨.bl _, H, I, rfl, q⟩
  rcases h4 with rfl | rfl | rfl | rfl <;> exact z2
theorem og_ordO {K : PySem.W.Frag} {op : CmpOp} : Op2 K (rOrd K op) (gOrdO op) := og_2v fun H x y d e k Q rx ry hk q => by
  unfold ordD at hk
  split at hk
  · rename_i hs
    rw [Bool.and_eq_true] at hs
    exact ⟨_, _, k, rx.dp hs.1, ry.dp hs.2, hs.1, hs.2, hk, q⟩
  · cases hk
theorem op_ltO {X : Cx} (hu : X.A.units + 64 < cLine) : OpR X (compareOp .Lt) (rOrd X.K .Lt) := op_ord hu (.inl rfl)
theorem op_leO {X : Cx} (hu : X.A.units + 64 < cLine) : OpR X (compareOp .LtE) (rOrd X.K .LtE) := op_ord hu (.inr (.inl rfl))
theorem op_gtO {X : Cx} (hu : X.A.units + 64 < cLine) : OpR X (compareOp .Gt) (rOrd X.K .Gt) := op_ord hu (.inr (.inr (.inl rfl)))
theorem op_geO {X : Cx} (hu : X.A.units + 64 < cLine) : OpR X (compareOp .GtE) (rOrd X.K .GtE) := op_ord hu (.inr (.inr (.inr rfl)))
end Tq

/-! Tq11: reckoning with m's, in plain Lean. -/
namespace Tq
open PySem PySem.Spec PyProof.Rows L2
/-! ### loops -/
section
variable {g : A → Sl → Hq → Option Sl} {mb : MS} {ws : List A}
theorem forL_inv (I : Nat → Sl → Hq → Prop) {τ : Sl} {h : Hq} (h0 : I 0 τ h) (hs : ∀ n w τ h, ws[n]? = some w → I n τ h → ∃ τ1 τ2 h2, g w τ h = some τ1 ∧ (mb τ1 h = some (.nx τ2 h2) ∨ mb τ1 h = some (.ct τ2 h2)) ∧ I (n + 1) τ2 h2) (hl : ws.length ≤ LIM) :
    ∃ τ' h', forM (nxL ws) g mb FU 0 τ h = some (.nx τ' h') ∧ I ws.length τ' h' := by
  have go : ∀ (k n f : Nat) (τ : Sl) (h : Hq), ws.length - n = k → n ≤ ws.length → k < f → I n τ h → ∃ τ' h', forM (nxL ws) g mb f n τ h = some (.nx τ' h') ∧ I ws.length τ' h' := by
    intro k
    induction k with
    | zero =>
      intro n f τ h e hn hf hi
      have : n = ws.length := by omega
      subst this
      obtain ⟨f, rfl⟩ : ∃ f', f = f' + 1 := ⟨f - 1, by omega⟩
      refine ⟨τ, h, ?_, hi⟩
      unfold forM nxL
      rw [List.getElem?_eq_none (Nat.le_refl _)]
    | succ k ih =>
      intro n f τ h e hn hf hi
      have hlt : n < ws.length := by omega
      obtain ⟨f, rfl⟩ : ∃ f', f = f' + 1 := ⟨f - 1, by omega⟩
      have hw : ws[n]? = some ws[n] := List.getElem?_eq_getElem hlt
      obtain ⟨τ1, τ2, h2, e1, e2, i2⟩ := hs n _ τ h hw hi
      obtain ⟨τ', h', e3, i3⟩ := ih (n + 1) f τ2 h2 (by omega) (by omega) (by omega) i2
      refine ⟨τ', h', ?_, i3⟩
      unfold forM
      show (match nxL ws n h with | _ => _) = _
      unfold nxL
      rw [hw]
      dsimp only
      rw [e1]
      dsimp only
      rcases e2 with e2 | e2 <;> (rw [e2]; exact e3)
  exact go ws.length 0 FU τ h (by omega) (Nat.zero_le _) (by show ws.length < 16777217; have : ws.length ≤ 16777216 := hl; omega) h0
/-- over a cell that stays as it is -/
theorem forC_inv {k : Nat} (I : Nat → Sl → Hq → Prop) {τ : Sl} {h : Hq} (hk : ∀ n τ h, I n τ h → h[k]? = some (.lst ws)) (h0 : I 0 τ h) (hs : ∀ n w τ h, ws[n]? = some w → I n τ h → ∃ τ1 τ2 h2, g w τ h = some τ1 ∧ (mb τ1 h = some (.nx τ2 h2) ∨ mb τ1 h = some (.ct τ2 h2)) ∧ I (n + 1) τ2 h2) (hl : ws.length ≤ LIM) :
    ∃ τ' h', forM (nxC k) g mb FU 0 τ h = some (.nx τ' h') ∧ I ws.length τ' h' := by
  have go : ∀ (j n f : Nat) (τ : Sl) (h : Hq), ws.length - n = j → n ≤ ws.length → j < f → I n τ h → ∃ τ' h', forM (nxC k) g mb f n τ h = some (.nx τ' h') ∧ I ws.length τ' h' := by
    intro j
    induction j with
    | zero =>
      intro n f τ h e hn hf hi
      have : n = ws.length := by omega
      subst this
      obtain ⟨f, rfl⟩ : ∃ f', f = f' + 1 := ⟨f - 1, by omega⟩
      refine ⟨τ, h, ?_, hi⟩
      unfold forM nxC
      rw [hk _ _ _ hi]
      dsimp only
      rw [List.getElem?_eq_none (Nat.le_refl _)]
    | succ j ih =>
      intro n f τ h e hn hf hi
      have hlt : n < ws.length := by omega
      obtain ⟨f, rfl⟩ : ∃ f', f = f' + 1 := ⟨f - 1, by omega⟩
      have hw : ws[n]? = some ws[n] := List.getElem?_eq_getElem hlt
      obtain ⟨τ1, τ2, h2, e1, e2, i2⟩ := hs n _ τ h hw hi
      obtain ⟨τ', h', e3, i3⟩ := ih (n + 1) f τ2 h2 (by omega) (by omega) (by omega) i2
      refine ⟨τ', h', ?_, i3⟩
      unfold forM
      show (match nxC k n h with | _ => _) = _
      unfold nxC
      rw [hk _ _ _ hi]
      dsimp only
      rw [hw]
      dsimp only
      rw [e1]
      dsimp only
      rcases e2 with e2 | e2 <;> (rw [e2]; exact e3)
  exact go ws.length 0 FU τ h (by omega) (Nat.zero_le _) (by show ws.length < 16777217; have : ws.length ≤ 16777216 := hl; omega) h0
/-- a comprehension that leaves the cells alone -/
theorem compL_map {me : E A} {τw : Sl} {h : Hq} (f : A → A) (hs : ∀ w ∈ ws, ∃ τ1, g w τw h = some τ1 ∧ me τ1 h = some (.ok (f w) h)) (hl : ws.length ≤ LIM) : compM (nxL ws) g mYes me τw FU 0 h = some (ws.map f, h) := by
  have go : ∀ (k n fu : Nat), ws.length - n = k → n ≤ ws.length → k < fu → compM (nxL ws) g mYes me τw fu n h = some ((ws.drop n).map f, h) := by
    intro k
    induction k with
    | zero =>
      intro n fu e hn hf
      have : n = ws.length := by omega
      subst this
      obtain ⟨fu, rfl⟩ : ∃ f', fu = f' + 1 := ⟨fu - 1, by omega⟩
      unfold compM nxL
      rw [List.getElem?_eq_none (Nat.le_refl _), List.drop_length]
      rfl
    | succ k ih =>
      intro n fu e hn hf
      have hlt : n < ws.length := by omega
      obtain ⟨fu, rfl⟩ : ∃ f', fu = f' + 1 := ⟨fu - 1, by omega⟩
      have hw : ws[n]? = some ws[n] := List.getElem?_eq_getElem hlt
      obtain ⟨τ1, e1, e2⟩ := hs _ (List.getElem_mem hlt)
      unfold compM
      show (match nxL ws n h with | _ => _) = _
      unfold nxL
      rw [hw]
      dsimp only
      rw [e1]
      dsimp only [mYes]
      rw [e2]
      dsimp only
      have := ih (n + 1) fu (by omega) (by omega) (by omega)
      rw [show compM (fun i _ => some ws[i]?) g mYes me τw fu (n + 1) h = compM (nxL ws) g mYes me τw fu (n + 1) h from rfl] at *
      rw [this]
      dsimp only
      rw [List.drop_eq_getElem_cons hlt, List.map_cons]
  have := go ws.length 0 FU (by omega) (Nat.zero_le _) (by show ws.length < 16777217; have : ws.length ≤ 16777216 := hl; omega)
  rwa [List.drop_zero] at this
/-- a comprehension whose items come with a property, while I holds of the cells -/
theorem compL_inv {mt : E Bool} {me : E A} {τw : Sl} {h : Hq} (I : Nat → Hq → List A → Prop) (h0 : I 0 h []) (hs : ∀ n w h as, ws[n]? = some w → I n h as → ∃ τ1, g w τw h = some τ1 ∧ ((∃ h1 h2 a, mt τ1 h = some (.ok true h1) ∧ me τ1 h1 = some (.ok a h2) ∧ I (n + 1) h2 (as ++ [a])) ∨ ∃ h1, mt τ1 h = some (.ok false h1) ∧ I (n + 1) h1 as)) (hl : ws.length ≤ LIM) :
    ∃ as h', compM (nxL ws) g mt me τw FU 0 h = some (as, h') ∧ I ws.length h' as := by
  have go : ∀ (k n fu : Nat) (h : Hq) (as : List A), ws.length - n = k → n ≤ ws.length → k < fu → I n h as → ∃ bs h', compM (nxL ws) g mt me τw fu n h = some (bs, h') ∧ I ws.length h' (as ++ bs) := by
    intro k
    induction k with
    | zero =>
      intro n fu h as e hn hf hi
      have : n = ws.length := by omega
      subst this
      obtain ⟨fu, rfl⟩ : ∃ f', fu = f' + 1 := ⟨fu - 1, by omega⟩
      refine ⟨[], h, ?_, by simpa using hi⟩
      unfold compM nxL
      rw [List.getElem?_eq_none (Nat.le_refl _)]
    | succ k ih =>
      intro n fu h as e hn hf hi
      have hlt : n < ws.length := by omega
      obtain ⟨fu, rfl⟩ : ∃ f', fu = f' + 1 := ⟨fu - 1, by omega⟩
      have hw : ws[n]? = some ws[n] := List.getElem?_eq_getElem hlt
      obtain ⟨τ1, e1, r⟩ := hs n _ h as hw hi
      have un : nxL ws n h = some (some ws[n]) := by unfold nxL; rw [hw]
      rcases r with ⟨h1, h2, a, e2, e3, i2⟩ | ⟨h1, e2, i2⟩
      · obtain ⟨bs, h', e4, i3⟩ := ih (n + 1) fu h2 _ (by omega) (by omega) (by omega) i2
        refine ⟨a :: bs, h', ?_, by simpa using i3⟩
        unfold compM
        rw [un]
        dsimp only
        rw [e1]
        dsimp only
        rw [e2]
        dsimp only
        rw [e3]
        dsimp only
        rw [e4]
      · obtain ⟨bs, h', e4, i3⟩ := ih (n + 1) fu h1 _ (by omega) (by omega) (by omega) i2
        refine ⟨bs, h', ?_, i3⟩
        unfold compM
        rw [un]
        dsimp only
        rw [e1]
        dsimp only
        rw [e2]
        exact e4
  obtain ⟨bs, h', e, i⟩ := go ws.length 0 FU h [] (by omega) (Nat.zero_le _) (by show ws.length < 16777217; have : ws.length ≤ 16777216 := hl; omega) h0
  exact ⟨bs, h', e, by simpa using i⟩
end
/-! ### steps -/
theorem seq_nx {m1 m2 : MS} {τ τ1 : Sl} {h h1 : Hq} (e : m1 τ h = some (.nx τ1 h1)) : mSeq m1 m2 τ h = m2 τ1 h1 := by
  unfold mSeq
  rw [e]
theorem seq_rt {m1 m2 : MS} {τ : Sl} {w : A} {h h1 : Hq} (e : m1 τ h = some (.rt w h1)) : mSeq m1 m2 τ h = some (.rt w h1) := by
  unfold mSeq
  rw [e]
theorem runB_rt {np n : Nat} {m : MS} {ws : List A} {w : A} {h h1 : Hq} (hl : ws.length = np) (e : m (startT n ws) h = some (.rt w h1)) : runB np n m ws h = some (.ok w h1) := by
  unfold runB
  rw [if_pos hl, e]
theorem runB_nx {np n : Nat} {m : MS} {ws : List A} {τ : Sl} {h h1 : Hq} (hl : ws.length = np) (e : m (startT n ws) h = some (.nx τ h1)) : runB np n m ws h = some (.ok (.d .non) h1) := by
  unfold runB
  rw [if_pos hl, e]
theorem mFor_of {mi : E Nxt} {g : A → Sl → Hq → Option Sl} {mb : MS} {τ : Sl} {h h1 : Hq} {nx : Nxt} (e : mi τ h = some (.ok nx h1)) : mFor mi g mb τ h = forM nx g mb FU 0 τ h1 := by
  unfold mFor
  rw [e]
  rfl
theorem mRange1_of {m : E A} {τ : Sl} {h h1 : Hq} {j : Int} (e : m τ h = some (.ok (.d (.int j)) h1)) (h0 : -4611686018427387904 ≤ j) (h2 : j < 4611686018427387904) : mRange1 m τ h = some (.ok (nxL (rangeA 0 j.toNat)) h1) := by
  unfold mRange1
  rw [e]
  show (if _ then _ else _) = _
  rw [if_pos ⟨h0, h2⟩]
theorem rangeA_len (lo : Int) (n : Nat) : (rangeA lo n).length = n := by unfold rangeA; rw [List.length_map, List.length_range]
theorem rangeA_get {lo : Int} {n i : Nat} {w : A} (h : (rangeA lo n)[i]? = some w) : i < n ∧ w = .d (.int (lo + (i : Nat))) := by
  have hi : i < n := by
    rw [← rangeA_len lo n]
    exact (List.getElem?_eq_some_iff.mp h).1
  unfold rangeA at h
  rw [List.getElem?_map, List.getElem?_range hi] at h
  cases h
  exact ⟨hi, rfl⟩
theorem rangeA_mem {lo : Int} {n : Nat} {w : A} (h : w ∈ rangeA lo n) : ∃ i : Nat, i < n ∧ w = .d (.int (lo + (i : Nat))) := by
  unfold rangeA at h
  obtain ⟨i, h1, h2⟩ := List.mem_map.mp h
  exact ⟨i, List.mem_range.mp h1, h2.symm⟩
theorem rangeA_map {lo : Int} {n : Nat} (f : A → A) : (rangeA lo n).map f = (List.range n).map fun i => f (.d (.int (lo + (i : Nat)))) := by
  unfold rangeA
  rw [List.map_map]
  rfl
/-! ### single m's -/
theorem append_of {τ : Sl} {h : Hq} {k : Nat} {ws : List A} {w : A} {mo mv : E A} (h1 : mo τ h = some (.ok (.r k) h)) (e : h[k]? = some (.lst ws)) (h2 : mv τ h = some (.ok w h)) (hl : ws.length < LIM) : mDrop (mM1 tokL gApp mo mv) τ h = some (.nx τ (h.set k (.lst (ws ++ [w])))) := by
  have t : tokL (.r k) h = true := by
    unfold tokL lstOf
    dsimp only
    rw [e]
    rfl
  have ga : gApp (.r k) w h = some (.ok (.d .non) (h.set k (.lst (ws ++ [w])))) := by
    unfold gApp
    dsimp only
    rw [e]
    dsimp only
    rw [if_pos hl]
  unfold mDrop mM1
  rw [h1, bd_ok, if_pos t, h2, bd_ok, ga, sb_ok]
theorem set_of {τ : Sl} {h h1 : Hq} {i : Nat} {w : A} {m : E A} (e : m τ h = some (.ok w h1)) : mSet i m τ h = some (.nx (τ.set i (some w)) h1) := by
  unfold mSet
  rw [e, sb_ok]
theorem drop_of {τ : Sl} {h h1 : Hq} {w : A} {m : E A} (e : m τ h = some (.ok w h1)) : mDrop m τ h = some (.nx τ h1) := by
  unfold mDrop
  rw [e, sb_ok]
theorem ret_of {τ : Sl} {h h1 : Hq} {w : A} {m : E A} (e : m τ h = some (.ok w h1)) : mRet m τ h = some (.rt w h1) := by
  unfold mRet
  rw [e, sb_ok]
theorem if_tt {t : E Bool} {m1 m2 : MS} {τ : Sl} {h h1 : Hq} (e : t τ h = some (.ok true h1)) : mIf t m1 m2 τ h = m1 τ h1 := by
  unfold mIf
  rw [e, sb_ok]
theorem if_ff {t : E Bool} {m1 m2 : MS} {τ : Sl} {h h1 : Hq} (e : t τ h = some (.ok false h1)) : mIf t m1 m2 τ h = m2 τ h1 := by
  unfold mIf
  rw [e, sb_ok]
theorem bin_of {g : G2} {ma mb : E A} {τ : Sl} {h h1 h2 : Hq} {a b : A} (e1 : ma τ h = some (.ok a h1)) (e2 : mb τ h1 = some (.ok b h2)) : mBin g ma mb τ h = g a b h2 := by
  unfold mBin
  rw [e1, bd_ok, e2, bd_ok]
theorem un_of {g : G1} {ma : E A} {τ : Sl} {h h1 : Hq} {a : A} (e1 : ma τ h = some (.ok a h1)) : mUn g ma τ h = g a h1 := by
  unfold mUn
  rw [e1, bd_ok]
theorem tb_of {m : E A} {τ : Sl} {h h1 : Hq} {k : Bool} (e : m τ h = some (.ok (.d (.bl k)) h1)) : mTB m τ h = some (.ok k h1) := by
  unfold mTB
  rw [e, bd_ok]
theorem var_of {τ : Sl} {h : Hq} {i : Nat} {w : A} (e : τ[i]? = some (some w)) : mVar i τ h = some (.ok w h) := by
  unfold mVar
  rw [e]
theorem cons_of {ma : E A} {mr : E (List A)} {τ : Sl} {h h1 h2 : Hq} {a : A} {r : List A} (e1 : ma τ h = some (.ok a h1)) (e2 : mr τ h1 = some (.ok r h2)) : maCons ma mr τ h = some (.ok (a :: r) h2) := by
  unfold maCons
  rw [e1, bd_ok, e2, bd_ok]
theorem meth_of {C m : Str} {n : Nat} {sem : Sem1} {mo : E A} {mr : E (List A)} {τ : Sl} {h h1 h2 : Hq} {a : A} {ws : List A} (e1 : mo τ h = some (.ok a h1)) (hi : insOf C m a h1 = true) (e2 : mr τ h1 = some (.ok ws h2)) (hl : ws.length + 1 = n) : mMeth C m n sem mo mr τ h = sem (a :: ws) h2 := by
  unfold mMeth
  rw [e1, bd_ok, if_pos hi, e2, bd_ok, if_pos hl]
theorem len_of {n : Nat} {mr : E (List A)} {τ : Sl} {h h1 : Hq} {ws : List A} (e : mr τ h = some (.ok ws h1)) (hl : ws.length = n) : lenIs n mr τ h = some (.ok ws h1) := by
  unfold lenIs
  rw [e, bd_ok, if_pos hl]
theorem call_of {sem : Sem1} {mr : E (List A)} {τ : Sl} {h h1 : Hq} {ws : List A} (e : mr τ h = some (.ok ws h1)) : mCall sem mr τ h = sem ws h1 := by
  unfold mCall
  rw [e, bd_ok]
theorem callP_of {sem : Sem1} {mr : E (List A)} {τ : Sl} {h h1 h' : Hq} {ds : List D} {w : A} {d : D} (e : mr τ h = some (.ok (ds.map A.d) h1)) (e2 : sem (ds.map A.d) [] = some (.ok w h')) (e3 : view h' w = some d) : mCallP sem mr τ h = some (.ok (.d d) h1) := by
  unfold mCallP
  rw [e, bd_ok]
  unfold callP
  rw [mapMn_d _ _ (vw_d 32 h1)]
  dsimp only
  rw [e2]
  dsimp only
  rw [e3, allD_map]
  rfl
theorem view_lst {h : Hq} {k : Nat} {ds : List D} (e : h[k]? = some (.lst (ds.map A.d))) : view h (.r k) = some (.lst ds) := vw_cell (n := 31) e
theorem set_same {h : Hq} {k : Nat} {o : O} (e : h[k]? = some o) : h.set k o = h := by
  obtain ⟨hk, rfl⟩ := List.getElem?_eq_some_iff.mp e
  exact List.set_getElem_self hk
/-! ### data that is compared -/
def D.fok : D → Bool
  | .str z => PyData.strOk z
  | .non => true | .bl _ => true | .int _ => true
  | _ => false
theorem lay_fok : ∀ {d : D}, d.fok = true → d.toP.canLay0 = true ∧ d.toP.depth = 0
  | .non, _ => ⟨rfl, rfl⟩
  | .bl _, _ => ⟨rfl, rfl⟩
  | .int _, _ => ⟨rfl, rfl⟩
  | .str _, h => ⟨h, rfl⟩
theorem lays_fok : ∀ {ds : List D}, ds.all D.fok = true → PyData.canLayAll0 (D.toPs ds) = true ∧ PyData.depthAll (D.toPs ds) = 0
  | [], _ => ⟨rfl, rfl⟩
  | d :: r, h => by
    rw [List.all_cons, Bool.and_eq_true] at h
    obtain ⟨h1, h2⟩ := lay_fok h.1
    obtain ⟨h3, h4⟩ := lays_fok h.2
    constructor
    · show (d.toP.canLay0 && PyData.canLayAll0 (D.toPs r)) = true
      rw [h1, h3]
      rfl
    · show max d.toP.depth (PyData.depthAll (D.toPs r)) = 0
      rw [h2, h4]
      rfl
theorem shp_fok {d : D} (h : d.fok = true) : d.shp = true := by
  obtain ⟨h1, h2⟩ := lay_fok h
  show (d.toP.canLay0 && decide (d.toP.depth ≤ 64)) = true
  rw [h1, h2]
  rfl
theorem shp_lst {ds : List D} (h : ds.all D.fok = true) : (D.lst ds).shp = true := by
  obtain ⟨h1, h2⟩ := lays_fok h
  show (PyData.canLayAll0 (D.toPs ds) && decide (PyData.depthAll (D.toPs ds) + 1 ≤ 64)) = true
  rw [h1, h2]
  rfl
theorem shp_tup {ds : List D} (h : ds.all D.fok = true) : (D.tup ds).shp = true := shp_lst (ds := ds) h
theorem eqv_str (a b : Str) : D.eqv (.str a) (.str b) = decide (a = b) := by
  rw [show D.eqv (.str a) (.str b) = (a == b) from rfl, Bool.eq_iff_iff]
  simp
theorem eqv_int (a b : Int) : D.eqv (.int a) (.int b) = decide (a = b) := rfl
theorem eqv_refl {d : D} (h : d.shp = true) : D.eqv d d = true := by
  exact SeqAt.eqv_refl _ (SeqAt.canLay_of_shaped h)
theorem eqD_same {n : Bool} {x : D} (h : x.shp = true) : eqD n x x = some (!n) := by
  unfold eqD
  rw [h, eqv_refl h]
  cases n <;> rfl
@[simp] theorem eqD_int (n : Bool) (i j : Int) : eqD n (.int i) (.int j) = some (if n then !decide (i = j) else decide (i = j)) := by
  rw [← show (i == j) = decide (i = j) from rfl]
  rfl
theorem log2_lt {a k : Nat} (h : a < 2 ^ k) (hk : 0 < k) : a.log2 < k := by
  by_cases z : a = 0
  · subst z; simpa using hk
  · exact (Nat.log2_lt z).mpr h
theorem mulOk_of {i j : Int} {a b : Nat} (h1 : i.natAbs < 2 ^ a) (h2 : j.natAbs < 2 ^ b) (ha : 0 < a) (hb : 0 < b) (h : a + b ≤ 134000000) : mulOk i j = true := by
  unfold mulOk
  have := log2_lt h1 ha
  have := log2_lt h2 hb
  exact decide_eq_true (by omega)
theorem divOk_of {i j : Int} {b : Nat} (h0 : 0 < j) (h2 : j.natAbs < 2 ^ b) (hb : 0 < b) (h : b ≤ 9000) : divOk i j = true := by
  unfold divOk
  have := log2_lt h2 hb
  rw [decide_eq_true h0, Bool.true_and]
  exact decide_eq_true (by omega)
theorem atI_in {α : Type} {xs : List α} {i : Int} (h0 : 0 ≤ i) (h1 : i.toNat < xs.length) : atI xs i = some xs[i.toNat] := by
  unfold atI ixN
  rw [if_pos h0, if_pos (by omega)]
  exact List.getElem?_eq_getElem h1
end Tq

/-! Tq12: raise C('text') of an own class without __init__; try .. except C: of one clause, no name. -/
namespace Tq
open PySem PySem.Spec PyProof.Rows L2

structure ExC (K : PySem.W.Frag) (mg : Str → Option Value) (C : Str) : Prop where
  ex : ∃ (c : Addr) (bmB : List Value) (B newId initId : String), ExcBaseFacts B newId initId bmB ∧ PySem.W.excIn K c bmB newId = true ∧ mg C = some (.ref c) ∧ glAt K C = some c ∧ PySem.W.keepIn K (.ref c) = true ∧ PySem.W.subIn K (.ref c) (.type "BaseException") = some true ∧ PySem.W.typeIn K (.ref c) = some (.type "type")
def mRaise (C : Str) : MS := fun τ h => some (.ex (.own C) τ h)
theorem rs_raise {X : Cx} {W : WX} {C m : Str} {j : Nat} {p p2 pos pos' : Pos} (tk : Takes X W) (e : ExC X.K X.mg C) (hc : X.calm = true := by rfl) (hg : Gl X C := by rfl) (hdb : (C == ("__debug__" : Str)) = false := by decide) :
    RS X W (.Raise (some (.Call (.Name C p) [.Constant (.str m) j p2] [] pos)) none pos') (mRaise C) := by
  obtain ⟨c, bmB, B, nI, iI, F, q, g1, g2, kp, s1, s2⟩ := e.ex
  refine ⟨ps_imp (L2.ps_raise hc tk (L2.pmk_own F q g1 kp (L2.raises_own s1 s2) hg hdb)) fun D σ H hq => ?_⟩
  obtain ⟨Z, B', ρ, τ, h, ok, sl, q2⟩ := hq
  exact q2 σ B' ρ H _ _ ok sl Gr.refl (.own g2)

/-! ### try -/
inductive Xn where
  | own (C : Str) | blt (T : String)
deriving DecidableEq
def Xc.nm : Xc → Xn
  | .own C => .own C
  | .fld C _ _ => .own C
  | .blt T => .blt T
def xLook : List (Xn × Bool) → Xn → Option Bool
  | [], _ => none
  | (y, b) :: r, x => if y = x then some b else xLook r x
def XnV (K : PySem.W.Frag) : Xn → Value → Prop
  | .own D, cls => ∃ d, glAt K D = some d ∧ cls = .ref d
  | .blt T, cls => cls = .type T
def XAll (K : PySem.W.Frag) (c : Value) (T : List (Xn × Bool)) : Prop := ∀ x b, xLook T x = some b → ∀ cls, XnV K x cls → PySem.W.exmOne K cls c = some b
theorem xall_nil {K : PySem.W.Frag} {c : Value} : XAll K c [] := fun _ _ e => by cases e
theorem xall_own {K : PySem.W.Frag} {c : Value} {T : List (Xn × Bool)} {D : Str} {d : Addr} {b : Bool} (h : glAt K D = some d) (e : PySem.W.exmOne K (.ref d) c = some b) (r : XAll K c T) : XAll K c ((.own D, b) :: T) := fun x b' hx cls hv => by
  unfold xLook at hx
  split at hx
  · rename_i z
    subst z
    cases hx
    obtain ⟨d', h', rfl⟩ := hv
    rw [h] at h'
    cases h'
    exact e
  · exact r x b' hx cls hv
theorem xall_blt {K : PySem.W.Frag} {c : Value} {T : List (Xn × Bool)} {N : String} {b : Bool} (e : PySem.W.exmOne K (.type N) c = some b) (r : XAll K c T) : XAll K c ((.blt N, b) :: T) := fun x b' hx cls hv => by
  unfold xLook at hx
  split at hx
  · rename_i z
    subst z
    cases hx
    cases hv
    exact e
  · exact r x b' hx cls hv
/-- of own classes: by subIn -/
theorem exm_own {K : PySem.W.Frag} {S D : Addr} {b : Bool} (h1 : PySem.W.subIn K (.ref S) (.type "BaseException") = some true) (h2 : PySem.W.isClsIn K S = true) (h3 : PySem.W.typeIn K (.ref S) = some (.type "type")) (h4 : PySem.W.subIn K (.ref D) (.ref S) = some b) :
    PySem.W.exmOne K (.ref D) (.ref S) = some b := by
  have e1 : (PySem.W.subIn K (.ref S) (.type "BaseException") == some true) = true := by rw [h1] <;> rfl
  have e2 : ((PySem.W.clsIn K S).isSome && PySem.W.typeIn K (.ref S) == some (.type "type")) = true := by
    have h2' : (PySem.W.clsIn K S).isSome = true := h2
    rw [h2', h3] <;> rfl
  show (if (PySem.W.subIn K (.ref S) (.type "BaseException") == some true) = true then (if ((PySem.W.clsIn K S).isSome && PySem.W.typeIn K (.ref S) == some (.type "type")) = true then PySem.W.subIn K (.ref D) (.ref S) else none) else none) = some b
  rw [if_pos e1, if_pos e2]
  exact h4
structure XTok (K : PySem.W.Frag) (mg : Str → Option Value) (C : Str) (T : List (Xn × Bool)) : Prop where
  ex : ∃ c : Value, (mg C = some c ∨ (mg C = none ∧ bootBuiltins C = some c ∧ C ≠ "__name__")) ∧ XAll K c T
def mTry (T : List (Xn × Bool)) (mb ms : MS) : MS := fun τ h => match mb τ h with
  | some (.ex x τ1 h1) => (match xLook T x.nm with
    | some true => (match ms τ1 h1 with | some (.ex _ _ _) => none | r => r)
    | some false => some (.ex x τ1 h1)
    | none => none)
  | r => r
theorem xc_nm {K : PySem.W.Frag} {B : Hp} {ρ : Nat → Option Addr} {H : Hp} {x : Xc} {cls : Value} {d : Option Addr} (h : XcAt K B ρ H x cls d) : XnV K x.nm cls := by
  cases h with
  | own h => exact ⟨_, h, rfl⟩
  | fld h _ _ => exact ⟨_, h, rfl⟩
  | blt => rfl
theorem rs_try {X : Cx} {W : WX} {C : Str} {T : List (Xn × Bool)} {body suite : List Stmt} {b₀ : Stmt} {mb ms : MS} {np pos pos' : Pos} (tk : Takes X W) (t : XTok X.K X.mg C T)
    (hb : ∀ (W' : WX) (pn : List (Addr × Obj)) (xe : Value → Shared → Prop), Takes (X.tr pn xe) W' → PassesOwn (model X.prog X.w) X.A X.env xe → RSs (X.tr pn xe) W' body mb)
    (hsu : ∀ (a : Addr) (pn : List (Addr × Obj)), RSs (X.suite a pn) W0 (b₀ :: suite) ms)
    (hs : X.stack = X.env :: X.outer := by rfl) (hf : X.env.frame = some X.env.locals := by rfl) (hg : Gl X C := by rfl) (hdb : (C == ("__debug__" : Str)) = false := by decide) :
    RS X W (.Try body [.ExceptHandler (some (.Name C np)) none (b₀ :: suite) pos'] [] [] pos) (mTry T mb ms) := by
  obtain ⟨c, hc, ha⟩ := t.ex
  refine ⟨ps_imp (L2.ps_try_only (tb := fun W' => tS X.K W' mb) (ts := fun _ _ _ => tS X.K W0 ms) hs hf ⟨hg, hdb, hc⟩ tk (fun W' pn xe tk' hp => (hb W' pn xe tk' hp).ps) (fun a oe cls d pn _ _ => (hsu a _).ps)) fun D σ H q => ?_⟩
  obtain ⟨Z, B, ρ, τ, h, ok, sl, q⟩ := q
  refine ⟨Z, B, ρ, τ, h, ok, sl, ?_⟩
  unfold mTry at q
  revert q
  cases mb τ h with
  | none => exact fun q => q
  | some r =>
    cases r with
    | nx τ1 h1 => exact fun q => q
    | bk τ1 h1 => exact fun q => q
    | ct τ1 h1 => exact fun q => q
    | rt w h1 => exact fun q => q
    | ex x τ1 h1 =>
      intro q σ' B' ρ' H' cls d ok' sl' g xc
      dsimp only at q
      cases e : xLook T x.nm with
      | none => rw [e] at q; exact q.elim
      | some b =>
        rw [e] at q
        refine ⟨b, ha _ _ e _ (xc_nm xc), fun eb a na => ?_, fun eb => ?_⟩
        · subst eb
          dsimp only at q
          refine ⟨Z, B', ρ', τ1, h1, ok', sl', ?_⟩
          revert q
          cases ms τ1 h1 with
          | none => exact fun q => q.elim
          | some r =>
            cases r with
            | nx _ _ => exact fun q => q.from g
            | bk _ _ => exact fun q => q.from g
            | ct _ _ => exact fun q => q.from g
            | rt _ _ => exact fun q => q.from g
            | ex _ _ _ => exact fun q => q.elim
        · subst eb
          exact q σ' B' ρ' H' cls d ok' sl' g xc
end Tq

/-! Tq13: plain lemmas: lists of ints, loops step by step, ints, picks. -/
namespace Tq
open PySem PySem.Spec PyProof.Rows L2
abbrev LD (xs : List Int) : D := .lst (xs.map D.int)
def LI (xs : List Int) : List A := (xs.map D.int).map A.d
theorem LI_len (xs : List Int) : (LI xs).length = xs.length := by unfold LI; rw [List.length_map, List.length_map]
theorem LI_app (xs ys : List Int) : LI (xs ++ ys) = LI xs ++ LI ys := by unfold LI; rw [List.map_append, List.map_append]
theorem LI_cut (xs : List Int) (lo hi : Option Int) : LI (cut xs lo hi) = cut (LI xs) lo hi := by unfold LI; rw [map_cut, map_cut]
theorem LI_set (xs : List Int) (n : Nat) (z : Int) : (LI xs).set n (.d (.int z)) = LI (xs.set n z) := by unfold LI; rw [List.map_set, List.map_set]
theorem LI_get (xs : List Int) (n : Nat) : (LI xs)[n]? = (xs[n]?).map fun z => A.d (.int z) := by
  unfold LI
  rw [List.getElem?_map, List.getElem?_map, Option.map_map]
  rfl
theorem cut_len {α : Type} (xs : List α) (lo hi : Option Int) : (cut xs lo hi).length ≤ xs.length := by
  unfold cut
  rw [List.length_take, List.length_drop]
  omega
theorem sIx_nat (len dflt n : Nat) : HT.sIx len dflt (some (n : Int)) = min n len := by
  unfold HT.sIx
  simp only []
  split <;> omega
theorem cut_take {α : Type} (xs : List α) (n : Nat) : cut xs none (some (n : Int)) = xs.take n := by
  unfold cut
  rw [sIx_nat, show HT.sIx xs.length 0 none = 0 from rfl, List.drop_zero, Nat.sub_zero, List.take_eq_take_iff]
  omega
theorem cut_drop {α : Type} (xs : List α) (n : Nat) : cut xs (some (n : Int)) none = xs.drop n := by
  unfold cut
  rw [sIx_nat, show HT.sIx xs.length xs.length none = xs.length from rfl]
  by_cases h : n ≤ xs.length
  · rw [Nat.min_eq_left h, List.take_of_length_le (by rw [List.length_drop]; omega)]
  · rw [Nat.min_eq_right (by omega), List.drop_of_length_le (Nat.le_refl _), List.drop_of_length_le (by omega), List.take_nil]
theorem cut_mid {α : Type} (xs : List α) (a b : Nat) : cut xs (some (a : Int)) (some (b : Int)) = (xs.drop a).take (b - a) := by
  unfold cut
  rw [sIx_nat, sIx_nat]
  by_cases h : a ≤ xs.length
  · rw [Nat.min_eq_left h, List.take_eq_take_iff, List.length_drop]
    omega
  · rw [show min a xs.length = xs.length from Nat.min_eq_right (by omega), List.drop_of_length_le (Nat.le_refl _), List.drop_of_length_le (by omega), List.take_nil, List.take_nil]
theorem mkL_d {ds : List D} {h : Hq} (hl : ds.length ≤ LIM) : mkL false (ds.map A.d) h = some (.ok (.d (.lst ds)) h) := by
  unfold mkL
  rw [if_pos (by rw [List.length_map]; exact hl), allD_map]
  rfl
theorem mkL_i {xs : List Int} {h : Hq} (hl : xs.length ≤ LIM) : mkL false (LI xs) h = some (.ok (.d (LD xs)) h) := mkL_d (by rw [List.length_map]; exact hl)
theorem mkL_c {ws : List A} {h : Hq} (hl : ws.length ≤ LIM) : mkL true ws h = some (.ok (.r h.length) (h ++ [.lst ws])) := by
  unfold mkL
  rw [if_pos hl]
  rfl
theorem cell_app (h : Hq) (o : O) : (h ++ [o])[h.length]? = some o := by
  rw [List.getElem?_append_right (Nat.le_refl _), Nat.sub_self]
  rfl
theorem app_keep {h : Hq} {os : List O} {k : Nat} {o : O} (e : h[k]? = some o) : (h ++ os)[k]? = some o := by
  rw [List.getElem?_append_left (List.getElem?_eq_some_iff.mp e).1]
  exact e
theorem lt_of_get {h : Hq} {k : Nat} {o : O} (e : h[k]? = some o) : k < h.length := (List.getElem?_eq_some_iff.mp e).1
theorem gAdd_ll (o : Bool) (xs ys : List Int) (h : Hq) : gAdd o (.d (LD xs)) (.d (LD ys)) h = mkL o (LI (xs ++ ys)) h := by
  rw [LI_app]
  rfl
theorem gLen_d (xs : List Int) (h : Hq) : gLen (.d (LD xs)) h = some (.ok (.d (.int (xs.length : Nat))) h) := by
  show some (Rs.ok (A.d (D.int ((((xs.map D.int).map A.d).length : Nat) : Int))) h) = _
  rw [List.length_map, List.length_map]
theorem gLen_c {h : Hq} {k : Nat} {ws : List A} (e : h[k]? = some (.lst ws)) : gLen (.r k) h = some (.ok (.d (.int (ws.length : Nat))) h) := by
  unfold gLen lenA
  simp only [tupOf, lstOf, e]
theorem gSl_d (o : Bool) (xs : List Int) (lo hi : Option Int) (h : Hq) : gSl o (.d (LD xs)) lo hi h = mkL o (LI (cut xs lo hi)) h := by
  rw [LI_cut]
  rfl
theorem gSl_c {o : Bool} {h : Hq} {k : Nat} {xs : List Int} (e : h[k]? = some (.lst (LI xs))) (lo hi : Option Int) : gSl o (.r k) lo hi h = mkL o (LI (cut xs lo hi)) h := by
  simp only [gSl, tupOf, lstOf, e]
  rw [LI_cut]
theorem atI_nat {α : Type} {xs : List α} {n : Nat} {x : α} (e : xs[n]? = some x) : atI xs (n : Int) = some x := by
  have hn : n < xs.length := (List.getElem?_eq_some_iff.mp e).1
  rw [atI_in (Int.natCast_nonneg n) (by rw [Int.toNat_natCast]; exact hn)]
  have := (List.getElem?_eq_some_iff.mp e).2
  simp only [Int.toNat_natCast]
  rw [this]
theorem gGet_d {xs : List Int} {n : Nat} {z : Int} (h : Hq) (e : xs[n]? = some z) : gGet (.d (LD xs)) (.d (.int (n : Nat))) h = some (.ok (.d (.int z)) h) := by
  have e1 : atI ((xs.map D.int).map A.d) (n : Int) = some (A.d (.int z)) := atI_nat (by rw [show (xs.map D.int).map A.d = LI xs from rfl, LI_get, e]; rfl)
  show (match atI ((xs.map D.int).map A.d) (n : Int) with | some w => some (Rs.ok w h) | none => none) = _
  rw [e1]
theorem gGet_c {h : Hq} {k n : Nat} {ws : List A} {w : A} (e : h[k]? = some (.lst ws)) (e1 : ws[n]? = some w) : gGet (.r k) (.d (.int (n : Nat))) h = some (.ok w h) := by
  unfold gGet dicOf
  simp only [e]
  unfold gIx
  simp only [tupOf, lstOf, e]
  rw [atI_nat e1]
  rfl
theorem gMul_ok {i j : Int} (h : Hq) (e : mulOk i j = true) : gMul (.d (.int i)) (.d (.int j)) h = some (.ok (.d (.int (i * j))) h) := by
  show (if mulOk i j = true then _ else _) = _
  rw [if_pos e]
theorem gDiv_ok {i j : Int} (h : Hq) (e : divOk i j = true) : gDiv (.d (.int i)) (.d (.int j)) h = some (.ok (.d (.int (i / j))) h) := by
  show (if divOk i j = true then _ else _) = _
  rw [if_pos e]
theorem gMod_ok {i j : Int} (h : Hq) (e : 0 < j) : gMod (.d (.int i)) (.d (.int j)) h = some (.ok (.d (.int (i % j))) h) := by
  show (if modOk i j = true then _ else _) = _
  rw [if_pos (by unfold modOk; exact decide_eq_true e)]
theorem gAdd_int (o : Bool) (i j : Int) (h : Hq) : gAdd o (.d (.int i)) (.d (.int j)) h = some (.ok (.d (.int (i + j))) h) := rfl
theorem gSub_int (i j : Int) (h : Hq) : gSub (.d (.int i)) (.d (.int j)) h = some (.ok (.d (.int (i - j))) h) := rfl
theorem gLe_int (i j : Int) (h : Hq) : gLe (.d (.int i)) (.d (.int j)) h = some (.ok (.d (.bl (decide (i ≤ j)))) h) := rfl
theorem gLt_int (i j : Int) (h : Hq) : gLt (.d (.int i)) (.d (.int j)) h = some (.ok (.d (.bl (decide (i < j)))) h) := rfl
theorem gGe_int (i j : Int) (h : Hq) : gGe (.d (.int i)) (.d (.int j)) h = some (.ok (.d (.bl (decide (j ≤ i)))) h) := rfl
theorem gGt_int (i j : Int) (h : Hq) : gGt (.d (.int i)) (.d (.int j)) h = some (.ok (.d (.bl (decide (j < i)))) h) := rfl
theorem mul_small {i j : Int} (h1 : i.natAbs < 2 ^ 64) (h2 : j.natAbs < 2 ^ 64) : mulOk i j = true := mulOk_of h1 h2 (by decide) (by decide) (by decide)
theorem bits_log {z : Int} (h : Builtin.Int.intBits z ≤ 1048576) : z.natAbs.log2 ≤ 1048576 := by
  unfold Builtin.Int.intBits at h
  split at h
  · rename_i e
    have e : z = 0 := by
      first
        | exact e
        | simpa using e
    subst e
    decide
  · omega
section
variable {τ : Sl} {h h1 : Hq} {i j : Int} {a b : E A}
theorem add_of {o : Bool} (e1 : a τ h = some (.ok (.d (.int i)) h)) (e2 : b τ h = some (.ok (.d (.int j)) h)) : mBin (gAdd o) a b τ h = some (.ok (.d (.int (i + j))) h) := by rw [bin_of e1 e2]; rfl
theorem sub_of (e1 : a τ h = some (.ok (.d (.int i)) h)) (e2 : b τ h = some (.ok (.d (.int j)) h)) : mBin gSub a b τ h = some (.ok (.d (.int (i - j))) h) := by rw [bin_of e1 e2]; rfl
theorem mod_of (e1 : a τ h = some (.ok (.d (.int i)) h)) (e2 : b τ h = some (.ok (.d (.int j)) h)) (e : 0 < j) : mBin gMod a b τ h = some (.ok (.d (.int (i % j))) h) := by rw [bin_of e1 e2]; exact gMod_ok _ e
theorem div_of (e1 : a τ h = some (.ok (.d (.int i)) h)) (e2 : b τ h = some (.ok (.d (.int j)) h)) (e : divOk i j = true) : mBin gDiv a b τ h = some (.ok (.d (.int (i / j))) h) := by rw [bin_of e1 e2]; exact gDiv_ok _ e
theorem mul_of (e1 : a τ h = some (.ok (.d (.int i)) h)) (e2 : b τ h = some (.ok (.d (.int j)) h)) (e : mulOk i j = true) : mBin gMul a b τ h = some (.ok (.d (.int (i * j))) h) := by rw [bin_of e1 e2]; exact gMul_ok _ e
theorem lt_of (e1 : a τ h = some (.ok (.d (.int i)) h)) (e2 : b τ h = some (.ok (.d (.int j)) h)) : mTB (mBin gLt a b) τ h = some (.ok (decide (i < j)) h) := tb_of (by rw [bin_of e1 e2]; rfl)
theorem le_of (e1 : a τ h = some (.ok (.d (.int i)) h)) (e2 : b τ h = some (.ok (.d (.int j)) h)) : mTB (mBin gLe a b) τ h = some (.ok (decide (i ≤ j)) h) := tb_of (by rw [bin_of e1 e2]; rfl)
theorem gt_of (e1 : a τ h = some (.ok (.d (.int i)) h)) (e2 : b τ h = some (.ok (.d (.int j)) h)) : mTB (mBin gGt a b) τ h = some (.ok (decide (j < i)) h) := tb_of (by rw [bin_of e1 e2]; rfl)
theorem ge_of (e1 : a τ h = some (.ok (.d (.int i)) h)) (e2 : b τ h = some (.ok (.d (.int j)) h)) : mTB (mBin gGe a b) τ h = some (.ok (decide (j ≤ i)) h) := tb_of (by rw [bin_of e1 e2]; rfl)
theorem eqi_of (e1 : a τ h = some (.ok (.d (.int i)) h)) (e2 : b τ h = some (.ok (.d (.int j)) h)) : mBin (gEq false) a b τ h = some (.ok (.d (.bl (decide (i = j)))) h) := by
  rw [bin_of e1 e2]
  unfold gEq g2V view
  rw [vw_d, vw_d]
  dsimp only
  rw [eqD_int, if_neg (by simp)]
theorem nei_of (e1 : a τ h = some (.ok (.d (.int i)) h)) (e2 : b τ h = some (.ok (.d (.int j)) h)) : mBin (gEq true) a b τ h = some (.ok (.d (.bl (!decide (i = j)))) h) := by
  rw [bin_of e1 e2]
  unfold gEq g2V view
  rw [vw_d, vw_d]
  dsimp only
  rw [eqD_int, if_pos rfl]
/-- a comparison by the data of both sides -/
theorem eqv_of {n r : Bool} {x y : A} {d e : D} {h2 : Hq} (e1 : a τ h = some (.ok x h1)) (e2 : b τ h1 = some (.ok y h2)) (v1 : view h2 x = some d) (v2 : view h2 y = some e) (q : eqD n d e = some r) : mBin (gEq n) a b τ h = some (.ok (.d (.bl r)) h2) := by
  rw [bin_of e1 e2]
  unfold gEq g2V
  rw [v1, v2]
  dsimp only
  rw [q]
theorem mul1_of {m : Nat} {i j : Int} (h1 : i.natAbs < 2 ^ 64) (h2 : j.natAbs < 2 ^ 64) : mulOk i j = true := mul_small h1 h2
theorem dm_of {j : Nat} {i a b : Int} (e : τ[j]? = some (some (.d (.int i)))) (ha : divOk i a = true) (hb : 0 < b) : mBin gMod (mBin gDiv (mVar j) (mC (.int a))) (mC (.int b)) τ h = some (.ok (.d (.int (i / a % b))) h) := mod_of (div_of (var_of e) rfl ha) rfl hb
theorem tru_bl {m : E A} {b : Bool} (e : m τ h = some (.ok (.d (.bl b)) h1)) : mNotT (mTru m) τ h = some (.ok (!b) h1) := by
  unfold mNotT mTru
  rw [e, bd_ok]
  rfl
theorem and_ff {a b : E Bool} (k : Bool) (e1 : a τ h = some (.ok k h)) (e2 : b τ h = some (.ok false h1)) : ∃ h2, mAndT a b τ h = some (.ok false h2) ∧ (h2 = h ∨ h2 = h1) := by
  unfold mAndT
  rw [e1, bd_ok]
  cases k with
  | true => exact ⟨h1, e2, .inr rfl⟩
  | false => exact ⟨h, rfl, .inl rfl⟩
theorem and_of {a b : E Bool} {k l : Bool} (e1 : a τ h = some (.ok k h)) (e2 : b τ h = some (.ok l h)) : mAndT a b τ h = some (.ok (k && l) h) := by
  unfold mAndT
  rw [e1, bd_ok]
  cases k with
  | true => exact e2
  | false => rfl
theorem or_of {a b : E Bool} {k l : Bool} (e1 : a τ h = some (.ok k h)) (e2 : b τ h = some (.ok l h)) : mOrT a b τ h = some (.ok (k || l) h) := by
  unfold mOrT
  rw [e1, bd_ok]
  cases k with
  | true => rfl
  | false => exact e2
theorem orff_of {a b : E Bool} {l : Bool} {h2 : Hq} (e1 : a τ h = some (.ok false h1)) (e2 : b τ h1 = some (.ok l h2)) : mOrT a b τ h = some (.ok l h2) := by
  unfold mOrT
  rw [e1, bd_ok]
  exact e2
end
theorem lc_of {o : Bool} {mi : E Nxt} {g : A → Sl → Hq → Option Sl} {me : E A} {vs : List Nat} {τ : Sl} {h h1 : Hq} {ws : List A} (f : A → A) (e : mi τ h = some (.ok (nxL ws) h1)) (hs : ∀ w ∈ ws, ∃ τ1, g w (wipeT τ vs) h1 = some τ1 ∧ me τ1 h1 = some (.ok (f w) h1)) (hl : ws.length ≤ LIM) : mLC o mi g mYes me vs τ h = mkL o (ws.map f) h1 := by
  unfold mLC
  rw [e, bd_ok]
  rw [compL_map f hs hl]
  dsimp only
  rw [if_pos (by rw [List.length_map]; exact hl)]
/-! ### loops, a turn at a time -/
theorem while_tt {t : E Bool} {mb : MS} {n : Nat} {τ τ2 : Sl} {h h1 h2 : Hq} (e : t τ h = some (.ok true h1)) (e2 : mb τ h1 = some (.nx τ2 h2)) : mWhile t mb (n + 1) τ h = mWhile t mb n τ2 h2 := by
  unfold mWhile
  rw [e, sb_ok]
  dsimp only
  rw [e2]
  cases n <;> rfl
theorem while_bk {t : E Bool} {mb : MS} {n : Nat} {τ τ2 : Sl} {h h1 h2 : Hq} (e : t τ h = some (.ok true h1)) (e2 : mb τ h1 = some (.bk τ2 h2)) : mWhile t mb (n + 1) τ h = some (.nx τ2 h2) := by
  unfold mWhile
  rw [e, sb_ok]
  dsimp only
  rw [e2]
theorem while_ff {t : E Bool} {mb : MS} {n : Nat} {τ : Sl} {h h1 : Hq} (e : t τ h = some (.ok false h1)) : mWhile t mb (n + 1) τ h = some (.nx τ h1) := by
  unfold mWhile
  rw [e, sb_ok]
theorem for_step {nx : Nxt} {g : A → Sl → Hq → Option Sl} {mb : MS} {f i : Nat} {w : A} {τ τ1 τ2 : Sl} {h h2 : Hq} (e : nx i h = some (some w)) (e1 : g w τ h = some τ1) (e2 : mb τ1 h = some (.nx τ2 h2)) : forM nx g mb (f + 1) i τ h = forM nx g mb f (i + 1) τ2 h2 := by
  unfold forM
  rw [e]
  dsimp only
  rw [e1]
  dsimp only
  rw [e2]
  cases f <;> rfl
theorem for_rt {nx : Nxt} {g : A → Sl → Hq → Option Sl} {mb : MS} {f i : Nat} {w u : A} {τ τ1 : Sl} {h h2 : Hq} (e : nx i h = some (some w)) (e1 : g w τ h = some τ1) (e2 : mb τ1 h = some (.rt u h2)) : forM nx g mb (f + 1) i τ h = some (.rt u h2) := by
  unfold forM
  rw [e]
  dsimp only
  rw [e1]
  dsimp only
  rw [e2]
theorem for_ex {nx : Nxt} {g : A → Sl → Hq → Option Sl} {mb : MS} {f i : Nat} {w : A} {x : Xc} {τ τ1 τ2 : Sl} {h h2 : Hq} (e : nx i h = some (some w)) (e1 : g w τ h = some τ1) (e2 : mb τ1 h = some (.ex x τ2 h2)) : forM nx g mb (f + 1) i τ h = some (.ex x τ2 h2) := by
  unfold forM
  rw [e]
  dsimp only
  rw [e1]
  dsimp only
  rw [e2]
theorem seq_bk {m1 m2 : MS} {τ τ1 : Sl} {h h1 : Hq} (e : m1 τ h = some (.bk τ1 h1)) : mSeq m1 m2 τ h = some (.bk τ1 h1) := by
  unfold mSeq
  rw [e]
theorem seq_ex {m1 m2 : MS} {x : Xc} {τ τ1 : Sl} {h h1 : Hq} (e : m1 τ h = some (.ex x τ1 h1)) : mSeq m1 m2 τ h = some (.ex x τ1 h1) := by
  unfold mSeq
  rw [e]
theorem seq_assoc {a b c : MS} {τ : Sl} {h : Hq} : mSeq (mSeq a b) c τ h = mSeq a (mSeq b c) τ h := by
  unfold mSeq
  cases a τ h with
  | none => rfl
  | some r => cases r <;> rfl
theorem setex_of {τ : Sl} {h h1 : Hq} {i : Nat} {x : Xc} {m : E A} (e : m τ h = some (.ex x h1)) : mSet i m τ h = some (.ex x τ h1) := by
  unfold mSet
  rw [e, sb_ex]
theorem runB_ex {np n : Nat} {m : MS} {ws : List A} {x : Xc} {τ : Sl} {h h1 : Hq} (hl : ws.length = np) (e : m (startT n ws) h = some (.ex x τ h1)) : runB np n m ws h = some (.ex x h1) := by
  unfold runB
  rw [if_pos hl, e]
/-! ### lists of ints compared -/
theorem LI_fok (xs : List Int) : (xs.map D.int).all D.fok = true := by
  rw [List.all_map]
  exact List.all_eq_true.mpr fun _ _ => rfl
theorem eqvAll_ints : ∀ (xs ys : List Int), PyData.eqvAll (D.toPs (xs.map D.int)) (D.toPs (ys.map D.int)) = decide (xs = ys)
  | [], [] => rfl
  | [], _ :: _ => rfl
  | _ :: _, [] => rfl
  | x :: xs, y :: ys => by
    show (PyData.eqv (D.int x).toP (D.int y).toP && PyData.eqvAll (D.toPs (xs.map D.int)) (D.toPs (ys.map D.int))) = _
    rw [eqvAll_ints xs ys, show PyData.eqv (D.int x).toP (D.int y).toP = decide (x = y) from rfl, Bool.eq_iff_iff]
    simp
theorem eqv_LD (xs ys : List Int) : D.eqv (LD xs) (LD ys) = decide (xs = ys) := eqvAll_ints xs ys
theorem shp_LD (xs : List Int) : (LD xs).shp = true := shp_lst (LI_fok xs)
theorem eqD_LD (n : Bool) (xs ys : List Int) : eqD n (LD xs) (LD ys) = some (if n then !decide (xs = ys) else decide (xs = ys)) := by
  unfold eqD
  rw [shp_LD, shp_LD, eqv_LD]
  rfl
theorem view_LI {h : Hq} {k : Nat} {xs : List Int} (e : h[k]? = some (.lst (LI xs))) : view h (.r k) = some (LD xs) := view_lst e
theorem pick2 (a b i : Int) (h : Hq) (h0 : 0 ≤ i) (h3 : i < 2) : ∃ v, gGet (.d (.lst [.int a, .int b])) (.d (.int i)) h = some (.ok (.d (.int v)) h) ∧ (v = a ∨ v = b) := by
  rcases (by omega : i = 0 ∨ i = 1) with e | e
  · exact ⟨a, by rw [e]; rfl, .inl rfl⟩
  · exact ⟨b, by rw [e]; rfl, .inr rfl⟩
theorem lays_ints : ∀ (ns : List Int), PyData.canLayAll0 (ns.map PyData.int) = true ∧ PyData.depthAll (ns.map PyData.int) = 0
  | [] => ⟨rfl, rfl⟩
  | n :: r => by
    obtain ⟨h1, h2⟩ := lays_ints r
    constructor
    · show ((PyData.int n).canLay0 && PyData.canLayAll0 (r.map PyData.int)) = true
      rw [h1]
      rfl
    · show max (PyData.int n).depth (PyData.depthAll (r.map PyData.int)) = 0
      rw [h2]
      rfl
theorem shp_scr (ns : List Int) : (D.scr ns).shp = true := by
  obtain ⟨h1, h2⟩ := lays_ints ns
  show (PyData.canLayAll0 (ns.map PyData.int) && decide (PyData.depthAll (ns.map PyData.int) + 1 ≤ 64)) = true
  rw [h1, h2]
  rfl
/-! ### a list of lists of ints -/
abbrev LLD (rs : List (List Int)) : D := .lst (rs.map LD)
theorem lays_LD (xs : List Int) : (LD xs).toP.canLay0 = true ∧ (LD xs).toP.depth ≤ 1 := by
  obtain ⟨h1, h2⟩ := lays_fok (LI_fok xs)
  constructor
  · show PyData.canLayAll0 (D.toPs (xs.map D.int)) = true
    exact h1
  · show PyData.depthAll (D.toPs (xs.map D.int)) + 1 ≤ 1
    rw [h2]
    exact Nat.le_refl _
theorem lays_LLs : ∀ (rs : List (List Int)), PyData.canLayAll0 (D.toPs (rs.map LD)) = true ∧ PyData.depthAll (D.toPs (rs.map LD)) ≤ 1
  | [] => ⟨rfl, Nat.zero_le _⟩
  | r :: rs => by
    obtain ⟨h1, h2⟩ := lays_LD r
    obtain ⟨h3, h4⟩ := lays_LLs rs
    constructor
    · show ((LD r).toP.canLay0 && PyData.canLayAll0 (D.toPs (rs.map LD))) = true
      rw [h1, h3]
      rfl
    · show max (LD r).toP.depth (PyData.depthAll (D.toPs (rs.map LD))) ≤ 1
      exact Nat.max_le.mpr ⟨h2, h4⟩
/-- a pair of a list of lists and an int -/
theorem shp_told (rs : List (List Int)) (n : Int) : (D.tup [LLD rs, .int n]).shp = true := by
  obtain ⟨h1, h2⟩ := lays_LLs rs
  have hd : (D.tup [LLD rs, .int n]).toP.depth ≤ 64 := by
    show max (PyData.depthAll (D.toPs (rs.map LD)) + 1) (max 0 0) + 1 ≤ 64
    omega
  show ((PyData.canLayAll0 (D.toPs (rs.map LD)) && (PyData.canLayAll0 (D.toPs [.int n]))) && decide ((D.tup [LLD rs, .int n]).toP.depth ≤ 64)) = true
  rw [h1, decide_eq_true hd]
  rfl
end Tq

set_option maxHeartbeats 1000000
/-! TqS: sorted(xs, key=f) over Inv, f an own def: the sorts' machine of KE/SortKeyed, told over HandS. -/
namespace L2
open PySem PySem.Spec PySem.W PyProof.Rows

abbrev emptyL (e : Nat) : Obj := seqObj "list" #[] e
section
variable {X : Cx} {pins : List (Addr × Obj)} {σ : St} {H : Hp} {s : Shared} {D kS : Addr} {e1 : Nat}
/-- a pinned list becomes a tracked one -/
theorem Inv.adopt {n : Nat} {its : List Value} {ys : List V} {t' : Nat} (I : Inv X ((D, seqObj "list" #[] n) :: pins) σ H s) (h0 : X.s_0.heap.objs.size ≤ D) (hc : ∀ x c, X.env.cells.lookup x = some c → c ≠ D) (hp : ∀ p ∈ X.pn ++ pins, p.1 ≠ D)
    (hv : Vals ys its) (hz : ys.length ≤ sizeLine) : Inv X pins σ (upd H D (.lst ys)) { s with heap := s.heap.update D (Obj.mapSeq fun _ => its.toArray), toks := t' } := by
  obtain ⟨eD, nD, neL, nfs, _⟩ := I.pin (D, seqObj "list" #[] n) (List.mem_append_right _ (List.mem_cons_self ..))
  have eD : s.heap.get? D = some (seqObj "list" #[] n) := eD
  have nD : H D = none := nD
  have k : ∀ b o, b ≠ D → s.heap.get? b = some o → (s.heap.update D (Obj.mapSeq fun _ => its.toArray)).get? b = some o := fun b o hb e => (Heap.get?_update_other s.heap _ (Ne.symm hb)).trans e
  have I0 : Inv X pins σ H s := I.pins_of fun p hp' => I.pin p (List.mem_append_right _ (List.mem_cons_of_mem _ hp'))
  have nit : ∀ b u, H b = some u → b ≠ D := fun b u e z => by rw [z, nD] at e; cases e
  have eD2 := get?_update_seq eD (fun _ => its.toArray)
  refine I0.step (g' := s.gens) (d' := s.drawn) (ch := [D]) (fun b hb => ?_) (fun b o _ _ hc e _ => k b o (fun z => hc (by simp [z])) e) (fun b o _ _ hc e _ => ⟨o.slots, k b o (fun z => hc (by simp [z])) e⟩)
    (fun b o hc _ n => by rw [upd_ne fun z => hc (by simp [z])]; exact n) (fun b o hc e => ⟨o, k b o (fun z => hc (by simp [z])) e⟩) (fun b xs e => by rw [upd_ne (nit b _ e)]; exact e) (fun b o u e => by rw [upd_ne (nit b _ e)]; exact e) (fun b ps e => ⟨#[], by rw [upd_ne (nit b _ e), e]; simp⟩) (fun m hm => ?_) (fun b u e => ?_) I0.bare
  · have e : b = D := by simpa using hb
    subst e
    exact ⟨.inr h0, neL, hc, hp⟩
  · obtain ⟨o, es, ep, ho, r⟩ := hm
    exact ⟨o, es, ep, k _ o (Ne.symm neL) ho, r⟩
  · by_cases hb : b = D
    · subst hb
      rw [upd_same] at e
      cases e
      exact ⟨hz, its, _, hv, eD2⟩
    · rw [upd_ne hb] at e
      refine (I0.hok b u e).stay (fun c v hc q => k c v ?_ q) (fun c q => by rw [upd_ne (nit c _ q)]; exact q) fun c xs q => by rw [upd_ne (nit c _ q)]; exact q
      rcases hc with z | z
      · rw [z]; exact hb
      · exact nit c _ z
end
/-- list.sort's end -/
theorem sk_tail {X : Cx} {A : Around} {E : Value → Shared → Prop} {P : PySem.Fin → Shared → Prop} {pins : List (Addr × Obj)} {σ : St} {H : Hp} {s : Shared} {D kS : Addr} {e1 : Nat} {st : SortSt} {out : List Value} {ys ks : List V}
    (I : Inv X ((D, seqObj "list" #[] e1) :: pins) σ H s) (h0 : X.s_0.heap.objs.size ≤ D) (hc : ∀ x c, X.env.cells.lookup x = some c → c ≠ D) (hp : ∀ p ∈ X.pn ++ pins, p.1 ≠ D) (hk : H kS = some (.lst ks))
    (hv : Vals ys out) (hz : ys.length ≤ sizeLine) (hfl : failedOf st = none) (ho : (arrOf st).map (·.2) = out.toArray)
    (h : ∀ s', Inv X pins σ (upd (upd H kS (.lst [])) D (.lst ys)) s' → P (.done (.ret .none)) s') : wpAny (model X.prog X.w) A (ksk_tail D false e1 (.ref kS) st) P E s := by
  obtain ⟨z, its, n, r, hl, e⟩ := I.lstM hk
  unfold ksk_tail
  try dsimp only
  rw [ho]
  refine wpAny_bind (listUpdate_at e rfl ?_ (by rw [List.size_toArray, ← hl]; exact z) (Nat.zero_le _))
  have I1 := I.lset (f := fun _ => (#[] : Array Value)) (its' := []) (ys := []) (t' := s.toks) hk e rfl .nil (Nat.zero_le _)
  obtain ⟨eD, _⟩ := I1.pin (D, seqObj "list" #[] e1) (List.mem_append_right _ (List.mem_cons_self ..))
  refine wpAny_bind (wpAny_letGo ?_)
  refine wpAny_bind (seqEpoch_at eD rfl ?_)
  refine wpAny_bind (listUpdate_at eD rfl ?_ (Nat.zero_le _) (by rw [if_neg (by decide), List.size_toArray, ← hv.length]; omega))
  rw [hfl]
  simp only [bne_self_eq_false, Bool.false_eq_true, if_false]
  exact wpAny_pure (h _ (I1.adopt (t' := s.toks) h0 hc hp hv hz))
theorem sk_end {X : Cx} {A : Around} {E : Value → Shared → Prop} {P : PySem.Fin → Shared → Prop} {pins : List (Addr × Obj)} {σ : St} {H : Hp} {s : Shared} {D kS : Addr} {e1 : Nat} {ys ks : List V} {κ : PyProof.Rows.KeyKind} {keys : Array Value} {vs : List Value}
    (I : Inv X ((D, seqObj "list" #[] e1) :: pins) σ H s) (h0 : X.s_0.heap.objs.size ≤ D) (hc : ∀ x c, X.env.cells.lookup x = some c → c ≠ D) (hp : ∀ p ∈ X.pn ++ pins, p.1 ≠ D) (hk : H kS = some (.lst ks))
    (S : SortsAt X.prog X.w A s κ keys.toList) (hsz : keys.size = vs.length) (hZ : vs.length ≤ sizeLine) (hv : Vals ys (sortVals κ false keys.toList vs))
    (h : ∀ s', Inv X pins σ (upd (upd H kS (.lst [])) D (.lst ys)) s' → P (.done (.ret .none)) s') : wpAny (model X.prog X.w) A (ksk_end D false vs.toArray e1 (.ref kS) keys) P E s := by
  obtain ⟨kd, h1, h2⟩ := S.kind
  have hkl : keys.toList.length = vs.length := by
    rw [Array.length_toList]
    exact hsz
  have hK : PyProof.Rows.KeysOf κ (keys.zip vs.toArray) := keysOf_zip S.keys
  have hol : (sortVals κ false keys.toList vs).length = vs.length := sortVals_length false hkl
  have hyl : ys.length ≤ sizeLine := by rw [hv.length, hol]; exact hZ
  have hss : (keys.zip vs.toArray).size = vs.length := by rw [Array.size_zip, hsz, List.size_toArray, Nat.min_self]
  have fin : ∀ st' : SortSt, (arrOf st').Perm (keys.zip vs.toArray) → SortedToK κ (arrOf st') (keys.zip vs.toArray).size → Stable κ (arrOf st') (keys.zip vs.toArray) → (arrOf st').map (·.2) = (sortVals κ false keys.toList vs).toArray := by
    intro st' hp hs ht
    have e := sort_out (rev := false) (keys := keys) (items := vs.toArray) (xs := arrOf st') (κ := κ) hK hp hs ht
    have e' := congrArg List.toArray e
    rw [Array.toArray_toList] at e'
    exact e'
  unfold ksk_end
  try dsimp only
  rw [if_neg (by decide)]
  by_cases hl2 : vs.toArray.size < 2
  · rw [if_pos hl2, if_pos hl2]
    refine wpAny_bind (wpAny_pure ?_)
    rw [StateT.run_pure]
    refine wpAny_bind (wpAny_pure ?_)
    try dsimp only
    refine sk_tail (st := SortSt.mk' general' (keys.zip vs.toArray) #[] 7 none) I h0 hc hp hk hv hyl rfl (fin _ (Array.Perm.refl _) ?_ (Stable.refl _)) h
    intro i j hij hj
    rw [hss] at hj
    rw [List.size_toArray] at hl2
    have : i = j := by omega
    subst this
    exact KeyOrd.kle_refl _
  · rw [if_neg hl2, if_neg hl2]
    rw [List.size_toArray] at hl2
    refine wpAny_bind (h2 (by omega) _ ?_)
    refine wpAny_bind (wpAny_mono (PyProof.Rows.H.wpS_sortRunsSt (κ := κ) (kd := kd) (a₀ := keys.zip vs.toArray)
      (st := SortSt.mk' kd (keys.zip vs.toArray) #[] 7 none)
      (Q := fun _ st' => failedOf st' = none ∧ (arrOf st').map (·.2) = (sortVals κ false keys.toList vs).toArray)
      h1 hK ⟨Array.Perm.refl _, rfl, rfl⟩ rfl (Stable.refl _) (by rw [hss]; omega) fun st' a1 a2 a3 a4 => ⟨a2, fin st' a1 a3 a4⟩) ?_ fun _ _ e => e)
    rintro ⟨⟨⟩, st'⟩ s' ⟨rfl, hf, ho⟩
    try dsimp only at ho ⊢
    exact sk_tail I h0 hc hp hk hv hyl hf ho h
theorem vals_get : ∀ {xs : List V} {us : List Value}, Vals xs us → ∀ {i : Nat} {u : Value}, us[i]? = some u → ∃ v, xs[i]? = some v ∧ RelV v u
  | _, _, .nil, i, u, h => by simp at h
  | _, _, .cons r t, 0, u, h => by cases h; exact ⟨_, rfl, r⟩
  | _, _, .cons r t, i + 1, u, h => vals_get t (by simpa using h)
theorem each_reads {X : Cx} {pins : List (Addr × Obj)} {σ : St} {H : Hp} {s : Shared} (I : Inv X pins σ H s) : ∀ {ks : List V} {us : List Value} {kz : List PyData}, Vals ks us → EachIs (fun v d => Dp X.K H v d) ks kz → EachIs (fun v k => ∃ as, Reads s.heap v k as) us kz
  | _, _, _, .nil, .nil => .nil
  | _, _, _, .cons r t, .cons h hs => .cons (Dp.reads I _ _ _ h r) (each_reads I t hs)
/-- R of the items by their values -/
theorem each_rel : ∀ {xs : List V} {us : List Value} {kz : List PyData}, Vals xs us → kz.length = xs.length → EachIs (fun u (b : V × PyData) => RelV b.1 u) us (xs.zip kz)
  | _, _, _, .nil, _ => by
    rw [List.zip_nil_left]
    exact .nil
  | _, _, [], .cons r t, h => by simp at h
  | _, _, k :: kz, .cons r t, h => .cons r (each_rel t (by simpa using h))
theorem vals_of_each : ∀ {us : List Value} {bs : List (V × PyData)}, EachIs (fun u (b : V × PyData) => RelV b.1 u) us bs → Vals (bs.map (·.1)) us
  | _, _, .nil => .nil
  | _, _, .cons h t => .cons h (vals_of_each t)
def byKey (xs : List V) (kz : List PyData) : List V := ((xs.zip kz).mergeSort (dataLe false Prod.snd)).map (·.1)
/-- the keys are asked, then the sort -/
theorem sk_rest {X : Cx} {A : Around} {E : Value → Shared → Prop} {P : PySem.Fin → Shared → Prop} {pins : List (Addr × Obj)} {σ : St} {H : Hp} {s : Shared} {D kS : Addr} {e1 : Nat} {xs : List V} {vs : List Value} {kz : List PyData} {f : Value} (J : Nat → Hp → List V → Prop)
    (I : Inv X ((D, seqObj "list" #[] e1) :: pins) σ H s) (h0 : X.s_0.heap.objs.size ≤ D) (hc : ∀ x c, X.env.cells.lookup x = some c → c ≠ D) (hp : ∀ p ∈ X.pn ++ pins, p.1 ≠ D) (hk : H kS = some (.lst []))
    (hxv : Vals xs vs) (hlen : kz.length = xs.length) (hZ : vs.length ≤ sizeLine) (hal : AllAlike kz) (hsk : Sortable kz) (hu : ∀ d, d ∈ kz → A.units + d.depth < cLine) (j0 : J 0 H [])
    (turn : ∀ (i : Nat) (v : V) (u : Value) (H1 : Hp) (ks : List V) (s1 : Shared), xs[i]? = some v → RelV v u → ks.length = i → H1 kS = some (.lst ks) → J i H1 ks → Inv X ((D, seqObj "list" #[] e1) :: pins) σ H1 s1 →
      wpAny (model X.prog X.w) A (call f [u]) (fun r s2 => ∃ y H2, Inv X ((D, seqObj "list" #[] e1) :: pins) σ H2 s2 ∧ RelV y r ∧ H2 kS = some (.lst ks) ∧ J (i + 1) (upd H2 kS (.lst (ks ++ [y]))) (ks ++ [y])) (fun _ _ => False) s1)
    (keys : ∀ H1 ks, J xs.length H1 ks → EachIs (fun v d => Dp X.K H1 v d) ks kz)
    (h : ∀ s' H1 ks, J xs.length H1 ks → H1 D = none → H1 kS = some (.lst ks) → Inv X pins σ (upd (upd H1 kS (.lst [])) D (.lst (byKey xs kz))) s' → P (.done (.ret .none)) s') :
    wpAny (model X.prog X.w) A (ksk_rest D f false vs.toArray e1 (.ref kS)) P E s := by
  have hxl := hxv.length
  unfold ksk_rest
  refine wpAny_bind (wpAny_rule ?_)
  first
    | rw [List.forIn_toArray]
    | (rw [← Array.forIn_toList]; simp only [List.toList_toArray])
    | rw [← Array.forIn_toList]
  refine wpAny_bind (ksk_fold (fun i s' => ∃ H1 ks, ks.length = i ∧ H1 kS = some (.lst ks) ∧ J i H1 ks ∧ Inv X ((D, seqObj "list" #[] e1) :: pins) σ H1 s') vs 0 s
    ⟨H, [], rfl, hk, j0, I⟩ ?step ?done)
  case step =>
    rintro j x s' hx ⟨H1, ks, hl, hk1, j1, I1⟩
    simp only [Nat.zero_add] at hl j1 ⊢
    obtain ⟨v, hv, rv⟩ := vals_get hxv hx
    refine wpAny_bind (wpAny_attempt (wpAny_mono (turn j v x H1 ks s' hv rv hl hk1 j1 I1) (fun r s2 he => ?_) fun _ _ hF => hF.elim))
    obtain ⟨y, H2, I2, ry, hk2, j2⟩ := he
    try dsimp only
    obtain ⟨z, its, n, r2, hl2, e2⟩ := I2.lstM hk2
    have hj : j < vs.length := (List.getElem?_eq_some_iff.mp hx).1
    refine wpAny_bind (listUpdate_at e2 rfl ?_ (by rw [List.size_toArray]; omega) (by rw [Array.size_push, List.size_toArray]; omega))
    refine wpAny_pure ⟨rfl, _, ks ++ [y], by rw [List.length_append, hl]; rfl, upd_same .., j2, I2.lset (f := fun a => a.push r) (its' := its ++ [r]) (t' := s2.toks) hk2 e2 (by simp) (r2.append (.cons ry .nil)) (by rw [List.length_append, List.length_singleton]; omega)⟩
  case done =>
    rintro s' ⟨H1, ks, hl, hk1, j1, I1⟩
    simp only [Nat.zero_add] at hl j1
    rw [← hxl] at j1 hl
    obtain ⟨z, its, n, r1, hl1, ee⟩ := I1.lstM hk1
    have hk' := each_reads I1 r1 (keys H1 ks j1)
    try dsimp only
    refine wpAny_bind (listItems_at ee rfl ?_)
    have S := SortsAt.data (prog := X.prog) (w := X.w) (A := A) (s := s') (vs := its) hk' hal hsk hu
    refine sk_end (κ := dataKind s'.heap kz) (ys := byKey xs kz) I1 h0 hc hp hk1 (by simpa using S) (by rw [List.size_toArray]; omega) hZ ?_ fun s2 I2 => h s2 H1 ks j1 (I1.pin (D, seqObj "list" #[] e1) (List.mem_append_right _ (List.mem_cons_self ..))).2.1 hk1 I2
    have ko : KeyedOut false ((xs.zip kz).map Prod.snd) vs (sortVals (dataKind s'.heap kz) false its.toArray.toList vs) := by
      rw [List.map_snd_zip (by omega)]
      exact ⟨s'.heap, its, hal, by simp, hk'⟩
    exact vals_of_each (keyedOut_each Prod.snd ko (each_rel hxv hlen))
/-- sorted(xs, key=f) -/
theorem sk_sorted {X : Cx} {E : Value → Shared → Prop} {Q : VK} {pins : List (Addr × Obj)} {σ : St} {H : Hp} {s : Shared} {xs : List V} {kz : List PyData} {l f : Addr} (J : Addr → Nat → Hp → List V → Prop)
    (I : Inv X pins σ H s) (hs : SqL X.K H l xs) (hlen : kz.length = xs.length) (hal : AllAlike kz) (hsk : Sortable kz) (hu : ∀ d, d ∈ kz → X.A.units + 2 + d.depth < cLine) (j0 : ∀ kS, H kS = none → J kS 0 (upd H kS (.lst [])) [])
    (turn : ∀ (kS : Addr) (i : Nat) (v : V) (u : Value) (H1 : Hp) (ks : List V) (s1 : Shared) (pins' : List (Addr × Obj)), xs[i]? = some v → RelV v u → ks.length = i → H1 kS = some (.lst ks) → J kS i H1 ks → Inv X pins' σ H1 s1 →
      wpAny (model X.prog X.w) X.A.in1.in1 (call (.ref f) [u]) (fun r s2 => ∃ y H2, Inv X pins' σ H2 s2 ∧ RelV y r ∧ H2 kS = some (.lst ks) ∧ J kS (i + 1) (upd H2 kS (.lst (ks ++ [y]))) (ks ++ [y])) (fun _ _ => False) s1)
    (keys : ∀ kS H1 ks, J kS xs.length H1 ks → EachIs (fun v d => Dp X.K H1 v d) ks kz)
    (q : ∀ kS D H1 ks, J kS xs.length H1 ks → H1 D = none → H1 kS = some (.lst ks) → Q (.ref D) (upd (upd H1 kS (.lst [])) D (.lst (byKey xs kz)))) :
    wpAny (model X.prog X.w) X.A (call (.builtin "sorted") [.ref l] [(Str.ofString "key", .ref f)]) (EP X pins σ Q) E s := by
  obtain ⟨its, rv, hl, hz⟩ := I.list hs
  have hZ : its.length ≤ sizeLine := by rw [← rv.length]; exact hz
  refine sorted_of_sort hl.isList hZ (ksk_s1 _ _) (fun _ => ksk_l1 _ _) fun E' => ?_
  rw [ksk_t1]
  have I1 : Inv X pins σ H { s with heap := copyHeap s.heap its } := I.kept (t' := s.toks) fun _ _ => copyHeap_old
  have ho := copyHeap_at s.heap its
  have nD : H (s.heap.objs.size + 1) = none := I.hok.fresh (Nat.le_succ _)
  have nL : s.heap.objs.size + 1 ≠ X.env.locals := Nat.ne_of_gt (Nat.lt_succ_of_lt I.lt)
  have nfs : s.heap.objs.size + 1 ∉ X.fs := I.nofs (Nat.le_succ _)
  have h0 : X.s_0.heap.objs.size ≤ s.heap.objs.size + 1 := Nat.le_trans I.sz (Nat.le_succ _)
  have hc : ∀ x c, X.env.cells.lookup x = some c → c ≠ s.heap.objs.size + 1 := fun x c e => by
    obtain ⟨v, o, ho, _⟩ := I.cell x c e
    exact Nat.ne_of_lt (Nat.lt_succ_of_lt (Heap.lt_size ho))
  have hp : ∀ p ∈ X.pn ++ pins, p.1 ≠ s.heap.objs.size + 1 := fun p hp => Nat.ne_of_lt (Nat.lt_succ_of_lt (Heap.lt_size (I.pin p hp).1))
  generalize hD : s.heap.objs.size + 1 = D at ho nD nL nfs h0 hc hp
  unfold ksk_tree
  refine wpAny_bind (listItems_at ho rfl ?_)
  refine wpAny_bind (listUpdate_at ho rfl ?_ (by rw [List.size_toArray]; exact hZ) (Nat.zero_le _))
  obtain ⟨e1, ho1⟩ : ∃ e1, ((copyHeap s.heap its).update D (Obj.mapSeq fun _ => (#[] : Array Value))).get? D = some (seqObj "list" #[] e1) := ⟨_, get?_update_seq ho fun _ => #[]⟩
  have I2 : Inv X pins σ H { s with heap := (copyHeap s.heap its).update D (Obj.mapSeq fun _ => (#[] : Array Value)) } := I1.turned (t' := s.toks) (fun b o hb e => (Heap.get?_update_other _ _ (Ne.symm hb)).trans e) nD nL (.inr h0) hc hp
  refine wpAny_bind (seqEpoch_at ho1 rfl ?_)
  refine wpAny_bind (wpAny_newTuple ?_ (by show its.length ≤ _; exact hZ))
  refine wpAny_bind (wpAny_newList ?_ (Nat.zero_le _))
  refine wpAny_holding ?_
  generalize hh2 : (copyHeap s.heap its).update D (Obj.mapSeq fun _ => (#[] : Array Value)) = h2 at ho1 I2
  have I3 : Inv X pins σ H { s with heap := h2.push { cls := .type "tuple", data := .seq its.toArray } } := I2.kept (t' := s.toks) fun _ _ e => Heap.get?_push_of_some _ e
  have ho3 : (h2.push { cls := .type "tuple", data := .seq its.toArray }).get? D = some (seqObj "list" #[] e1) := Heap.get?_push_of_some _ ho1
  have I4 : Inv X ((D, seqObj "list" #[] e1) :: pins) σ H { s with heap := h2.push { cls := .type "tuple", data := .seq its.toArray } } := I3.pins_of fun p hp' => by
    rcases List.mem_cons.mp hp' with rfl | hp'
    · exact ⟨ho3, nD, nL, nfs, fun v => by intro z; cases z⟩
    · exact I3.pin p (List.mem_append_right _ hp')
  have nk := I4.fresh
  have I5 := I4.lnew (its := []) (ys := []) (t' := s.toks) .nil (Nat.zero_le _)
  refine sk_rest (E := E') (J ((h2.push { cls := .type "tuple", data := .seq its.toArray }).objs.size)) I5 h0 hc hp (upd_same ..) rv hlen hZ hal hsk (fun d hd => hu d hd) (j0 _ nk) (fun i v u H1 ks s1 a1 a2 a3 a4 a5 a6 => turn _ i v u H1 ks s1 _ a1 a2 a3 a4 a5 a6) (keys _) fun s' H1 ks j1 d1 k1 I6 => ⟨rfl, .ref _, _, I6, ?_, q _ _ H1 ks j1 d1 k1⟩
  rfl
end L2

set_option maxHeartbeats 1000000
/-! Tq14: sorted(xs, key=f): xs data, f an own def whose keys are tuples of ints. -/
namespace Tq
open PySem PySem.Spec PyProof.Rows L2

section
variable {K : PySem.W.Frag} {Z B H : Hp} {ρ : Nat → Option Addr} {h : Hq}
/-- backP, and what stood is not touched -/
theorem Ok.backP2 (ok : Ok K Z B ρ H h) {B' H' : Hp} {ρ' : Nat → Option Addr} {h' : Hq} (ok' : Ok K H B' ρ' H' h') (g : Gr H B (fun _ => none) B' ρ') :
    ∃ B2, Ok K Z B2 ρ H' h ∧ Gr Z B ρ B2 ρ ∧ (∀ v w d, RA K B' ρ' v w → view h' w = some d → Rp K B2 v d) ∧ ∀ a, H a ≠ none → B2 a = B a := by
  let B2 : Hp := fun a => if H a = none then H' a else B a
  have s0 : Same H H' := ok'.zz
  have zn : ∀ a, H a = none → Z a = none := fun a e => by
    cases z : Z a with
    | none => rfl
    | some u => rw [ok.zz a u z] at e; cases e
  have bn : ∀ a, H a = none → B a = none := fun a e => by
    cases z : B a with
    | none => rfl
    | some u => rw [ok.ex a u z] at e; cases e
  have b1 : Same B B2 := fun a o e => by
    show (if H a = none then H' a else B a) = some o
    rw [if_neg (by rw [ok.ex a o e]; simp)]
    exact e
  have b2 : Same B2 H' := fun a o e => by
    have e : (if H a = none then H' a else B a) = some o := e
    split at e
    · exact e
    · exact s0 _ _ (ok.ex a o e)
  have b3 : ∀ a, H a ≠ none → B2 a = B a := fun a e => if_neg e
  have b4 : Same B' B2 := fun a o e => by
    by_cases z : B a = none
    · have hz := g.fz a z (by rw [e]; simp)
      show (if H a = none then H' a else B a) = some o
      rw [if_pos hz]
      exact ok'.ex a o e
    · cases y : B a with
      | none => exact absurd y z
      | some u =>
        have := g.bb a u y
        rw [e] at this
        cases this
        exact b1 a o y
  have gg : Gr Z B ρ B2 ρ := ⟨b1, fun _ _ e => e, fun a e e' => by
    by_cases z : H a = none
    · exact zn a z
    · rw [b3 a z] at e'; exact absurd e e'⟩
  refine ⟨B2, ⟨b2, fun a o e => s0 _ _ (ok.zz a o e), fun k c e => ?_, ok.nj, fun k a e => ?_, ok.up⟩, gg, fun v w d r e => vw_at ok' b4 (fun b hz hb u hu => ?_) _ v w d r e, b3⟩
  · obtain ⟨a, h1, h2⟩ := ok.ce k c e
    refine ⟨a, h1, ?_⟩
    cases h2 with
    | lst e1 e2 e3 e4 => exact .lst (s0 _ _ e1) (e2.mono gg) (by rw [b3 a (by rw [e1]; simp)]; exact e3) e4
    | nd e1 e2 e3 => exact .nd (e1.to fun b _ u e => s0 _ _ e) (e2.mono gg) fun b hb => ⟨by rw [b3 b (e1.own_or.2.2.1 b hb)]; exact (e3 b hb).1, (e3 b hb).2⟩
    | dead e1 => exact .dead e1
  · have := ok.al k a e
    cases z : H a with
    | none => exact absurd z this
    | some u => rw [s0 _ _ z]; simp
  · show (if H b = none then H' b else B b) = some u
    rw [if_pos hz]
    exact hu
/-- an object that is nobody's is left out -/
theorem Ok.less {q : Addr} {xs : List V} (ok : Ok K Z B ρ H h) (hq : H q = some (.lst xs)) (hB : B q = none) (hZ : Z q = none) (hr : ∀ k, ρ k ≠ some q) : Ok K Z B ρ (fun a => if a = q then none else H a) h := by
  have ne : ∀ {P : Hp} {a : Addr} {o : HO}, P q = none → P a = some o → a ≠ q := fun hp e z => by rw [z, hp] at e; cases e
  refine ⟨fun a o e => by rw [if_neg (ne hB e)]; exact ok.ex a o e, fun a o e => by rw [if_neg (ne hZ e)]; exact ok.zz a o e, fun k c e => ?_, ok.nj, fun k a e => ?_, ok.up⟩
  · obtain ⟨a, h1, h2⟩ := ok.ce k c e
    have na : a ≠ q := fun z => hr k (by rw [h1, z])
    refine ⟨a, h1, ?_⟩
    cases h2 with
    | lst e1 e2 e3 e4 => exact .lst (by rw [if_neg na]; exact e1) e2 e3 e4
    | nd e1 e2 e3 =>
      refine .nd (e1.to fun b hb u eb => ?_) e2 e3
      have nb : b ≠ q := fun z => by
        rcases e1.own_or.2.1 b hb with y | y
        · exact na (y.symm.trans z)
        · rw [z, hq] at y; cases y
      rw [if_neg nb]
      exact eb
    | dead e1 => exact .dead e1
  · have na : a ≠ q := fun z => hr k (by rw [e, z])
    rw [if_neg na]
    exact ok.al k a e
end
/-! ### keys -/
def intD : D → Option Int
  | .int i => some i
  | _ => none
/-- a tuple of ints, at least one -/
def keyI : D → Option (Int × List Int)
  | .tup (.int i :: r) => (mapMn intD r).map fun js => (i, js)
  | _ => none
def encI (b : Int × List Int) : PyData := .tuple ((b.1 :: b.2).map PyData.int)
theorem intD_of {ds : List D} {js : List Int} (e : mapMn intD ds = some js) : ds = js.map D.int := by
  induction ds generalizing js with
  | nil => cases e; rfl
  | cons d r ih =>
    unfold mapMn at e
    cases d with
    | int i =>
      dsimp only [intD] at e
      split at e
      · rename_i bs e2
        cases e
        rw [List.map_cons, ih e2]
      · cases e
    | _ => cases e
theorem keyI_of {d : D} {b : Int × List Int} (e : keyI d = some b) : d = .tup ((b.1 :: b.2).map D.int) := by
  unfold keyI at e
  split at e
  · rename_i i r
    obtain ⟨js, e2, rfl⟩ := Option.map_eq_some_iff.mp e
    rw [intD_of e2]
    rfl
  · cases e
theorem toPs_ints : ∀ (js : List Int), D.toPs (js.map D.int) = js.map PyData.int
  | [] => rfl
  | j :: r => congrArg (PyData.int j :: ·) (toPs_ints r)
theorem keyI_toP {d : D} {b : Int × List Int} (e : keyI d = some b) : d.toP = encI b := by
  rw [keyI_of e]
  show PyData.tuple (D.toPs ((b.1 :: b.2).map D.int)) = _
  rw [toPs_ints]
  rfl
theorem keyI_shp {d : D} {b : Int × List Int} (e : keyI d = some b) : d.shp = true := by
  rw [keyI_of e]
  exact shp_tup (by rw [List.all_map]; exact List.all_eq_true.mpr fun _ _ => rfl)
theorem enc_alike (b b' : Int × List Int) : PySem.W.alike (encI b) (encI b') = true := PySem.W.alike_ints _ _
theorem enc_depth (b : Int × List Int) : (encI b).depth ≤ 1 := by
  show PyData.depthAll ((b.1 :: b.2).map PyData.int) + 1 ≤ 1
  rw [PySem.W.depth_ints]
  exact Nat.le_refl _
/-- the key of an item -/
def keyOf (sem : Sem1) (e : D) : Option (Int × List Int) := match sem [.d e] [] with
  | some (.ok u h') => (match view h' u with | some k => keyI k | none => none)
  | _ => none
def byKeyA {α : Type} (ws : List α) (kz : List (Int × List Int)) : List α := ((ws.zip (kz.map encI)).mergeSort (PySem.W.dataLe false Prod.snd)).map (·.1)
def gSortK (o : Bool) (sem : Sem1) : G1 := fun a h => match lstOf h a with
  | some ws => (match allD ws with
    | some es => (match mapMn (keyOf sem) es with
      | some kz => mkL o (byKeyA ws kz) h
      | none => none)
    | none => none)
  | none => none
section
variable {K : PySem.W.Frag} {B : Hp} {ρ : Nat → Option Addr}
theorem ral_len {vs : List V} {ws : List A} (r : RAL K B ρ vs ws) : vs.length = ws.length := r.length
theorem ral_zip : ∀ {vs : List V} {ws : List A}, RAL K B ρ vs ws → ∀ p ∈ vs.zip ws, RA K B ρ p.1 p.2
  | _, _, .nil, _, h => by simp at h
  | _, _, .cons r t, p, h => by
    rw [List.zip_cons_cons] at h
    rcases List.mem_cons.mp h with rfl | h
    · exact r
    · exact ral_zip t p h
theorem ral_unzip : ∀ {l : List ((V × A) × PyData)}, (∀ p ∈ l, RA K B ρ p.1.1 p.1.2) → RAL K B ρ (l.map (·.1.1)) (l.map (·.1.2))
  | [], _ => .nil
  | p :: r, h => .cons (h p (List.mem_cons_self ..)) (ral_unzip fun q hq => h q (List.mem_cons_of_mem _ hq))
theorem zip3 : ∀ (vs : List V) (ws : List A) (ps : List PyData), vs.length = ws.length → vs.zip ps = ((vs.zip ws).zip ps).map (fun p => (p.1.1, p.2)) ∧ ws.zip ps = ((vs.zip ws).zip ps).map (fun p => (p.1.2, p.2))
  | [], [], _, _ => ⟨rfl, rfl⟩
  | [], _ :: _, _, h => by simp at h
  | _ :: _, [], _, h => by simp at h
  | _ :: _, _ :: _, [], _ => ⟨rfl, rfl⟩
  | v :: vs, w :: ws, p :: ps, h => by
    obtain ⟨h1, h2⟩ := zip3 vs ws ps (by simpa using h)
    constructor
    · rw [List.zip_cons_cons, List.zip_cons_cons, List.zip_cons_cons, List.map_cons, ← h1]
    · rw [List.zip_cons_cons, List.zip_cons_cons, List.zip_cons_cons, List.map_cons, ← h2]
theorem ral_byKey {vs : List V} {ws : List A} {kz : List (Int × List Int)} (r : RAL K B ρ vs ws) : RAL K B ρ (L2.byKey vs (kz.map encI)) (byKeyA ws kz) := by
  obtain ⟨e1, e2⟩ := zip3 vs ws (kz.map encI) r.length
  generalize hl : (vs.zip ws).zip (kz.map encI) = l at e1 e2
  have m1 : (l.mergeSort (PySem.W.dataLe false Prod.snd)).map (fun p => (p.1.1, p.2)) = (l.map fun p => (p.1.1, p.2)).mergeSort (PySem.W.dataLe false Prod.snd) := List.map_mergeSort fun _ _ _ _ => rfl
  have m2 : (l.mergeSort (PySem.W.dataLe false Prod.snd)).map (fun p => (p.1.2, p.2)) = (l.map fun p => (p.1.2, p.2)).mergeSort (PySem.W.dataLe false Prod.snd) := List.map_mergeSort fun _ _ _ _ => rfl
  unfold L2.byKey byKeyA
  rw [e1, e2, ← m1, ← m2, List.map_map, List.map_map]
  refine ral_unzip fun p hp => ?_
  have hp : p ∈ l := List.mem_mergeSort.mp hp
  rw [← hl] at hp
  exact ral_zip r p.1 (List.of_mem_zip hp).1
theorem rpl_get : ∀ {vs : List V} {ds : List D}, RpL K B vs ds → ∀ {i : Nat} {v : V}, vs[i]? = some v → ∃ d, ds[i]? = some d ∧ Rp K B v d
  | _, _, .nil, i, v, h => by simp at h
  | _, _, .cons r t, 0, v, h => by cases h; exact ⟨_, rfl, r⟩
  | _, _, .cons r t, i + 1, v, h => rpl_get t (by simpa using h)
theorem rpl_mono {B' : Hp} (e : Same B B') : ∀ {vs : List V} {ds : List D}, RpL K B vs ds → RpL K B' vs ds
  | _, _, .nil => .nil
  | _, _, .cons r t => .cons (r.mono e) (rpl_mono e t)
theorem rpl_snoc {v : V} {d : D} (r2 : Rp K B v d) : ∀ {vs : List V} {ds : List D}, RpL K B vs ds → RpL K B (vs ++ [v]) (ds ++ [d])
  | _, _, .nil => .cons r2 .nil
  | _, _, .cons r t => .cons r (rpl_snoc r2 t)
end
theorem mapMn_get {α β : Type} {f : α → Option β} : ∀ {as : List α} {bs : List β}, mapMn f as = some bs → as.length = bs.length ∧ ∀ (i : Nat) (a : α), as[i]? = some a → ∃ b, bs[i]? = some b ∧ f a = some b
  | [], bs, e => by
    cases e
    exact ⟨rfl, fun i a h => by simp at h⟩
  | a :: r, bs, e => by
    unfold mapMn at e
    split at e
    · rename_i b e1
      split at e
      · rename_i bs' e2
        cases e
        obtain ⟨h1, h2⟩ := mapMn_get e2
        refine ⟨by simp [h1], fun i x hx => ?_⟩
        cases i with
        | zero => cases hx; exact ⟨b, rfl, e1⟩
        | succ i => exact h2 i x (by simpa using hx)
      · cases e
    · cases e
theorem each_keys {K : PySem.W.Frag} {B H : Hp} (e : Same B H) : ∀ {ks : List V} {kz : List (Int × List Int)}, RpL K B ks (kz.map fun b => .tup ((b.1 :: b.2).map D.int)) → PySem.W.EachIs (fun v d => Dp K H v d) ks (kz.map encI)
  | _, [], .nil => .nil
  | _, b :: kz, .cons r t => by
    refine .cons ?_ (each_keys e t)
    have := (r.mono e).dp (show SeqAt.shaped _ = true from shp_tup (by rw [List.all_map]; exact List.all_eq_true.mpr fun _ _ => rfl))
    rwa [show (D.tup ((b.1 :: b.2).map D.int)).toP = encI b from by
      show PyData.tuple (D.toPs ((b.1 :: b.2).map D.int)) = _
      rw [toPs_ints]
      rfl] at this
/-- a call within two built-ins; nothing is let out -/
theorem run_in2 {X : Cx} {k : Nat} {f : Addr} {fd : FuncData} {ps : List Str} {sp : Sp} {pins : List (Addr × Obj)} {σ : L2.St} {H : Hp} {s : Shared} {Q : VK} {us : List Value} {vs : List V} (F : FnOk X.prog X.w X.K X.mg X.base (L2.CX X.prog X.w) k f fd ps sp) (hr : Room (k + 2) X.A) (hb : Binds X.K fd ps [])
    (I : Inv X pins σ H s) (r : Vals vs us) (h : sp vs H Q E0) : wpAny (model X.prog X.w) X.A.in1.in1 (call (.ref f) us) (EP X pins σ Q) (fun _ _ => False) s := by
  have hl : us.length = ps.length := by rw [← r.length]; exact F.len _ _ _ _ h
  have hb2 := hb s us I.kIn (by rw [List.append_nil]; exact hl)
  rw [List.append_nil] at hb2
  refine wpAny_call (codeAny_mono (F.run X.A.in1.in1 X.stack s H ⟨us, []⟩ us vs Q E0 hr.in1.in1 I.env0.in1.in1 hb2 r h) fun r s' hq => ?_)
  cases r with
  | error e =>
    obtain ⟨_, _, _, _, _, _, _, _, _, _, _, _, hE⟩ := hq
    exact hE
  | ok fl =>
    cases fl with
    | ret u => exact I.after hq
    | next => exact False.elim hq
    | brk => exact False.elim hq
    | cont => exact False.elim hq
def dI (b : Int × List Int) : D := .tup ((b.1 :: b.2).map D.int)
def rSK (K : PySem.W.Frag) (f : Addr) (o : Bool) (sem : Sem1) : List V → List V → Hp → VK → Prop := fun vs zs H Q => zs = [.ref f] ∧ ∃ (x : V) (a : A) (Z B : Hp) (ρ : Nat → Option Addr) (h : Hq) (Wx : XK), vs = [x] ∧ Ok K Z B ρ H h ∧ RA K B ρ x a ∧ Post K Z Wx B ρ (fun w _ B' ρ' H' => ∀ v, RA K B' ρ' v w → Q v H') (gSortK o sem a h)
theorem cr_sortK {X : Cx} {k : Nat} {f : Addr} {fd : FuncData} {pn : Str} {o : Bool} {sem : Sem1} (F : FnOk X.prog X.w X.K X.mg X.base (L2.CX X.prog X.w) k f fd [pn] (spQ X.K 1 sem)) (hr : Room (k + 2) X.A) (hb : Binds X.K fd [pn] []) : CallRK X (.builtin "sorted") [Str.ofString "key"] (rSK X.K f o sem) := by
  intro pins s σ H xs zs us ws Q I r rz hh
  obtain ⟨rfl, x, a, Z, B, ρ, h, Wx, rfl, ok, ra, q⟩ := hh
  unfold gSortK at q
  split at q
  · rename_i wl e1
    split at q
    · rename_i es e2
      split at q
      · rename_i kz e3
        obtain ⟨p, vs, rfl, hp, rl⟩ := lstOf_ra ok ra e1
        cases allD_of e2
        rw [Vals.ref1 r, Vals.ref1 rz]
        have rp : RpL X.K B vs es := ral_rpl rl
        obtain ⟨ml, mg⟩ := mapMn_get e3
        have hvl : vs.length = es.length := by rw [rl.length, List.length_map]
        let J : Addr → Nat → Hp → List V → Prop := fun kS i H1 ks => ∃ Hg B1, Ok X.K Z B1 ρ Hg h ∧ Gr Z B ρ B1 ρ ∧ Hg kS = none ∧ H1 = upd Hg kS (.lst ks) ∧ RpL X.K B1 ks ((kz.take i).map dI)
        have none_of : ∀ {Hg B1 : Hp} {c : Addr}, Ok X.K Z B1 ρ Hg h → Hg c = none → B1 c = none ∧ Z c = none ∧ ∀ k, ρ k ≠ some c := fun {Hg B1 c} og e => by
          refine ⟨?_, ?_, fun k z => og.al k c z e⟩
          · cases z : B1 c with
            | none => rfl
            | some u => rw [og.ex c u z] at e; cases e
          · cases z : Z c with
            | none => rfl
            | some u => rw [og.zz c u z] at e; cases e
        have grow : ∀ {Hg B1 : Hp} {c : Addr} {ob : HO}, Ok X.K Z B1 ρ Hg h → Hg c = none → Ok X.K Z B1 ρ (upd Hg c ob) h := fun {Hg B1 c ob} og e => og.grow fun b u eb => by
          rw [upd_ne fun z => by rw [z, e] at eb; cases eb]
          exact eb
        refine sk_sorted (xs := vs) (kz := kz.map encI) J I (SqL.of hp) (by rw [List.length_map, ← ml]; exact hvl.symm) (PySem.W.AllAlike.of enc_alike) (PySem.W.Sortable.tuples fun b => ⟨_, _, rfl⟩) (fun d hd => ?_) (fun kS nk => ⟨H, B, ok, Gr.refl, nk, rfl, .nil⟩) (fun kS i v u H1 ks s1 pins' hx rv hl hk j1 I1 => ?_) (fun kS H1 ks j1 => ?_) (fun kS D H1 ks j1 hD hk => ?_)
        · obtain ⟨b, _, rfl⟩ := List.mem_map.mp hd
          have := enc_depth b
          have := hr.un
          omega
        · obtain ⟨Hg, B1, og, g, nk, rfl, rk⟩ := j1
          obtain ⟨e, he, re⟩ := rpl_get rp hx
          obtain ⟨b, hb1, hk1⟩ := mg i e he
          obtain ⟨nB, nZ, nR⟩ := none_of og nk
          have okh : Ok X.K Z B1 ρ (upd Hg kS (.lst ks)) h := grow og nk
          unfold keyOf at hk1
          split at hk1
          · rename_i w h' es1
            split at hk1
            · rename_i kk es2
              refine wpAny_mono (run_in2 (Q := fun y H2 => ∃ B2, Ok X.K Z B2 ρ H2 h ∧ Gr Z B1 ρ B2 ρ ∧ Rp X.K B2 y kk ∧ B2 kS = none ∧ H2 kS = some (.lst ks)) F hr hb I1 (.cons rv .nil) ⟨rfl, _, B1, fun _ => none, [], [.d e], okh.void, .cons (.d (re.mono g.bb)) .nil, ?_⟩) (fun r s2 hq => ?_) fun _ _ z => z
              · rw [es1]
                intro B' ρ' H' ok' g' y ry
                obtain ⟨B2, o2, g2, see, b3⟩ := okh.backP2 ok' g'
                exact ⟨B2, o2, g2, see y w kk ry es2, (b3 kS (by rw [upd_same]; simp)).trans nB, ok'.zz _ _ (upd_same ..)⟩
              · obtain ⟨y, H2, I2, ry, B2, o2, g2, rk2, nB2, hk2⟩ := hq
                refine ⟨y, H2, I2, ry, hk2, fun a => if a = kS then none else H2 a, B2, o2.less hk2 nB2 nZ nR, g.trans g2, if_pos rfl, ?_, ?_⟩
                · funext c
                  by_cases z : c = kS
                  · rw [z, upd_same, upd_same]
                  · rw [upd_ne z, upd_ne z, if_neg z]
                · have et : (kz.take (i + 1)).map dI = (kz.take i).map dI ++ [dI b] := by
                    rw [List.take_add_one, hb1, List.map_append]
                    rfl
                  rw [et]
                  refine rpl_snoc ?_ (rpl_mono g2.bb rk)
                  rw [keyI_of hk1] at rk2
                  exact rk2
            · cases hk1
          · cases hk1
        · obtain ⟨Hg, B1, og, g, nk, rfl, rk⟩ := j1
          rw [List.take_of_length_le (by omega)] at rk
          exact each_keys (grow og nk).ex rk
        · obtain ⟨Hg, B1, og, g, nk, rfl, rk⟩ := j1
          have eu : upd (upd Hg kS (.lst ks)) kS (.lst []) = upd Hg kS (.lst []) := by
            funext c
            by_cases z : c = kS
            · rw [z, upd_same, upd_same]
            · rw [upd_ne z, upd_ne z, upd_ne z]
          have nd : D ≠ kS := fun z => by rw [z, upd_same] at hD; cases hD
          rw [eu]
          exact mkL_ok (grow og nk) (ral_byKey (rl.mono g)) (q.from g) (by rw [upd_ne nd]; rw [upd_ne nd] at hD; exact hD)
      · exact q.elim
    · exact q.elim
  · exact q.elim
theorem rx_sortK {X : Cx} {W : WX} {a : Expr} {ma : E A} {j k : Nat} {x pn : Str} {sem : Sem1} {p0 px kp pos : Pos} (o : Bool) (Df : Def X.prog X.w X.K X.mg X.base j x [pn] sem) (hr : Room k X.A) (hj : j + 2 ≤ k) (ha : RX X W a ma) (hm : X.mg "sorted" = none)
    (hgs : Gl X "sorted" := by rfl) (hg : Gl X x := by rfl) (hdb : (x == ("__debug__" : Str)) = false := by decide)
    (he1 : starEach [a] X.env = (false, eval a X.env) :: starEach [] X.env := by rfl) (he : backTo pos (starEach [a] X.env) = (false, eval a X.env) :: backTo pos (starEach [] X.env) := by rfl) (hpl : (backTo pos (starEach [a] X.env)).any (·.1) = false := by rfl)
    (hall : (backToKw pos (keywordEach [⟨some "key", .Name x px, kp⟩] X.env)).all (·.1.isSome) = true := by rfl) (hnone : (backToKw pos (keywordEach [⟨some "key", .Name x px, kp⟩] X.env)).any (·.1.isNone) = false := by rfl) (hks : (backToKw pos (keywordEach [⟨some "key", .Name x px, kp⟩] X.env)).filterMap (·.1) = [Str.ofString "key"] := by rfl) :
    RX X W (.Call (.Name "sorted" p0) [a] [⟨some "key", .Name x px, kp⟩] pos) (mUn (gSortK o sem) ma) := by
  obtain ⟨fa, fd, F, h1, h2, h3⟩ := Df.ex
  refine ⟨pe_imp (pe_callBK (cr_sortK (o := o) F (hr.mono hj) h3) hgs hm (by decide +kernel) (pa_cons ha.pe pa_nil he1) (pk_cons (pe_glob (v := .ref fa) hg h1 rfl hdb) pk_nil) (by decide) (by decide) he hpl hall hnone hks) fun σ H Q q => ?_⟩
  obtain ⟨Z, B, ρ, τ, h, ok, sl, q⟩ := q
  exact te_bd ok sl q fun v w h1 B1 ρ1 H1 rv ok1 sl1 g1 q1 => ⟨rfl, v, w, Z, B1, ρ1, h1, _, rfl, ok1, rv, q1⟩
end Tq

set_option maxHeartbeats 1000000
/-! Tq15: sum of ints (lists, tuples); a < b < c as a test. -/
namespace L2
open PySem PySem.Spec PyProof.Rows
section
variable {prog : Program} {w : World} {A : Around} {E : Value → Shared → Prop} {s : Shared}
theorem sum_tupG {a : Addr} {xs : Array (Int × Tok)} {Q : Value → Shared → Prop} (hh : A.handled = none) (hT : s.heap.IsTuple a (intItems xs))
    (h : ∀ h' tk t', (∀ b o, s.heap.get? b = some o → h'.get? b = some o) → Q (.int (preSum (numAt xs) xs.size) t') { s with heap := h', toks := tk }) :
    wpAny (model prog w) A (call (.builtin "sum") [.ref a]) Q E s := by
  have ha : a < s.heap.objs.size := by
    obtain ⟨o, e, _⟩ := hT
    exact Heap.lt_size e
  refine call_sum_walkG (wpAny_pyIter_tuple hT ?_)
  refine ⟨_, [_, a], [_], _, _, _, numAt xs, rfl, Walks.tuple (A := A.in1) hh _ a (Nat.ne_of_lt ha) (intItems xs), ⟨⟨_, Heap.get?_push_size _ rfl, rfl, rfl⟩, hT.push _⟩, fun c hc => ?_, (fun _ _ => intItems_at), fun h' tk t' hk => ?_⟩
  · show c < (s.heap.push _).objs.size
    rw [Heap.size_push]
    rcases List.mem_cons.mp hc with rfl | hc
    · exact Nat.lt_succ_self _
    · rcases List.mem_cons.mp hc with rfl | hc
      · exact Nat.lt_succ_of_lt ha
      · cases hc
  · have hold : ∀ c o, s.heap.get? c = some o → h'.get? c = some o := fun c o e => by
      refine hk c o (fun hm => ?_) (Heap.get?_push_of_some _ e)
      rcases List.mem_cons.mp hm with e1 | hm
      · have := Heap.lt_size e; rw [e1] at this; exact Nat.lt_irrefl _ this
      · cases hm
    have := h h' tk t' hold
    simpa [intItems] using this
theorem sum_tup_raw {a : Addr} {its : List Value} {ns : List Int} {Q : Value → Shared → Prop} (hh : A.handled = none) (hl : s.heap.IsTuple a its.toArray) (hi : IntsAre its ns)
    (h : ∀ h' tk t', (∀ b o, s.heap.get? b = some o → h'.get? b = some o) → Q (.int ns.sum t') { s with heap := h', toks := tk }) : wpAny (model prog w) A (call (.builtin "sum") [.ref a]) Q E s := by
  obtain ⟨xs, e⟩ := hi.allInts.items
  have hn : numsOf (intItems xs).toList = ns := by rw [← e]; exact hi.numsOf
  rw [nums_intItems] at hn
  rw [e] at hl
  refine sum_tupG hh hl fun h' tk t' hk => ?_
  have := h h' tk t' hk
  rw [preSum_eq, List.take_of_length_le (by simp), hn]; exact this
end
def rSumT (K : PySem.W.Frag) : List V → Hp → VK → Prop := fun vs H Q => ∃ (a : Addr) (ns : List Int), vs = [V.ref a] ∧ SqT K H a (ns.map V.int) ∧ Q (.int ns.sum) H
theorem cr_sumT {X : Cx} (hc : X.calm = true) : CallR X (.builtin "sum") (rSumT X.K) := by
  intro pins s σ H vs us Q I r h
  obtain ⟨a, ns, rfl, hs, q⟩ := h
  obtain ⟨its, rv, hl, _⟩ := I.tuple hs
  rw [Vals.ref1 r]
  exact sum_tup_raw (I.ok.hd hc) hl rv.ints fun h' tk t' hk => ⟨.int _, H, I.kept hk, ⟨_, rfl⟩, q⟩
end L2
theorem L2.cr_sumLT {X : L2.Cx} (hc : X.calm = true) : L2.CallR X (.builtin "sum") (fun vs H Q => L2.rSum X.K vs H Q ∨ L2.rSumT X.K vs H Q) := by
  intro pins s σ H vs us Q I r h
  rcases h with h | h
  · exact L2.cr_sum hc pins s σ H vs us Q I r h
  · exact L2.cr_sumT hc pins s σ H vs us Q I r h
namespace Tq
open PySem PySem.Spec PyProof.Rows L2
def intA : A → Option Int
  | .d (.int i) => some i
  | _ => none
def gSum : G1 := fun a h => match tupOf a with
  | some ws => (match mapMn intA ws with | some ns => some (.ok (.d (.int ns.sum)) h) | none => none)
  | none => (match lstOf h a with
    | some ws => (match mapMn intA ws with | some ns => some (.ok (.d (.int ns.sum)) h) | none => none)
    | none => none)
theorem intsA_of {K : PySem.W.Frag} {B : Hp} {ρ : Nat → Option Addr} : ∀ {vs : List V} {ws : List A} {ns : List Int}, RAL K B ρ vs ws → mapMn intA ws = some ns → vs = ns.map V.int
  | _, _, ns, .nil, e => by cases e; rfl
  | _, _, ns, .cons (w := w) r t, e => by
    unfold mapMn at e
    cases w with
    | d x =>
      cases x with
      | int i =>
        dsimp only [intA] at e
        split at e
        · rename_i bs e2
          cases e
          rw [rp_int (ra_d r), intsA_of t e2]
          rfl
        · cases e
      | _ => cases e
    | _ => cases e
theorem og_sum {K : PySem.W.Frag} : Op1 K (fun x H Q => rSum K [x] H Q ∨ rSumT K [x] H Q) gSum := by
  intro Z B ρ H h x a W Q ok rx q
  unfold gSum at q
  split at q
  · rename_i ws e1
    split at q
    · rename_i ns e2
      obtain ⟨p, vs, rfl, h1, r1⟩ := tupOf_ra rx e1
      have := intsA_of r1 e2
      subst this
      exact .inr ⟨p, ns, rfl, sqt_of (ok.ex _ _ h1), q.now ok _ (.d (.int _))⟩
    · exact q.elim
  · split at q
    · rename_i ws e1
      split at q
      · rename_i ns e2
        obtain ⟨p, vs, rfl, h1, r1⟩ := lstOf_ra ok rx e1
        have := intsA_of r1 e2
        subst this
        exact .inl ⟨p, ns, rfl, SqL.of h1, q.now ok _ (.d (.int _))⟩
      · exact q.elim
    · exact q.elim
theorem rx_sum {X : Cx} {W : WX} {a : Expr} {ma : E A} {px pos : Pos} (hc : X.calm = true) (ha : RX X W a ma) (hm : X.mg "sum" = none) (hg : Gl X "sum" := by rfl) (he : starEach [a] X.env = (false, eval a X.env) :: starEach [] X.env := by rfl) :
    RX X W (.Call (.Name "sum" px) [a] [] pos) (mUn gSum ma) := rx_b1 (cr_sumLT hc) og_sum ha hm (by decide +kernel) hg (by decide) (by decide) he
theorem tb_imp {K : PySem.W.Frag} {W : WX} {m : E A} {σ : L2.St} {H : Hp} {Q : Bool → Hp → Prop} (q : tT K W (mTB m) σ H Q) : tE K W m σ H (fun x H' => ∃ k, x = .bl k ∧ Q k H') := by
  obtain ⟨Z, B, ρ, τ, h, ok, sl, q⟩ := q
  refine ⟨Z, B, ρ, τ, h, ok, sl, q.bd.imp fun w h1 B1 ρ1 H1 ok1 g1 q1 v rv => ?_⟩
  split at q1
  · exact ⟨_, rp_bl (ra_d rv), q1.now ok1⟩
  · exact q1.elim
theorem chain_imp {K : PySem.W.Frag} {W : WX} {σ : L2.St} {H : Hp} {Q : VK} {r r' : R2} {g g' : G2} {ma mb mc : E A} (og : Op2 K r g) (og' : Op2 K r' g') (q : tE K W (mChain g g' ma mb mc) σ H Q) : tChain r r' (tE K W ma) (tE K W mb) (tE K W mc) σ H Q := by
  obtain ⟨Z, B, ρ, τ, h, ok, sl, q⟩ := q
  refine te_bd ok sl q fun x a h1 B1 ρ1 H1 rx ok1 sl1 g1 q1 => te_bd ok1 sl1 q1 fun y b h2 B2 ρ2 H2 ry ok2 sl2 g2 q2 => ?_
  refine og Z B2 ρ2 H2 h2 x y a b _ _ ok2 (rx.mono g2) ry (q2.bd.imp fun k h3 B3 ρ3 H3 ok3 g3 q3 z rz => ?_)
  split at q3
  · refine ⟨true, rp_bl (ra_d rz), iteT (te_bd ok3 (sl2.mono g3) q3 fun u c h4 B4 ρ4 H4 ru ok4 sl4 g4 q4 => ?_)⟩
    exact og' Z B4 ρ4 H4 h4 y u b c _ Q ok4 (ry.mono (g3.trans g4)) ru q4
  · exact ⟨false, rp_bl (ra_d rz), iteF (q3.now ok3 _ (.d (.bl false)))⟩
  · exact q3.elim
/-- a < b < c as a test -/
theorem rt_chain {X : Cx} {W : WX} {a b c : Expr} {ma mb mc : E A} {pos : Pos} {op op' : CmpOp} {r r' : R2} {g g' : G2} (ho : OpR X (compareOp op) r) (og : Op2 X.K r g) (ho' : OpR X (compareOp op') r') (og' : Op2 X.K r' g') (ha : RX X W a ma) (hb : RX X W b mb) (hc : RX X W c mc) (hm : lastMarks [op, op'] [b, c] = false := by with_unfolding_all rfl) :
    RT X W (.Compare a [op, op'] [b, c] pos) (mTB (mChain g g' ma mb mc)) := ⟨pt_imp (pt_chain ho ho' ha.pe hb.pe hc.pe hm) fun σ H Q q => chain_imp og og' (tb_imp q)⟩
end Tq

set_option maxHeartbeats 1000000
/-! Tq16: a cell of data is frozen: the slot holds the data from here on, the cell is dead. -/
namespace Tq
open PySem PySem.Spec PyProof.Rows L2
section
variable {K : PySem.W.Frag} {Z B H : Hp} {ρ : Nat → Option Addr} {h : Hq}
/-- the objects of a cell are handed to B -/
theorem Ok.fz {k : Nat} {a : Addr} {own : List Addr} (ok : Ok K Z B ρ H h) (hk : k < h.length) (ea : ρ k = some a) (h0 : ∀ b ∈ own, B b = none ∧ Z b = none) (h1 : a ∈ own) (h2 : ∀ b ∈ own, b = a ∨ H b = some (.own a)) (h3 : ∀ b ∈ own, H b ≠ none) (h4 : ∀ z, H a ≠ some (.own z)) :
    Ok K Z (fun b => if b ∈ own then H b else B b) ρ H (h.set k .dead) ∧ Gr Z B ρ (fun b => if b ∈ own then H b else B b) ρ := by
  have gg : Gr Z B ρ (fun b => if b ∈ own then H b else B b) ρ := ⟨fun b u e => by
    show (if b ∈ own then H b else B b) = some u
    split
    · rename_i hb
      rw [(h0 b hb).1] at e
      cases e
    · exact e, fun _ _ e => e, fun b e e' => by
    have e' : (if b ∈ own then H b else B b) ≠ none := e'
    split at e'
    · rename_i hb
      exact (h0 b hb).2
    · exact absurd e e'⟩
  refine ⟨⟨fun b u e => ?_, ok.zz, fun j c e => ?_, ok.nj, ok.al, fun j e => ok.up j (by rw [List.length_set] at e; exact e)⟩, gg⟩
  · have e : (if b ∈ own then H b else B b) = some u := e
    split at e
    · exact e
    · exact ok.ex b u e
  · by_cases hj : j = k
    · subst hj
      rw [List.getElem?_set_self hk] at e
      cases e
      exact ⟨a, ea, .dead (h0 a h1).2⟩
    · rw [List.getElem?_set_ne (Ne.symm hj)] at e
      obtain ⟨b, e1, e2⟩ := ok.ce j c e
      have nab : b ≠ a := fun z => hj (ok.nj j k a (by rw [e1, z]) ea)
      refine ⟨b, e1, ?_⟩
      cases e2 with
      | lst x1 x2 x3 x4 =>
        refine .lst x1 (x2.mono gg) ?_ x4
        show (if b ∈ own then H b else B b) = none
        rw [if_neg fun hb => by
          rcases h2 b hb with y | y
          · exact nab y
          · rw [x1] at y; cases y]
        exact x3
      | nd x1 x2 x3 =>
        refine .nd x1 (x2.mono gg) fun c hc => ⟨?_, (x3 c hc).2⟩
        show (if c ∈ own then H c else B c) = none
        rw [if_neg fun hb => by
          rcases h2 c hb with y | y
          · rcases x1.own_or.2.1 c hc with w | w
            · exact nab (w.symm.trans y)
            · rw [y] at w; exact h4 _ w
          · rcases x1.own_or.2.1 c hc with w | w
            · rw [w] at y; exact x1.own_or.2.2.2.2 _ y
            · rw [w] at y
              cases y
              exact nab rfl]
        exact (x3 c hc).1
      | dead x1 => exact .dead x1
end
/-- the data of a cell, one deep -/
def fzO : O → Option D
  | .lst ws => (allD ws).map .lst
  | .nd hd ws => (allD ws).map (.nd hd)
  | .dead => none
def mFz (i : Nat) : MS := fun τ h => match τ[i]? with
  | some (some (.r k)) => (match h[k]? with
    | some c => (match fzO c with
      | some d => some (.nx (τ.set i (some (.d d))) (h.set k .dead))
      | none => none)
    | none => none)
  | _ => some (.nx τ h)
theorem SlOk.ghost {K : PySem.W.Frag} {B : Hp} {ρ : Nat → Option Addr} {σ : L2.St} {τ : Sl} {i : Nat} {v : V} {w : A} (s : SlOk K B ρ σ τ) (e : σ[i]? = some (some v)) (r : RA K B ρ v w) : SlOk K B ρ σ (τ.set i (some w)) := by
  refine ⟨by rw [List.length_set]; exact s.ln, fun j u h => ?_⟩
  by_cases z : j = i
  · subst z
    rw [List.getElem?_set_self (by rw [← s.ln]; exact (List.getElem?_eq_some_iff.mp e).1)] at h
    cases h
    exact ⟨v, e, r⟩
  · rw [List.getElem?_set_ne (Ne.symm z)] at h
    exact s.at_ j u h
theorem rss_fz {X : Cx} {W : WX} {st : List Stmt} {m : MS} (i : Nat) (hm : RSs X W st m) : RSs X W st (mSeq (mFz i) m) := ⟨pss_imp hm.ps fun De σ H q => by
  obtain ⟨Z, B, ρ, τ, h, ok, sl, q⟩ := q
  unfold mSeq mFz at q
  cases ei : τ[i]? with
  | none =>
    rw [ei] at q
    exact ⟨Z, B, ρ, _, _, ok, sl, q⟩
  | some y =>
    rw [ei] at q
    cases y with
    | none => exact ⟨Z, B, ρ, _, _, ok, sl, q⟩
    | some w =>
      cases w with
      | d _ => exact ⟨Z, B, ρ, _, _, ok, sl, q⟩
      | tup _ => exact ⟨Z, B, ρ, _, _, ok, sl, q⟩
      | r k =>
        dsimp only at q
        cases ec : h[k]? with
        | none => rw [ec] at q; exact q.elim
        | some c =>
          rw [ec] at q
          dsimp only at q
          cases ed : fzO c with
          | none => rw [ed] at q; exact q.elim
          | some d =>
            rw [ed] at q
            dsimp only at q
            obtain ⟨a, ea, x⟩ := ok.ce k c ec
            have hk := (List.getElem?_eq_some_iff.mp ec).1
            obtain ⟨v, ev, rv⟩ := sl.at_ i _ ei
            cases rv with
            | r er =>
              rw [ea] at er
              cases er
              cases x with
              | lst x1 x2 x3 x4 =>
                obtain ⟨ds, e2, rfl⟩ := Option.map_eq_some_iff.mp (show (allD _).map Tq.D.lst = some d from ed)
                cases allD_of e2
                obtain ⟨ok2, gg⟩ := ok.fz (own := [a]) hk ea (fun b hb => by rw [List.mem_singleton.mp hb]; exact ⟨x3, x4⟩) (List.mem_singleton.mpr rfl) (fun b hb => .inl (List.mem_singleton.mp hb)) (fun b hb => by rw [List.mem_singleton.mp hb, x1]; simp) (fun z => by rw [x1]; simp)
                refine ⟨Z, _, ρ, _, _, ok2, (sl.mono gg).ghost ev (.d (.lst (vs := _) ?_ ((ral_rpl x2).mono gg.bb))), q.from gg⟩
                show (if a ∈ [a] then H a else B a) = _
                rw [if_pos (List.mem_singleton.mpr rfl)]
                exact x1
              | nd x1 x2 x3 =>
                obtain ⟨ds, e2, rfl⟩ := Option.map_eq_some_iff.mp (show (allD _).map (Tq.D.nd _) = some d from ed)
                cases allD_of e2
                obtain ⟨ok2, gg⟩ := ok.fz hk ea x3 x1.own_or.1 x1.own_or.2.1 x1.own_or.2.2.1 x1.own_or.2.2.2.2
                refine ⟨Z, _, ρ, _, _, ok2, (sl.mono gg).ghost ev (.d (.nd (x1.to fun b hb u e => ?_) ((ral_rpl x2).mono gg.bb))), q.from gg⟩
                show (if b ∈ _ then H b else B b) = _
                rw [if_pos hb]
                exact e
              | dead _ => cases ed⟩
end Tq

namespace K02
open PySem PySem.Spec PyProof.Rows L2 Tq
def topS (i : Nat) : Stmt := PySem.Challenge.pw_kithwhole_k02_order_of_changes.main.body.getD i (.Pass ⟨0, 0, 0, 0⟩)
def FT : FTab := [("Change", ["author", "number", "heard", "capability", "publics", "parts"])]
/-! ### _law_mix: 0=cell 1=k 2=value -/
abbrev s__law_mix : Stmt := topS 7
theorem sc__law_mix : FnScope ["cell", "k", "value"] ["cell", "k"] (defScope s__law_mix) := ⟨rfl, rfl, rfl, by decide +kernel, rfl, by decide +kernel, by decide +kernel⟩
def b__law_mix : MS :=
 (mSeq (mSet 2 (mBin gMod (mUn gInt (mBin (gAdd false) (mBin (gAdd false) (mBin gMul (mUn gInt (mVar 0)) (mC (.int 48271))) (mBin gMul (mVar 1) (mC (.int 69621)))) (mC (.int 12345)))) (mC (.int 2147483647))))
 (mSeq (mSet 2 (mBin gMod (mUn gInt (mBin (gAdd false) (mBin (gAdd false) (mBin gMul (mVar 2) (mVar 2)) (mBin gMul (mVar 1) (mC (.int 40692)))) (mC (.int 1)))) (mC (.int 2147483399))))
 (mRet (mBin gMod (mBin gDiv (mVar 2) (mC (.int 5))) (mC (.int 9973))))))
def sem__law_mix : Sem1 := runB 2 3 b__law_mix
/-! ### _law_draws: 0=script 1=draws 2=k 3=cell 4=place -/
abbrev s__law_draws : Stmt := topS 8
theorem sc__law_draws : FnScope ["script", "draws", "k", "cell", "place"] ["script"] (defScope s__law_draws) := ⟨rfl, rfl, rfl, by decide +kernel, rfl, by decide +kernel, by decide +kernel⟩
def B1__law_draws : MS :=
 (mIf (mTB (mBin gGt (mVar 3) (mC (.int 0)))) (mSeq (mDrop (mM1 tokL gApp (mVar 1) (mBin gMod (mUn gInt (mVar 3)) (mC (.int 9973)))))
 (mSet 3 (mBin gDiv (mVar 3) (mC (.int 9973))))) mNx)
def L1__law_draws : MS :=
 (mFor (mRange1 (mC (.int 60))) (mgName 4) B1__law_draws)
def B2__law_draws : MS :=
 (mSeq (mSet 3 (mUn gInt (mBin gGet (mVar 0) (mVar 2))))
 (mIf (mTB (mBin gLt (mVar 3) (mBin gPow (mC (.int 10)) (mC (.int 18))))) (mDrop (mM1 tokL gApp (mVar 1) (mCallP sem__law_mix (lenIs 2 (maCons (mVar 3) (maCons (mVar 2) maNil)))))) L1__law_draws))
def L2__law_draws : MS :=
 (mFor (mRange1 (mBin gMin2 (mC (.int 63)) (mUn gLen (mVar 0)))) (mgName 2) B2__law_draws)
def b__law_draws : MS :=
 (mSeq (mSet 1 (mLst true maNil))
 (mSeq L2__law_draws
 (mRet (mVar 1))))
def sem__law_draws : Sem1 := runB 1 5 b__law_draws
/-! ### _law_at: 0=draws 1=index -/
abbrev s__law_at : Stmt := topS 9
theorem sc__law_at : FnScope ["draws", "index"] ["draws", "index"] (defScope s__law_at) := ⟨rfl, rfl, rfl, by decide +kernel, rfl, by decide +kernel, by decide +kernel⟩
def b__law_at : MS :=
 (mSeq (mIf (mTB (mBin gLt (mVar 1) (mUn gLen (mVar 0)))) (mRet (mBin gGet (mVar 0) (mVar 1))) mNx)
 (mSeq (mIf (mTB (mBin (gEq false) (mUn gLen (mVar 0)) (mC (.int 0)))) (mRet (mCallP sem__law_mix (lenIs 2 (maCons (mVar 1) (maCons (mC (.int 77)) maNil))))) mNx)
 (mRet (mCallP sem__law_mix (lenIs 2 (maCons (mBin (gAdd false) (mBin gGet (mVar 0) (mBin gMod (mUn gInt (mVar 1)) (mUn gLen (mVar 0)))) (mBin gMul (mVar 1) (mC (.int 131)))) (maCons (mVar 1) maNil)))))))
def sem__law_at : Sem1 := runB 2 2 b__law_at
/-! ### _law_rows: 0=draws 1=count 2=size 3=limit 4=rows 5=numbers 6=k 7=author 8=heard 9=j 10=capability 11=pick 12=grant 13=publics 14=parts -/
abbrev s__law_rows : Stmt := topS 12
theorem sc__law_rows : FnScope ["draws", "count", "size", "limit", "rows", "numbers", "k", "author", "heard", "j", "capability", "pick", "grant", "publics", "parts"] ["draws"] (defScope s__law_rows) := ⟨rfl, rfl, rfl, by decide +kernel, rfl, by decide +kernel, by decide +kernel⟩
def E1__law_rows : E Tq.A :=
 (mBin gMod (mCallP sem__law_at (lenIs 2 (maCons (mVar 0) (maCons (mBin (gAdd false) (mBin (gAdd false) (mC (.int 12)) (mBin gMul (mC (.int 9)) (mVar 6))) (mVar 9)) maNil)))) (mVar 3))
def C1__law_rows : E Tq.A :=
 (mLC false (mRange1 (mVar 2)) (mgName 9) mYes E1__law_rows [9])
def E2__law_rows : E Tq.A :=
 (mTup (maCons (mC (.bl true)) (maCons (mBin (gEq false) (mBin gMod (mVar 11) (mC (.int 2))) (mC (.int 0))) (maCons (mC (.bl false)) maNil))))
def C2__law_rows : E Tq.A :=
 (mLC false (mRange1 (mC (.int 4))) (mgName 9) mYes E2__law_rows [9])
def B1__law_rows : MS :=
 (mSeq (mSet 7 (mBin gMod (mCallP sem__law_at (lenIs 2 (maCons (mVar 0) (maCons (mBin (gAdd false) (mC (.int 10)) (mBin gMul (mC (.int 9)) (mVar 6))) maNil)))) (mVar 2)))
 (mSeq (mSetI true (mVar 5) (mVar 7) (mBin (gAdd false) (mBin (gAdd false) (mBin gGet (mVar 5) (mVar 7)) (mC (.int 1))) (mBin gDiv (mCallP sem__law_at (lenIs 2 (maCons (mVar 0) (maCons (mBin (gAdd false) (mC (.int 11)) (mBin gMul (mC (.int 9)) (mVar 6))) maNil)))) (mC (.int 997)))))
 (mSeq (mSet 8 C1__law_rows)
 (mSeq (mSet 10 (mBin gGet (mLst false (maCons (mC .non) (maCons (mTup (maCons (mC (.int 0)) (maCons (mBin (gAdd false) (mC (.int 1)) (mBin gMod (mCallP sem__law_at (lenIs 2 (maCons (mVar 0) (maCons (mBin (gAdd false) (mC (.int 18)) (mBin gMul (mC (.int 9)) (mVar 6))) maNil)))) (mC (.int 5)))) (maCons (mC (.int 0)) maNil)))) maNil))) (mBin gMod (mBin gDiv (mCallP sem__law_at (lenIs 2 (maCons (mVar 0) (maCons (mBin (gAdd false) (mC (.int 18)) (mBin gMul (mC (.int 9)) (mVar 6))) maNil)))) (mC (.int 5))) (mC (.int 2)))))
 (mSeq (mSet 11 (mCallP sem__law_at (lenIs 2 (maCons (mVar 0) (maCons (mBin (gAdd false) (mC (.int 18)) (mBin gMul (mC (.int 9)) (mVar 6))) maNil)))))
 (mSeq (mSet 12 (mTup (maCons (mC (.str "grant")) (maCons (mBin gMod (mVar 11) (mC (.int 6))) (maCons (mUn gTupOf C2__law_rows) maNil)))))
 (mSeq (mSet 13 (mSl false (mSl false (mLst false (maCons (mTup (maCons (mC (.str "seal")) maNil)) (maCons (mTup (maCons (mC (.str "revoke")) (maCons (mTup (maCons (mC (.int 0)) (maCons (mC (.int 1)) (maCons (mVar 6) maNil)))) maNil))) (maCons (mTup (maCons (mC (.str "revoke")) (maCons (mC .non) maNil))) (maCons (mVar 12) maNil))))) (moS (mBin gMod (mBin gDiv (mVar 11) (mC (.int 40))) (mC (.int 2)))) moN) moN (moS (mBin gMod (mBin gDiv (mVar 11) (mC (.int 10))) (mC (.int 4))))))
 (mSeq (mSet 14 (mLst false (maCons (mC .non) (maCons (mTup maNil) (maCons (mTup (maCons (mTup (maCons (mC (.str "table")) (maCons (mC (.str "t")) maNil))) maNil)) (maCons (mTup (maCons (mTup (maCons (mC (.str "undo")) (maCons (mTup (maCons (mC (.int 0)) (maCons (mC (.int 1)) maNil))) maNil))) (maCons (mTup (maCons (mC (.str "drop")) (maCons (mTup (maCons (mC (.int 0)) (maCons (mC (.int 1)) (maCons (mC (.int 0)) maNil)))) maNil))) maNil))) maNil))))))
 (mDrop (mM1 tokL gApp (mVar 4) (mLst false (maCons (mVar 7) (maCons (mBin gGet (mVar 5) (mVar 7)) (maCons (mVar 8) (maCons (mVar 10) (maCons (mVar 13) (maCons (mBin (gAdd false) (mSl false (mVar 14) (moS (mBin gMod (mBin gDiv (mVar 11) (mC (.int 80))) (mC (.int 4)))) moN) (mSl false (mVar 14) moN (moS (mBin gMod (mBin gDiv (mVar 11) (mC (.int 80))) (mC (.int 4)))))) maNil)))))))))))))))))
def L1__law_rows : MS :=
 (mFor (mRange1 (mVar 1)) (mgName 6) B1__law_rows)
def b__law_rows : MS :=
 (mSeq (mSet 1 (mBin gMod (mCallP sem__law_at (lenIs 2 (maCons (mVar 0) (maCons (mC (.int 0)) maNil)))) (mC (.int 13))))
 (mSeq (mIf (mTB (mBin (gEq false) (mBin gMod (mCallP sem__law_at (lenIs 2 (maCons (mVar 0) (maCons (mC (.int 1)) maNil)))) (mC (.int 6))) (mC (.int 5)))) (mSet 1 (mBin gGet (mLst false (maCons (mC (.int 60)) (maCons (mC (.int 150)) maNil))) (mBin gMod (mBin gDiv (mCallP sem__law_at (lenIs 2 (maCons (mVar 0) (maCons (mC (.int 1)) maNil)))) (mC (.int 6))) (mC (.int 2))))) mNx)
 (mSeq (mSet 2 (mBin (gAdd false) (mC (.int 1)) (mBin gMod (mCallP sem__law_at (lenIs 2 (maCons (mVar 0) (maCons (mC (.int 2)) maNil)))) (mC (.int 6)))))
 (mSeq (mSet 3 (mBin gGet (mLst false (maCons (mC (.int 4)) (maCons (mC (.int 2)) (maCons (mC (.int 9973)) maNil)))) (mBin gMod (mCallP sem__law_at (lenIs 2 (maCons (mVar 0) (maCons (mC (.int 3)) maNil)))) (mC (.int 3)))))
 (mSeq (mSet 4 (mLst true maNil))
 (mSeq (mSet 5 (mLst true (maCons (mC (.int 0)) (maCons (mC (.int 0)) (maCons (mC (.int 0)) (maCons (mC (.int 0)) (maCons (mC (.int 0)) (maCons (mC (.int 0)) maNil))))))))
 (mSeq L1__law_rows
 (mRet (mVar 4)))))))))
def sem__law_rows : Sem1 := runB 1 15 b__law_rows
/-! ### order_key: 0=change -/
abbrev s_order_key : Stmt := topS 4
theorem sc_order_key : FnScope ["change"] ["change"] (defScope s_order_key) := ⟨rfl, rfl, rfl, by decide +kernel, rfl, by decide +kernel, by decide +kernel⟩
def b_order_key : MS :=
 (mRet (mTup (maCons (mUn gSum (mUn (gFld FT "heard") (mVar 0))) (maCons (mUn (gFld FT "author") (mVar 0)) (maCons (mUn (gFld FT "number") (mVar 0)) maNil)))))
def sem_order_key : Sem1 := runB 1 1 b_order_key
/-! ### in_order: 0=changes -/
abbrev s_in_order : Stmt := topS 5
theorem sc_in_order : FnScope ["changes"] ["changes"] (defScope s_in_order) := ⟨rfl, rfl, rfl, by decide +kernel, rfl, by decide +kernel, by decide +kernel⟩
def b_in_order : MS :=
 (mRet (mUn (gSortK true sem_order_key) (mVar 0)))
def sem_in_order : Sem1 := runB 1 1 b_in_order
/-! ### in_past: 0=name 1=change 2=author 3=number -/
abbrev s_in_past : Stmt := topS 3
theorem sc_in_past : FnScope ["name", "change", "author", "number"] ["name", "change"] (defScope s_in_past) := ⟨rfl, rfl, rfl, by decide +kernel, rfl, by decide +kernel, by decide +kernel⟩
def b_in_past : MS :=
 (mSeq (mAsg (mgTup 2 (mgCons (mgName 2) (mgCons (mgName 3) mgNil))) (mVar 0))
 (mRet (mAndV (mChain gLe gLt (mC (.int 0)) (mVar 2) (mUn gLen (mUn (gFld FT "heard") (mVar 1)))) (mChain gLe gLe (mC (.int 1)) (mVar 3) (mBin gGet (mUn (gFld FT "heard") (mVar 1)) (mVar 2))))))
def sem_in_past : Sem1 := runB 2 4 b_in_past
/-! ### _law_is_past: 0=name 1=row -/
abbrev s__law_is_past : Stmt := topS 17
theorem sc__law_is_past : FnScope ["name", "row"] ["name", "row"] (defScope s__law_is_past) := ⟨rfl, rfl, rfl, by decide +kernel, rfl, by decide +kernel, by decide +kernel⟩
def b__law_is_past : MS :=
 (mRet (mAndV (mBin gLe (mC (.int 0)) (mBin gGet (mVar 0) (mC (.int 0)))) (mAndV (mBin gLt (mBin gGet (mVar 0) (mC (.int 0))) (mUn gLen (mBin gGet (mVar 1) (mC (.int 2))))) (mAndV (mBin gLe (mC (.int 1)) (mBin gGet (mVar 0) (mC (.int 1)))) (mBin (gOrdO .LtE) (mBin gGet (mVar 0) (mC (.int 1))) (mBin gGet (mBin gGet (mVar 1) (mC (.int 2))) (mBin gGet (mVar 0) (mC (.int 0)))))))))
def sem__law_is_past : Sem1 := runB 2 2 b__law_is_past
/-! ### _law_asks_past: 0=draws 1=rows 2=changes 3=k 4=author 5=number 6=actual -/
abbrev s__law_asks_past : Stmt := topS 18
theorem sc__law_asks_past : FnScope ["draws", "rows", "changes", "k", "author", "number", "actual"] ["draws", "rows", "changes"] (defScope s__law_asks_past) := ⟨rfl, rfl, rfl, by decide +kernel, rfl, by decide +kernel, by decide +kernel⟩
def B1__law_asks_past : MS :=
 (mSeq (mSet 5 (mBin (gAdd false) (mC (.int 1)) (mBin gMod (mCallP sem__law_at (lenIs 2 (maCons (mVar 0) (maCons (mBin (gAdd false) (mBin (gAdd false) (mC (.int 700)) (mBin gMul (mC (.int 10)) (mVar 3))) (mVar 4)) maNil)))) (mBin gGet (mLst false (maCons (mC (.int 4)) (maCons (mC (.int 3)) (maCons (mC (.int 9973)) maNil)))) (mBin gMod (mCallP sem__law_at (lenIs 2 (maCons (mVar 0) (maCons (mC (.int 4)) maNil)))) (mC (.int 3)))))))
 (mSeq (mIf (mAndT (mTB (mBin gLe (mC (.int 0)) (mVar 4))) (mAndT (mTB (mBin gLt (mVar 4) (mUn gLen (mBin gGet (mBin gGet (mVar 1) (mVar 3)) (mC (.int 2)))))) (mTB (mBin (gEq false) (mBin gMod (mCallP sem__law_at (lenIs 2 (maCons (mVar 0) (maCons (mBin (gAdd false) (mC (.int 5)) (mVar 3)) maNil)))) (mC (.int 2))) (mC (.int 0)))))) (mSet 5 (mBin gMax2 (mC (.int 1)) (mBin (gAdd false) (mBin gGet (mBin gGet (mBin gGet (mVar 1) (mVar 3)) (mC (.int 2))) (mVar 4)) (mBin gMod (mCallP sem__law_at (lenIs 2 (maCons (mVar 0) (maCons (mBin (gAdd false) (mBin (gAdd false) (mC (.int 6)) (mVar 3)) (mVar 4)) maNil)))) (mC (.int 2)))))) mNx)
 (mSeq (mIf (mTB (mBin (gEq false) (mBin gMod (mCallP sem__law_at (lenIs 2 (maCons (mVar 0) (maCons (mBin (gAdd false) (mBin (gAdd false) (mC (.int 17)) (mVar 3)) (mVar 4)) maNil)))) (mC (.int 4))) (mC (.int 3)))) (mSet 5 (mBin gSub (mBin gMod (mCallP sem__law_at (lenIs 2 (maCons (mVar 0) (maCons (mBin (gAdd false) (mC (.int 9)) (mVar 3)) maNil)))) (mC (.int 3))) (mC (.int 1)))) mNx)
 (mSeq (mSet 6 (mCallP sem_in_past (lenIs 2 (maCons (mTup (maCons (mVar 4) (maCons (mVar 5) maNil))) (maCons (mBin gGet (mVar 2) (mVar 3)) maNil)))))
 (mIf (mOrT (mNotT (mTru (mUn (gIsi "bool") (mVar 6)))) (mTB (mBin (gEq true) (mVar 6) (mCallP sem__law_is_past (lenIs 2 (maCons (mTup (maCons (mVar 4) (maCons (mVar 5) maNil))) (maCons (mBin gGet (mVar 1) (mVar 3)) maNil))))))) (mRet (mC (.bl false))) mNx)))))
def L1__law_asks_past : MS :=
 (mFor (mRange2 (mUn gNeg (mC (.int 9))) (mC (.int 12))) (mgName 4) B1__law_asks_past)
def B2__law_asks_past : MS :=
 L1__law_asks_past
def L2__law_asks_past : MS :=
 (mFor (mRange1 (mUn gLen (mVar 1))) (mgName 3) B2__law_asks_past)
def b__law_asks_past : MS :=
 (mSeq L2__law_asks_past
 (mRet (mC (.bl true))))
def sem__law_asks_past : Sem1 := runB 3 7 b__law_asks_past
/-! ### _law_part_lists: 0=parts 1=lists 2=part -/
abbrev s__law_part_lists : Stmt := topS 13
theorem sc__law_part_lists : FnScope ["parts", "lists", "part"] ["parts"] (defScope s__law_part_lists) := ⟨rfl, rfl, rfl, by decide +kernel, rfl, by decide +kernel, by decide +kernel⟩
def B1__law_part_lists : MS :=
 (mIf (mTB (mBin (gIs false) (mVar 2) (mC .non))) (mDrop (mM1 tokL gApp (mVar 1) (mC .non))) (mDrop (mM1 tokL gApp (mVar 1) (mUn (gLstOf true) (mVar 2)))))
def L1__law_part_lists : MS :=
 (mFor (mItems (mVar 0)) (mgName 2) B1__law_part_lists)
def b__law_part_lists : MS :=
 (mSeq (mSet 1 (mLst true maNil))
 (mSeq L1__law_part_lists
 (mRet (mVar 1))))
def sem__law_part_lists : Sem1 := runB 1 3 b__law_part_lists
/-! ### _as_tuple: 0=part -/
abbrev s__as_tuple : Stmt := topS 1
theorem sc__as_tuple : FnScope ["part"] ["part"] (defScope s__as_tuple) := ⟨rfl, rfl, rfl, by decide +kernel, rfl, by decide +kernel, by decide +kernel⟩
def b__as_tuple : MS :=
 (mSeq (mIf (mTB (mBin (gIs false) (mVar 0) (mC .non))) (mRet (mC .non)) mNx)
 (mRet (mUn gTupOf (mVar 0))))
def sem__as_tuple : Sem1 := runB 1 1 b__as_tuple
/-! ### Change.__init__: 0=self 1=author 2=number 3=heard 4=capability 5=publics 6=parts 7=part -/
abbrev s_Change____init__ : Stmt := inClass (topS 2) 0
theorem sc_Change____init__ : FnScope ["self", "author", "number", "heard", "capability", "publics", "parts", "part"] ["self", "author", "number", "heard", "capability", "publics", "parts"] (defScope s_Change____init__) := ⟨rfl, rfl, rfl, by decide +kernel, rfl, by decide +kernel, by decide +kernel⟩
def E1_Change____init__ : E Tq.A :=
 (mCall sem__as_tuple (lenIs 1 (maCons (mVar 7) maNil)))
def C1_Change____init__ : E Tq.A :=
 (mLC false (mItems (mVar 6)) (mgName 7) mYes E1_Change____init__ [7])
def b_Change____init__ : MS :=
 (mSeq (mSetF FT "author" (mVar 0) (mVar 1))
 (mSeq (mSetF FT "number" (mVar 0) (mVar 2))
 (mSeq (mSetF FT "heard" (mVar 0) (mUn gTupOf (mVar 3)))
 (mSeq (mSetF FT "capability" (mVar 0) (mVar 4))
 (mSeq (mSetF FT "publics" (mVar 0) (mUn gTupOf (mVar 5)))
 (mSetF FT "parts" (mVar 0) (mUn gTupOf C1_Change____init__)))))))
def sem_Change____init__ : Sem1 := runB 7 8 b_Change____init__
/-! ### _law_change: 0=row 1=as_lists 2=heard 3=publics 4=parts 5=change 6=given 7=part -/
abbrev s__law_change : Stmt := topS 14
theorem sc__law_change : FnScope ["row", "as_lists", "heard", "publics", "parts", "change", "given", "part"] ["row", "as_lists"] (defScope s__law_change) := ⟨rfl, rfl, rfl, by decide +kernel, rfl, by decide +kernel, by decide +kernel⟩
def E1__law_change : E Tq.A :=
 (mVar 7)
def T1__law_change : E Bool :=
 (mTB (mBin (gIs true) (mVar 7) (mC .non)))
def C1__law_change : E Tq.A :=
 (mLC true (mItems (mVar 4)) (mgName 7) T1__law_change E1__law_change [7])
def B1__law_change : MS :=
 (mDrop (mM1 tokL gApp (mVar 6) (mC (.int 7))))
def L1__law_change : MS :=
 (mFor (mItems (mBin (gAdd true) (mLst true (maCons (mVar 2) (maCons (mVar 3) maNil))) C1__law_change)) (mgName 6) B1__law_change)
def b__law_change : MS :=
 (mSeq (mIf (mNotT (mTru (mVar 1))) (mRet (mMakeP "Change" 7 sem_Change____init__ (maCons (mBin gGet (mVar 0) (mC (.int 0))) (maCons (mBin gGet (mVar 0) (mC (.int 1))) (maCons (mUn gTupOf (mBin gGet (mVar 0) (mC (.int 2)))) (maCons (mBin gGet (mVar 0) (mC (.int 3))) (maCons (mUn gTupOf (mBin gGet (mVar 0) (mC (.int 4)))) (maCons (mUn gTupOf (mBin gGet (mVar 0) (mC (.int 5)))) maNil)))))))) mNx)
 (mSeq (mSet 2 (mUn (gLstOf true) (mBin gGet (mVar 0) (mC (.int 2)))))
 (mSeq (mSet 3 (mUn (gLstOf true) (mBin gGet (mVar 0) (mC (.int 4)))))
 (mSeq (mSet 4 (mCall sem__law_part_lists (lenIs 1 (maCons (mBin gGet (mVar 0) (mC (.int 5))) maNil))))
 (mSeq (mSet 5 (mMake "Change" 7 sem_Change____init__ (maCons (mBin gGet (mVar 0) (mC (.int 0))) (maCons (mBin gGet (mVar 0) (mC (.int 1))) (maCons (mVar 2) (maCons (mBin gGet (mVar 0) (mC (.int 3))) (maCons (mVar 3) (maCons (mVar 4) maNil))))))))
 (mSeq L1__law_change
 (mSeq (mDrop (mM1 tokL gApp (mVar 4) (mC .non)))
 (mSeq (mFz 5)
 (mRet (mVar 5))))))))))
def sem__law_change : Sem1 := runB 2 8 b__law_change
/-! ### Change.name: 0=self -/
abbrev s_Change__name : Stmt := inClass (topS 2) 1
theorem sc_Change__name : FnScope ["self"] ["self"] (defScope s_Change__name) := ⟨rfl, rfl, rfl, by decide +kernel, rfl, by decide +kernel, by decide +kernel⟩
def b_Change__name : MS :=
 (mRet (mTup (maCons (mUn (gFld FT "author") (mVar 0)) (maCons (mUn (gFld FT "number") (mVar 0)) maNil))))
def sem_Change__name : Sem1 := runB 1 1 b_Change__name
/-! ### Change.with_parts: 0=self 1=parts -/
abbrev s_Change__with_parts : Stmt := inClass (topS 2) 3
theorem sc_Change__with_parts : FnScope ["self", "parts"] ["self", "parts"] (defScope s_Change__with_parts) := ⟨rfl, rfl, rfl, by decide +kernel, rfl, by decide +kernel, by decide +kernel⟩
def b_Change__with_parts : MS :=
 (mRet (mMakeP "Change" 7 sem_Change____init__ (maCons (mUn (gFld FT "author") (mVar 0)) (maCons (mUn (gFld FT "number") (mVar 0)) (maCons (mUn (gFld FT "heard") (mVar 0)) (maCons (mUn (gFld FT "capability") (mVar 0)) (maCons (mUn (gFld FT "publics") (mVar 0)) (maCons (mVar 1) maNil))))))))
def sem_Change__with_parts : Sem1 := runB 2 2 b_Change__with_parts
/-! ### _law_is_integer: 0=actual -/
abbrev s__law_is_integer : Stmt := topS 10
theorem sc__law_is_integer : FnScope ["actual"] ["actual"] (defScope s__law_is_integer) := ⟨rfl, rfl, rfl, by decide +kernel, rfl, by decide +kernel, by decide +kernel⟩
def b__law_is_integer : MS :=
 (mRet (mAndV (mUn (gIsi "int") (mVar 0)) (mNotV (mUn (gIsi "bool") (mVar 0)))))
def sem__law_is_integer : Sem1 := runB 1 1 b__law_is_integer
/-! ### _law_same: 0=actual 1=expected 2=k -/
abbrev s__law_same : Stmt := topS 11
theorem sc__law_same : FnScope ["actual", "expected", "k"] ["actual", "expected"] (defScope s__law_same) := ⟨rfl, rfl, rfl, by decide +kernel, rfl, by decide +kernel, by decide +kernel⟩
def B1__law_same (sem : Sem1) : MS :=
 (mIf (mNotT (mTru (mCallP (sem) (lenIs 2 (maCons (mBin gGet (mVar 0) (mVar 2)) (maCons (mBin gGet (mVar 1) (mVar 2)) maNil)))))) (mRet (mC (.bl false))) mNx)
def L1__law_same (sem : Sem1) : MS :=
 (mFor (mRange1 (mUn gLen (mVar 1))) (mgName 2) (B1__law_same sem))
def b__law_same (sem : Sem1) : MS :=
 (mSeq (mIf (mTru (mUn (gIsi2 "list" "tuple") (mVar 1))) (mSeq (mIf (mOrT (mTB (mBin (gEq true) (mUn (gIsi "list") (mVar 1)) (mUn (gIsi "list") (mVar 0)))) (mTB (mBin (gEq true) (mUn (gIsi "tuple") (mVar 1)) (mUn (gIsi "tuple") (mVar 0))))) (mRet (mC (.bl false))) mNx)
 (mSeq (mIf (mTB (mBin (gEq true) (mUn gLen (mVar 0)) (mUn gLen (mVar 1)))) (mRet (mC (.bl false))) mNx)
 (mSeq (L1__law_same sem)
 (mRet (mC (.bl true)))))) mNx)
 (mSeq (mIf (mTB (mBin (gIs false) (mVar 1) (mC .non))) (mRet (mBin (gIs false) (mVar 0) (mC .non))) mNx)
 (mSeq (mIf (mTru (mUn (gIsi "bool") (mVar 1))) (mRet (mAndV (mUn (gIsi "bool") (mVar 0)) (mBin (gEq false) (mVar 0) (mVar 1)))) mNx)
 (mSeq (mIf (mTru (mUn (gIsi "int") (mVar 1))) (mRet (mAndV (mCallP sem__law_is_integer (lenIs 1 (maCons (mVar 0) maNil))) (mBin (gEq false) (mVar 0) (mVar 1)))) mNx)
 (mRet (mAndV (mUn (gIsi "str") (mVar 0)) (mBin (gEq false) (mVar 0) (mVar 1))))))))
def sem__law_same : Nat → Sem1
  | 0 => fun _ _ => none
  | n + 1 => runB 2 3 (b__law_same (sem__law_same n))
/-! ### Change.header: 0=self -/
abbrev s_Change__header : Stmt := inClass (topS 2) 2
theorem sc_Change__header : FnScope ["self"] ["self"] (defScope s_Change__header) := ⟨rfl, rfl, rfl, by decide +kernel, rfl, by decide +kernel, by decide +kernel⟩
def b_Change__header : MS :=
 (mRet (mTup (maCons (mUn (gFld FT "author") (mVar 0)) (maCons (mUn (gFld FT "number") (mVar 0)) (maCons (mUn (gFld FT "heard") (mVar 0)) (maCons (mUn (gFld FT "capability") (mVar 0)) (maCons (mUn (gFld FT "publics") (mVar 0)) maNil)))))))
def sem_Change__header : Sem1 := runB 1 1 b_Change__header
/-! ### _law_is_kept: 0=change 1=row 2=header 3=other -/
abbrev s__law_is_kept : Stmt := topS 15
theorem sc__law_is_kept : FnScope ["change", "row", "header", "other"] ["change", "row"] (defScope s__law_is_kept) := ⟨rfl, rfl, rfl, by decide +kernel, rfl, by decide +kernel, by decide +kernel⟩
def b__law_is_kept : MS :=
 (mSeq (mSet 2 (mTup (maCons (mBin gGet (mVar 1) (mC (.int 0))) (maCons (mBin gGet (mVar 1) (mC (.int 1))) (maCons (mUn gTupOf (mBin gGet (mVar 1) (mC (.int 2)))) (maCons (mBin gGet (mVar 1) (mC (.int 3))) (maCons (mUn gTupOf (mBin gGet (mVar 1) (mC (.int 4)))) maNil)))))))
 (mSeq (mIf (mOrT (mNotT (mTru (mCallP (sem__law_same 8) (lenIs 2 (maCons (mMethP "Change" "header" 1 sem_Change__header (mVar 0) maNil) (maCons (mVar 2) maNil)))))) (mNotT (mTru (mCallP (sem__law_same 8) (lenIs 2 (maCons (mMethP "Change" "name" 1 sem_Change__name (mVar 0) maNil) (maCons (mTup (maCons (mBin gGet (mVar 1) (mC (.int 0))) (maCons (mBin gGet (mVar 1) (mC (.int 1))) maNil))) maNil))))))) (mRet (mC (.bl false))) mNx)
 (mSeq (mIf (mOrT (mNotT (mTru (mCallP (sem__law_same 8) (lenIs 2 (maCons (mUn (gFld FT "heard") (mVar 0)) (maCons (mBin gGet (mVar 2) (mC (.int 2))) maNil)))))) (mNotT (mTru (mCallP (sem__law_same 8) (lenIs 2 (maCons (mUn (gFld FT "publics") (mVar 0)) (maCons (mBin gGet (mVar 2) (mC (.int 4))) maNil))))))) (mRet (mC (.bl false))) mNx)
 (mSeq (mIf (mOrT (mNotT (mTru (mCallP (sem__law_same 8) (lenIs 2 (maCons (mUn (gFld FT "parts") (mVar 0)) (maCons (mUn gTupOf (mBin gGet (mVar 1) (mC (.int 5)))) maNil)))))) (mNotT (mTru (mCallP (sem__law_same 8) (lenIs 2 (maCons (mUn (gFld FT "capability") (mVar 0)) (maCons (mBin gGet (mVar 1) (mC (.int 3))) maNil))))))) (mRet (mC (.bl false))) mNx)
 (mSeq (mSet 3 (mMethP "Change" "with_parts" 2 sem_Change__with_parts (mVar 0) (maCons (mLst false (maCons (mTup maNil) (maCons (mC .non) (maCons (mC .non) (maCons (mLst false (maCons (mTup (maCons (mC (.str "table")) (maCons (mC (.str "u")) maNil))) maNil)) maNil))))) maNil)))
 (mSeq (mIf (mOrT (mNotT (mTru (mCallP (sem__law_same 8) (lenIs 2 (maCons (mMethP "Change" "header" 1 sem_Change__header (mVar 3) maNil) (maCons (mVar 2) maNil)))))) (mNotT (mTru (mCallP (sem__law_same 8) (lenIs 2 (maCons (mUn (gFld FT "parts") (mVar 3)) (maCons (mTup (maCons (mTup maNil) (maCons (mC .non) (maCons (mC .non) (maCons (mTup (maCons (mTup (maCons (mC (.str "table")) (maCons (mC (.str "u")) maNil))) maNil)) maNil))))) maNil))))))) (mRet (mC (.bl false))) mNx)
 (mSeq (mIf (mOrT (mNotT (mTru (mCallP (sem__law_same 8) (lenIs 2 (maCons (mUn (gFld FT "parts") (mVar 0)) (maCons (mUn gTupOf (mBin gGet (mVar 1) (mC (.int 5)))) maNil)))))) (mNotT (mTru (mCallP (sem__law_same 8) (lenIs 2 (maCons (mUn (gFld FT "author") (mVar 0)) (maCons (mBin gGet (mVar 1) (mC (.int 0))) maNil))))))) (mRet (mC (.bl false))) mNx)
 (mRet (mAndV (mCallP (sem__law_same 8) (lenIs 2 (maCons (mUn (gFld FT "number") (mVar 0)) (maCons (mBin gGet (mVar 1) (mC (.int 1))) maNil)))) (mCallP (sem__law_same 8) (lenIs 2 (maCons (mCallP sem_order_key (lenIs 1 (maCons (mVar 0) maNil))) (maCons (mTup (maCons (mUn gSum (mBin gGet (mVar 1) (mC (.int 2)))) (maCons (mBin gGet (mVar 1) (mC (.int 0))) (maCons (mBin gGet (mVar 1) (mC (.int 1))) maNil)))) maNil)))))))))))))
def sem__law_is_kept : Sem1 := runB 2 4 b__law_is_kept
/-! ### _law_comes_first: 0=row 1=other -/
abbrev s__law_comes_first : Stmt := topS 16
theorem sc__law_comes_first : FnScope ["row", "other"] ["row", "other"] (defScope s__law_comes_first) := ⟨rfl, rfl, rfl, by decide +kernel, rfl, by decide +kernel, by decide +kernel⟩
def b__law_comes_first : MS :=
 (mSeq (mIf (mTB (mBin (gEq true) (mUn gSum (mBin gGet (mVar 0) (mC (.int 2)))) (mUn gSum (mBin gGet (mVar 1) (mC (.int 2)))))) (mRet (mBin gLt (mUn gSum (mBin gGet (mVar 0) (mC (.int 2)))) (mUn gSum (mBin gGet (mVar 1) (mC (.int 2)))))) mNx)
 (mSeq (mIf (mTB (mBin (gEq true) (mBin gGet (mVar 0) (mC (.int 0))) (mBin gGet (mVar 1) (mC (.int 0))))) (mRet (mBin (gOrdO .Lt) (mBin gGet (mVar 0) (mC (.int 0))) (mBin gGet (mVar 1) (mC (.int 0))))) mNx)
 (mRet (mBin (gOrdO .Lt) (mBin gGet (mVar 0) (mC (.int 1))) (mBin gGet (mVar 1) (mC (.int 1)))))))
def sem__law_comes_first : Sem1 := runB 2 2 b__law_comes_first
/-! ### law: 0=script 1=draws 2=rows 3=changes 4=k 5=passed 6=actual 7=names 8=change 9=places 10=name 11=found 12=row -/
abbrev s_law : Stmt := topS 19
theorem sc_law : FnScope ["script", "draws", "rows", "changes", "k", "passed", "actual", "names", "change", "places", "name", "found", "row"] ["script"] (defScope s_law) := ⟨rfl, rfl, rfl, by decide +kernel, rfl, by decide +kernel, by decide +kernel⟩
def E1_law : E Tq.A :=
 (mCallP sem__law_change (lenIs 2 (maCons (mBin gGet (mVar 2) (mVar 4)) (maCons (mBin (gEq false) (mBin gMod (mCallP sem__law_at (lenIs 2 (maCons (mVar 1) (maCons (mBin (gAdd false) (mC (.int 40)) (mVar 4)) maNil)))) (mC (.int 2))) (mC (.int 1))) maNil))))
def C1_law : E Tq.A :=
 (mLC false (mRange1 (mUn gLen (mVar 2))) (mgName 4) mYes E1_law [4])
def B1_law : MS :=
 (mIf (mNotT (mTru (mCallP sem__law_is_kept (lenIs 2 (maCons (mBin gGet (mVar 3) (mVar 4)) (maCons (mBin gGet (mVar 2) (mVar 4)) maNil)))))) (mRet (mC (.bl false))) mNx)
def L1_law : MS :=
 (mFor (mRange1 (mUn gLen (mVar 2))) (mgName 4) B1_law)
def E2_law : E Tq.A :=
 (mMethP "Change" "name" 1 sem_Change__name (mVar 8) maNil)
def C2_law : E Tq.A :=
 (mLC false (mItems (mVar 6)) (mgName 8) mYes E2_law [8])
def E3_law : E Tq.A :=
 (mVar 4)
def T1_law : E Bool :=
 (mTB (mBin (gEq false) (mTup (maCons (mBin gGet (mBin gGet (mVar 2) (mVar 4)) (mC (.int 0))) (maCons (mBin gGet (mBin gGet (mVar 2) (mVar 4)) (mC (.int 1))) maNil))) (mVar 10)))
def C3_law : E Tq.A :=
 (mLC false (mRange1 (mUn gLen (mVar 2))) (mgName 4) T1_law E3_law [4])
def B2_law : MS :=
 (mSeq (mSet 11 C3_law)
 (mSeq (mIf (mOrT (mTB (mBin (gEq true) (mUn gLen (mVar 11)) (mC (.int 1)))) (mTB (mBin (g2V (inD false)) (mBin gGet (mVar 11) (mC (.int 0))) (mVar 9)))) (mRet (mC (.bl false))) mNx)
 (mDrop (mM1 tokL gApp (mVar 9) (mBin gGet (mVar 11) (mC (.int 0)))))))
def L2_law : MS :=
 (mFor (mItems (mVar 7)) (mgName 10) B2_law)
def B3_law : MS :=
 (mSeq (mIf (mNotT (mTru (mCallP sem__law_is_kept (lenIs 2 (maCons (mBin gGet (mVar 6) (mVar 4)) (maCons (mBin gGet (mVar 2) (mBin gGet (mVar 9) (mVar 4))) maNil)))))) (mRet (mC (.bl false))) mNx)
 (mIf (mAndT (mTB (mBin gGt (mVar 4) (mC (.int 0)))) (mNotT (mTru (mCallP sem__law_comes_first (lenIs 2 (maCons (mBin gGet (mVar 2) (mBin gGet (mVar 9) (mBin gSub (mVar 4) (mC (.int 1))))) (maCons (mBin gGet (mVar 2) (mBin gGet (mVar 9) (mVar 4))) maNil))))))) (mRet (mC (.bl false))) mNx))
def L3_law : MS :=
 (mFor (mRange1 (mUn gLen (mVar 9))) (mgName 4) B3_law)
def E4_law : E Tq.A :=
 (mMethP "Change" "name" 1 sem_Change__name (mVar 8) maNil)
def C4_law : E Tq.A :=
 (mLC false (mItems (mVar 5)) (mgName 8) mYes E4_law [8])
def E5_law : E Tq.A :=
 (mTup (maCons (mBin gGet (mVar 12) (mC (.int 0))) (maCons (mBin gGet (mVar 12) (mC (.int 1))) maNil)))
def C5_law : E Tq.A :=
 (mLC false (mItems (mVar 2)) (mgName 12) mYes E5_law [12])
def E6_law : E Tq.A :=
 (mMethP "Change" "name" 1 sem_Change__name (mVar 8) maNil)
def C6_law : E Tq.A :=
 (mLC false (mItems (mCallP sem_in_order (lenIs 1 (maCons (mVar 5) maNil)))) (mgName 8) mYes E6_law [8])
def b_law : MS :=
 (mSeq (mSet 1 (mCallP sem__law_draws (lenIs 1 (maCons (mVar 0) maNil))))
 (mSeq (mSet 2 (mCallP sem__law_rows (lenIs 1 (maCons (mVar 1) maNil))))
 (mSeq (mSet 3 C1_law)
 (mSeq L1_law
 (mSeq (mSet 5 (mUn (gLstOf false) (mVar 3)))
 (mSeq (mSet 6 (mCallO sem_in_order (lenIs 1 (maCons (mVar 5) maNil))))
 (mSeq (mIf (mOrT (mNotT (mTru (mUn (gIsi "list") (mVar 6)))) (mTB (mBin (gEq true) (mUn gLen (mVar 6)) (mUn gLen (mVar 2))))) (mRet (mC (.bl false))) mNx)
 (mSeq (mSet 7 C2_law)
 (mSeq (mSet 9 (mLst true maNil))
 (mSeq L2_law
 (mSeq L3_law
 (mSeq (mDrop (mM1 tokL gApp (mVar 6) (mC .non)))
 (mSeq (mIf (mTB (mBin (gEq true) C4_law C5_law)) (mRet (mC (.bl false))) mNx)
 (mSeq (mIf (mTB (mBin (gEq true) C6_law (mVar 7))) (mRet (mC (.bl false))) mNx)
 (mRet (mCallP sem__law_asks_past (lenIs 3 (maCons (mVar 1) (maCons (mVar 2) (maCons (mVar 3) maNil))))))))))))))))))))
def sem_law : Sem1 := runB 1 13 b_law
section
variable {Pr : Program} {w : World} {K : PySem.W.Frag} {mg : Str → Option Value} {base : Heap}
theorem ok__law_mix (hT : ClsT K FT) (S : Src K mg "_law_mix" s__law_mix ["cell", "k"]) (z_int : mg "int" = none) : Def Pr w K mg base 1 "_law_mix" ["cell", "k"] sem__law_mix :=
  def_tr S sc__law_mix b__law_mix (fun fa cdv A outer s H Ex hr tk hp => by
      have nd := sc__law_mix.nd
      exact (rss_cons (rs_set (i := 2) nd (rx_bin op_mod og_mod (rx_t1 call_int1 og_int (rx_bin op_addA og_add (rx_bin op_addA og_add (rx_bin op_mulB og_mul (rx_t1 call_int1 og_int (rx_var 0) z_int) rx_int) (rx_bin op_mulB og_mul (rx_var 1) rx_int)) rx_int) z_int) rx_int))
 (rss_cons (rs_set (i := 2) nd (rx_bin op_mod og_mod (rx_t1 call_int1 og_int (rx_bin op_addA og_add (rx_bin op_addA og_add (rx_bin op_mulB og_mul (rx_var 2) (rx_var 2)) (rx_bin op_mulB og_mul (rx_var 1) rx_int)) rx_int) z_int) rx_int))
 (rss_one (rs_ret (rx_bin op_mod og_mod (rx_bin op_fdivW og_div (rx_var 2) rx_int) rx_int))))))
theorem ok__law_draws (hT : ClsT K FT) (S : Src K mg "_law_draws" s__law_draws ["script"]) (d__law_mix : Def Pr w K mg base 1 "_law_mix" ["cell", "k"] sem__law_mix) (z_int : mg "int" = none) (z_len : mg "len" = none) (z_min : mg "min" = none) (z_range : mg "range" = none) : Def Pr w K mg base 2 "_law_draws" ["script"] sem__law_draws :=
  def_tr S sc__law_draws b__law_draws (fun fa cdv A outer s H Ex hr tk hp => by
      have nd := sc__law_draws.nd
      exact (rss_cons (rs_set (i := 1) nd (rx_lst true ra_nil))
 (rss_cons (rs_for (is := [2]) hp rfl (ri_range1 (rx_b2 (call_min2 rfl) og_min2 rx_int (rx_b1 call_len og_len (rx_var 0) z_len) z_min) z_range) (rg_name (i := 2) nd) (rss_cons (rs_set (i := 3) nd (rx_t1 call_int1 og_int (rx_sub (Room_u1 hr) (rx_var 0) (rx_var 2)) z_int))
 (rss_one (rs_if (rt_cmp op_lt og_lt (rx_var 3) (rx_bin op_pow og_pow rx_int rx_int) (nomark _)) (rss_one (rs_drop (rx_append (rx_var 1) (rx_callP tk d__law_mix hr (by decide) (ra_cons (rx_var 3) (ra_cons (rx_var 2) ra_nil)))))) (rss_one (rs_for (is := [4]) hp rfl (ri_range1 rx_int z_range) (rg_name (i := 4) nd) (rss_one (rs_if (rt_cmp op_gt og_gt (rx_var 3) rx_int (nomark _)) (rss_cons (rs_drop (rx_append (rx_var 1) (rx_bin op_mod og_mod (rx_t1 call_int1 og_int (rx_var 3) z_int) rx_int)))
 (rss_one (rs_set (i := 3) nd (rx_bin op_fdivW og_div (rx_var 3) rx_int)))) rss_nil))))))))
 (rss_one (rs_ret (rx_var 1))))))
theorem ok__law_at (hT : ClsT K FT) (S : Src K mg "_law_at" s__law_at ["draws", "index"]) (d__law_mix : Def Pr w K mg base 1 "_law_mix" ["cell", "k"] sem__law_mix) (z_int : mg "int" = none) (z_len : mg "len" = none) : Def Pr w K mg base 2 "_law_at" ["draws", "index"] sem__law_at :=
  def_tr S sc__law_at b__law_at (fun fa cdv A outer s H Ex hr tk hp => by
      have nd := sc__law_at.nd
      exact (rss_cons (rs_if (rt_cmp op_lt og_lt (rx_var 1) (rx_b1 call_len og_len (rx_var 0) z_len) (nomark _)) (rss_one (rs_ret (rx_sub (Room_u1 hr) (rx_var 0) (rx_var 1)))) rss_nil)
 (rss_cons (rs_if (rt_cmp (op_eqD (Room_u64 hr)) og_eq (rx_b1 call_len og_len (rx_var 0) z_len) rx_int (nomark _)) (rss_one (rs_ret (rx_callP tk d__law_mix hr (by decide) (ra_cons (rx_var 1) (ra_cons rx_int ra_nil))))) rss_nil)
 (rss_one (rs_ret (rx_callP tk d__law_mix hr (by decide) (ra_cons (rx_bin op_addA og_add (rx_sub (Room_u1 hr) (rx_var 0) (rx_bin op_mod og_mod (rx_t1 call_int1 og_int (rx_var 1) z_int) (rx_b1 call_len og_len (rx_var 0) z_len))) (rx_bin op_mulB og_mul (rx_var 1) rx_int)) (ra_cons (rx_var 1) ra_nil))))))))
theorem ok__law_rows (hT : ClsT K FT) (S : Src K mg "_law_rows" s__law_rows ["draws"]) (d__law_at : Def Pr w K mg base 2 "_law_at" ["draws", "index"] sem__law_at) (z_range : mg "range" = none) (z_tuple : mg "tuple" = none) : Def Pr w K mg base 3 "_law_rows" ["draws"] sem__law_rows :=
  def_tr S sc__law_rows b__law_rows (fun fa cdv A outer s H Ex hr tk hp => by
      have nd := sc__law_rows.nd
      exact (rss_cons (rs_set (i := 1) nd (rx_bin op_mod og_mod (rx_callP tk d__law_at hr (by decide) (ra_cons (rx_var 0) (ra_cons rx_int ra_nil))) rx_int))
 (rss_cons (rs_if (rt_cmp (op_eqD (Room_u64 hr)) og_eq (rx_bin op_mod og_mod (rx_callP tk d__law_at hr (by decide) (ra_cons (rx_var 0) (ra_cons rx_int ra_nil))) rx_int) rx_int (nomark _)) (rss_one (rs_set (i := 1) nd (rx_sub (Room_u1 hr) (rx_lst false (ra_cons rx_int (ra_cons rx_int ra_nil))) (rx_bin op_mod og_mod (rx_bin op_fdivW og_div (rx_callP tk d__law_at hr (by decide) (ra_cons (rx_var 0) (ra_cons rx_int ra_nil))) rx_int) rx_int)))) rss_nil)
 (rss_cons (rs_set (i := 2) nd (rx_bin op_addA og_add rx_int (rx_bin op_mod og_mod (rx_callP tk d__law_at hr (by decide) (ra_cons (rx_var 0) (ra_cons rx_int ra_nil))) rx_int)))
 (rss_cons (rs_set (i := 3) nd (rx_sub (Room_u1 hr) (rx_lst false (ra_cons rx_int (ra_cons rx_int (ra_cons rx_int ra_nil)))) (rx_bin op_mod og_mod (rx_callP tk d__law_at hr (by decide) (ra_cons (rx_var 0) (ra_cons rx_int ra_nil))) rx_int)))
 (rss_cons (rs_set (i := 4) nd (rx_lst true ra_nil))
 (rss_cons (rs_set (i := 5) nd (rx_lst true (ra_cons rx_int (ra_cons rx_int (ra_cons rx_int (ra_cons rx_int (ra_cons rx_int (ra_cons rx_int ra_nil))))))))
 (rss_cons (rs_for (is := [6]) hp rfl (ri_range1 (rx_var 1) z_range) (rg_name (i := 6) nd) (rss_cons (rs_set (i := 7) nd (rx_bin op_mod og_mod (rx_callP tk d__law_at hr (by decide) (ra_cons (rx_var 0) (ra_cons (rx_bin op_addA og_add rx_int (rx_bin op_mulB og_mul rx_int (rx_var 6))) ra_nil))) (rx_var 2)))
 (rss_cons (rs_setL (rx_var 5) (rx_var 7) (rx_bin op_addA og_add (rx_bin op_addA og_add (rx_sub (Room_u1 hr) (rx_var 5) (rx_var 7)) rx_int) (rx_bin op_fdivW og_div (rx_callP tk d__law_at hr (by decide) (ra_cons (rx_var 0) (ra_cons (rx_bin op_addA og_add rx_int (rx_bin op_mulB og_mul rx_int (rx_var 6))) ra_nil))) rx_int)))
 (rss_cons (rs_setLc false (i := 8) rfl nd [("j", 9)] (ri_range1 (rx_var 2) z_range) (fun _ _ _ _ _ => (rg_name (i := 9) nd)) (fun _ _ _ _ _ => rts_nil) (fun _ _ _ _ _ => (rx_bin op_mod og_mod (rx_callP (ps := ["draws", "index"]) takes0 d__law_at hr (by decide) (ra_cons (rx_var 0) (ra_cons (rx_bin op_addA og_add (rx_bin op_addA og_add rx_int (rx_bin op_mulB og_mul rx_int (rx_var 6))) (rx_var 9)) ra_nil))) (rx_var 3))) (blkOk_by (N := ["draws", "count", "size", "limit", "rows", "numbers", "k", "author", "heard", "j", "capability", "pick", "grant", "publics", "parts"]) (sc := defScope s__law_rows) (by decide +kernel)) (sw_true rfl rfl rfl (by decide +kernel)))
 (rss_cons (rs_set (i := 10) nd (rx_sub (Room_u1 hr) (rx_lst false (ra_cons rx_non (ra_cons (rx_tup (ra_cons rx_int (ra_cons (rx_bin op_addA og_add rx_int (rx_bin op_mod og_mod (rx_callP tk d__law_at hr (by decide) (ra_cons (rx_var 0) (ra_cons (rx_bin op_addA og_add rx_int (rx_bin op_mulB og_mul rx_int (rx_var 6))) ra_nil))) rx_int)) (ra_cons rx_int ra_nil)))) ra_nil))) (rx_bin op_mod og_mod (rx_bin op_fdivW og_div (rx_callP tk d__law_at hr (by decide) (ra_cons (rx_var 0) (ra_cons (rx_bin op_addA og_add rx_int (rx_bin op_mulB og_mul rx_int (rx_var 6))) ra_nil))) rx_int) rx_int)))
 (rss_cons (rs_set (i := 11) nd (rx_callP tk d__law_at hr (by decide) (ra_cons (rx_var 0) (ra_cons (rx_bin op_addA og_add rx_int (rx_bin op_mulB og_mul rx_int (rx_var 6))) ra_nil))))
 (rss_cons (rs_set (i := 12) nd (rx_tup (ra_cons rx_str (ra_cons (rx_bin op_mod og_mod (rx_var 11) rx_int) (ra_cons (rx_t1 call_tuple_of og_tupOf (rx_lc false rfl nd [("j", 9)] (ri_range1 rx_int z_range) (fun _ _ _ _ _ => (rg_name (i := 9) nd)) (fun _ _ _ _ _ => rts_nil) (fun _ _ _ _ _ => (rx_tup (ra_cons rx_bl (ra_cons (rx_cmp (op_eqD (Room_u64 hr)) og_eq (rx_bin op_mod og_mod (rx_var 11) rx_int) rx_int (nomark _)) (ra_cons rx_bl ra_nil))))) (blkOk_by (N := ["draws", "count", "size", "limit", "rows", "numbers", "k", "author", "heard", "j", "capability", "pick", "grant", "publics", "parts"]) (sc := defScope s__law_rows) (by decide +kernel))) z_tuple) ra_nil)))))
 (rss_cons (rs_set (i := 13) nd (rx_slice false (rx_slice false (rx_lst false (ra_cons (rx_tup (ra_cons rx_str ra_nil)) (ra_cons (rx_tup (ra_cons rx_str (ra_cons (rx_tup (ra_cons rx_int (ra_cons rx_int (ra_cons (rx_var 6) ra_nil)))) ra_nil))) (ra_cons (rx_tup (ra_cons rx_str (ra_cons rx_non ra_nil))) (ra_cons (rx_var 12) ra_nil))))) (ro_some (rx_bin op_mod og_mod (rx_bin op_fdivW og_div (rx_var 11) rx_int) rx_int)) ro_none) ro_none (ro_some (rx_bin op_mod og_mod (rx_bin op_fdivW og_div (rx_var 11) rx_int) rx_int))))
 (rss_cons (rs_set (i := 14) nd (rx_lst false (ra_cons rx_non (ra_cons (rx_tup ra_nil) (ra_cons (rx_tup (ra_cons (rx_tup (ra_cons rx_str (ra_cons rx_str ra_nil))) ra_nil)) (ra_cons (rx_tup (ra_cons (rx_tup (ra_cons rx_str (ra_cons (rx_tup (ra_cons rx_int (ra_cons rx_int ra_nil))) ra_nil))) (ra_cons (rx_tup (ra_cons rx_str (ra_cons (rx_tup (ra_cons rx_int (ra_cons rx_int (ra_cons rx_int ra_nil)))) ra_nil))) ra_nil))) ra_nil))))))
 (rss_one (rs_drop (rx_append (rx_var 4) (rx_lst false (ra_cons (rx_var 7) (ra_cons (rx_sub (Room_u1 hr) (rx_var 5) (rx_var 7)) (ra_cons (rx_var 8) (ra_cons (rx_var 10) (ra_cons (rx_var 13) (ra_cons (rx_bin op_addA og_add (rx_slice false (rx_var 14) (ro_some (rx_bin op_mod og_mod (rx_bin op_fdivW og_div (rx_var 11) rx_int) rx_int)) ro_none) (rx_slice false (rx_var 14) ro_none (ro_some (rx_bin op_mod og_mod (rx_bin op_fdivW og_div (rx_var 11) rx_int) rx_int)))) ra_nil)))))))))))))))))))
 (rss_one (rs_ret (rx_var 4)))))))))))
theorem ok_order_key (hT : ClsT K FT) (S : Src K mg "order_key" s_order_key ["change"]) (z_sum : mg "sum" = none) : Def Pr w K mg base 1 "order_key" ["change"] sem_order_key :=
  def_tr S sc_order_key b_order_key (fun fa cdv A outer s H Ex hr tk hp => by
      have nd := sc_order_key.nd
      exact (rss_one (rs_ret (rx_tup (ra_cons (rx_sum rfl (rx_fld hT (rx_var 0)) z_sum) (ra_cons (rx_fld hT (rx_var 0)) (ra_cons (rx_fld hT (rx_var 0)) ra_nil)))))))
theorem ok_in_order (hT : ClsT K FT) (S : Src K mg "in_order" s_in_order ["changes"]) (d_order_key : Def Pr w K mg base 1 "order_key" ["change"] sem_order_key) (z_sorted : mg "sorted" = none) : Def Pr w K mg base 4 "in_order" ["changes"] sem_in_order :=
  def_tr S sc_in_order b_in_order (fun fa cdv A outer s H Ex hr tk hp => by
      have nd := sc_in_order.nd
      exact (rss_one (rs_ret (rx_sortK true d_order_key hr (by decide) (rx_var 0) z_sorted))))
theorem ok_in_past (hT : ClsT K FT) (S : Src K mg "in_past" s_in_past ["name", "change"]) (z_len : mg "len" = none) : Def Pr w K mg base 1 "in_past" ["name", "change"] sem_in_past :=
  def_tr S sc_in_past b_in_past (fun fa cdv A outer s H Ex hr tk hp => by
      have nd := sc_in_past.nd
      exact (rss_cons (rs_asg (is := [2, 3]) (rx_var 0) (rg_tup rfl (rgs_cons (rg_name (i := 2) nd) (rgs_cons (rg_name (i := 3) nd) rgs_nil)) 2))
 (rss_one (rs_ret (rx_and (rx_chain op_le og_le op_lt og_lt rx_int (rx_var 2) (rx_b1 call_len og_len (rx_fld hT (rx_var 1)) z_len)) (rx_one (rx_chain op_le og_le op_le og_le rx_int (rx_var 3) (rx_sub (Room_u1 hr) (rx_fld hT (rx_var 1)) (rx_var 2)))))))))
theorem ok__law_is_past (hT : ClsT K FT) (S : Src K mg "_law_is_past" s__law_is_past ["name", "row"]) (z_len : mg "len" = none) : Def Pr w K mg base 1 "_law_is_past" ["name", "row"] sem__law_is_past :=
  def_tr S sc__law_is_past b__law_is_past (fun fa cdv A outer s H Ex hr tk hp => by
      have nd := sc__law_is_past.nd
      exact (rss_one (rs_ret (rx_and (rx_cmp op_le og_le rx_int (rx_sub (Room_u1 hr) (rx_var 0) rx_int) (nomark _)) (rx_and (rx_cmp op_lt og_lt (rx_sub (Room_u1 hr) (rx_var 0) rx_int) (rx_b1 call_len og_len (rx_sub (Room_u1 hr) (rx_var 1) rx_int) z_len) (nomark _)) (rx_and (rx_cmp op_le og_le rx_int (rx_sub (Room_u1 hr) (rx_var 0) rx_int) (nomark _)) (rx_one (rx_cmp (op_leO (Room_u64 hr)) og_ordO (rx_sub (Room_u1 hr) (rx_var 0) rx_int) (rx_sub (Room_u1 hr) (rx_sub (Room_u1 hr) (rx_var 1) rx_int) (rx_sub (Room_u1 hr) (rx_var 0) rx_int)) (nomark _)))))))))
theorem ok__law_asks_past (hT : ClsT K FT) (S : Src K mg "_law_asks_past" s__law_asks_past ["draws", "rows", "changes"]) (d__law_at : Def Pr w K mg base 2 "_law_at" ["draws", "index"] sem__law_at) (d__law_is_past : Def Pr w K mg base 1 "_law_is_past" ["name", "row"] sem__law_is_past) (d_in_past : Def Pr w K mg base 1 "in_past" ["name", "change"] sem_in_past) (z_bool : mg "bool" = none) (z_isinstance : mg "isinstance" = none) (z_len : mg "len" = none) (z_max : mg "max" = none) (z_range : mg "range" = none) : Def Pr w K mg base 3 "_law_asks_past" ["draws", "rows", "changes"] sem__law_asks_past :=
  def_tr S sc__law_asks_past b__law_asks_past (fun fa cdv A outer s H Ex hr tk hp => by
      have nd := sc__law_asks_past.nd
      exact (rss_cons (rs_for (is := [3]) hp rfl (ri_range1 (rx_b1 call_len og_len (rx_var 1) z_len) z_range) (rg_name (i := 3) nd) (rss_one (rs_for (is := [4]) hp rfl (ri_range2 (rx_un un_neg og_neg rx_int) rx_int z_range) (rg_name (i := 4) nd) (rss_cons (rs_set (i := 5) nd (rx_bin op_addA og_add rx_int (rx_bin op_mod og_mod (rx_callP tk d__law_at hr (by decide) (ra_cons (rx_var 0) (ra_cons (rx_bin op_addA og_add (rx_bin op_addA og_add rx_int (rx_bin op_mulB og_mul rx_int (rx_var 3))) (rx_var 4)) ra_nil))) (rx_sub (Room_u1 hr) (rx_lst false (ra_cons rx_int (ra_cons rx_int (ra_cons rx_int ra_nil)))) (rx_bin op_mod og_mod (rx_callP tk d__law_at hr (by decide) (ra_cons (rx_var 0) (ra_cons rx_int ra_nil))) rx_int)))))
 (rss_cons (rs_if (RWt.rt (rw_and (rt_cmp op_le og_le rx_int (rx_var 4) (nomark _)) (rw_and (rt_cmp op_lt og_lt (rx_var 4) (rx_b1 call_len og_len (rx_sub (Room_u1 hr) (rx_sub (Room_u1 hr) (rx_var 1) (rx_var 3)) rx_int) z_len) (nomark _)) (rw_and1 (rt_cmp (op_eqD (Room_u64 hr)) og_eq (rx_bin op_mod og_mod (rx_callP tk d__law_at hr (by decide) (ra_cons (rx_var 0) (ra_cons (rx_bin op_addA og_add rx_int (rx_var 3)) ra_nil))) rx_int) rx_int (nomark _)))))) (rss_one (rs_set (i := 5) nd (rx_b2 (call_max2 rfl) og_max2 rx_int (rx_bin op_addA og_add (rx_sub (Room_u1 hr) (rx_sub (Room_u1 hr) (rx_sub (Room_u1 hr) (rx_var 1) (rx_var 3)) rx_int) (rx_var 4)) (rx_bin op_mod og_mod (rx_callP tk d__law_at hr (by decide) (ra_cons (rx_var 0) (ra_cons (rx_bin op_addA og_add (rx_bin op_addA og_add rx_int (rx_var 3)) (rx_var 4)) ra_nil))) rx_int)) z_max))) rss_nil)
 (rss_cons (rs_if (rt_cmp (op_eqD (Room_u64 hr)) og_eq (rx_bin op_mod og_mod (rx_callP tk d__law_at hr (by decide) (ra_cons (rx_var 0) (ra_cons (rx_bin op_addA og_add (rx_bin op_addA og_add rx_int (rx_var 3)) (rx_var 4)) ra_nil))) rx_int) rx_int (nomark _)) (rss_one (rs_set (i := 5) nd (rx_bin op_sub og_sub (rx_bin op_mod og_mod (rx_callP tk d__law_at hr (by decide) (ra_cons (rx_var 0) (ra_cons (rx_bin op_addA og_add rx_int (rx_var 3)) ra_nil))) rx_int) rx_int))) rss_nil)
 (rss_cons (rs_set (i := 6) nd (rx_callP tk d_in_past hr (by decide) (ra_cons (rx_tup (ra_cons (rx_var 4) (ra_cons (rx_var 5) ra_nil))) (ra_cons (rx_sub (Room_u1 hr) (rx_var 2) (rx_var 3)) ra_nil))))
 (rss_one (rs_if (RWt.rt (rw_or (rt_not (rt_truth (rx_isi (rx_var 6) z_isinstance z_bool))) (rw_or1 (rt_cmp (op_neD (Room_u64 hr)) og_ne (rx_var 6) (rx_callP tk d__law_is_past hr (by decide) (ra_cons (rx_tup (ra_cons (rx_var 4) (ra_cons (rx_var 5) ra_nil))) (ra_cons (rx_sub (Room_u1 hr) (rx_var 1) (rx_var 3)) ra_nil))) (nomark _))))) (rss_one (rs_ret rx_bl)) rss_nil)))))))))
 (rss_one (rs_ret rx_bl))))
theorem ok__law_part_lists (hT : ClsT K FT) (S : Src K mg "_law_part_lists" s__law_part_lists ["parts"]) (z_list : mg "list" = none) : Def Pr w K mg base 1 "_law_part_lists" ["parts"] sem__law_part_lists :=
  def_tr S sc__law_part_lists b__law_part_lists (fun fa cdv A outer s H Ex hr tk hp => by
      have nd := sc__law_part_lists.nd
      exact (rss_cons (rs_set (i := 1) nd (rx_lst true ra_nil))
 (rss_cons (rs_for (is := [2]) hp rfl (ri_items (rx_var 0)) (rg_name (i := 2) nd) (rss_one (rs_if (rt_cmp op_isA og_is (rx_var 2) rx_non (nomark _)) (rss_one (rs_drop (rx_append (rx_var 1) rx_non))) (rss_one (rs_drop (rx_append (rx_var 1) (rx_t1 call_list_of og_lstOf (rx_var 2) z_list)))))))
 (rss_one (rs_ret (rx_var 1))))))
theorem ok__as_tuple (hT : ClsT K FT) (S : Src K mg "_as_tuple" s__as_tuple ["part"]) (z_tuple : mg "tuple" = none) : Def Pr w K mg base 1 "_as_tuple" ["part"] sem__as_tuple :=
  def_tr S sc__as_tuple b__as_tuple (fun fa cdv A outer s H Ex hr tk hp => by
      have nd := sc__as_tuple.nd
      exact (rss_cons (rs_if (rt_cmp op_isA og_is (rx_var 0) rx_non (nomark _)) (rss_one (rs_ret rx_non)) rss_nil)
 (rss_one (rs_ret (rx_t1 call_tuple_of og_tupOf (rx_var 0) z_tuple)))))
theorem ok_Change____init__ (hT : ClsT K FT) (S : SrcM K "Change" "__init__" s_Change____init__ ["self", "author", "number", "heard", "capability", "publics", "parts"] "Change.__init__") (d__as_tuple : Def Pr w K mg base 1 "_as_tuple" ["part"] sem__as_tuple) (z_tuple : mg "tuple" = none) : DefM Pr w K mg base 2 "Change" "__init__" ["self", "author", "number", "heard", "capability", "publics", "parts"] sem_Change____init__ :=
  defM_tr S sc_Change____init__ b_Change____init__ (fun fa cdv A outer s H Ex hr tk hp => by
      have nd := sc_Change____init__.nd
      exact (rss_cons (rs_setF hT (rx_var 0) (rx_var 1))
 (rss_cons (rs_setF hT (rx_var 0) (rx_var 2))
 (rss_cons (rs_setF hT (rx_var 0) (rx_t1 call_tuple_of og_tupOf (rx_var 3) z_tuple))
 (rss_cons (rs_setF hT (rx_var 0) (rx_var 4))
 (rss_cons (rs_setF hT (rx_var 0) (rx_t1 call_tuple_of og_tupOf (rx_var 5) z_tuple))
 (rss_one (rs_setF hT (rx_var 0) (rx_t1 call_tuple_of og_tupOf (rx_lc false rfl nd [("part", 7)] (ri_items (rx_var 6)) (fun _ _ _ _ _ => (rg_name (i := 7) nd)) (fun _ _ _ _ _ => rts_nil) (fun _ _ _ _ _ => (rx_call (ps := ["part"]) takes0 d__as_tuple hr (by decide) (ra_cons (rx_var 7) ra_nil))) (blkOk_by (N := ["self", "author", "number", "heard", "capability", "publics", "parts", "part"]) (sc := defScope s_Change____init__) (by decide +kernel))) z_tuple)))))))))
theorem ok__law_change (hT : ClsT K FT) (S : Src K mg "_law_change" s__law_change ["row", "as_lists"]) (d_Change____init__ : DefM Pr w K mg base 2 "Change" "__init__" ["self", "author", "number", "heard", "capability", "publics", "parts"] sem_Change____init__) (d__law_part_lists : Def Pr w K mg base 1 "_law_part_lists" ["parts"] sem__law_part_lists) (k_Change : MkC K mg "Change") (z_list : mg "list" = none) (z_tuple : mg "tuple" = none) : Def Pr w K mg base 4 "_law_change" ["row", "as_lists"] sem__law_change :=
  def_tr S sc__law_change b__law_change (fun fa cdv A outer s H Ex hr tk hp => by
      have nd := sc__law_change.nd
      exact (rss_cons (rs_if (rt_not (rt_truth (rx_var 1))) (rss_one (rs_ret (rx_makeP tk k_Change d_Change____init__ hr (by decide) (ra_cons (rx_sub (Room_u1 hr) (rx_var 0) rx_int) (ra_cons (rx_sub (Room_u1 hr) (rx_var 0) rx_int) (ra_cons (rx_t1 call_tuple_of og_tupOf (rx_sub (Room_u1 hr) (rx_var 0) rx_int) z_tuple) (ra_cons (rx_sub (Room_u1 hr) (rx_var 0) rx_int) (ra_cons (rx_t1 call_tuple_of og_tupOf (rx_sub (Room_u1 hr) (rx_var 0) rx_int) z_tuple) (ra_cons (rx_t1 call_tuple_of og_tupOf (rx_sub (Room_u1 hr) (rx_var 0) rx_int) z_tuple) ra_nil))))))))) rss_nil)
 (rss_cons (rs_set (i := 2) nd (rx_t1 call_list_of og_lstOf (rx_sub (Room_u1 hr) (rx_var 0) rx_int) z_list))
 (rss_cons (rs_set (i := 3) nd (rx_t1 call_list_of og_lstOf (rx_sub (Room_u1 hr) (rx_var 0) rx_int) z_list))
 (rss_cons (rs_set (i := 4) nd (rx_call tk d__law_part_lists hr (by decide) (ra_cons (rx_sub (Room_u1 hr) (rx_var 0) rx_int) ra_nil)))
 (rss_cons (rs_set (i := 5) nd (rx_make tk k_Change d_Change____init__ hr (by decide) (ra_cons (rx_sub (Room_u1 hr) (rx_var 0) rx_int) (ra_cons (rx_sub (Room_u1 hr) (rx_var 0) rx_int) (ra_cons (rx_var 2) (ra_cons (rx_sub (Room_u1 hr) (rx_var 0) rx_int) (ra_cons (rx_var 3) (ra_cons (rx_var 4) ra_nil))))))))
 (rss_cons (rs_for (is := [6]) hp rfl (ri_items (rx_bin op_addA og_add (rx_lst true (ra_cons (rx_var 2) (ra_cons (rx_var 3) ra_nil))) (rx_lc true rfl nd [("part", 7)] (ri_items (rx_var 4)) (fun _ _ _ _ _ => (rg_name (i := 7) nd)) (fun _ _ _ _ _ => (rts_one (rt_cmp op_isNotA og_is (rx_var 7) rx_non (nomark _)))) (fun _ _ _ _ _ => (rx_var 7)) (blkOk_by (N := ["row", "as_lists", "heard", "publics", "parts", "change", "given", "part"]) (sc := defScope s__law_change) (by decide +kernel))))) (rg_name (i := 6) nd) (rss_one (rs_drop (rx_append (rx_var 6) rx_int))))
 (rss_cons (rs_drop (rx_append (rx_var 4) rx_non))
 (rss_fz 5
 (rss_one (rs_ret (rx_var 5))))))))))))
theorem ok_Change__name (hT : ClsT K FT) (S : SrcM K "Change" "name" s_Change__name ["self"] "Change.name")  : DefM Pr w K mg base 1 "Change" "name" ["self"] sem_Change__name :=
  defM_tr S sc_Change__name b_Change__name (fun fa cdv A outer s H Ex hr tk hp => by
      have nd := sc_Change__name.nd
      exact (rss_one (rs_ret (rx_tup (ra_cons (rx_fld hT (rx_var 0)) (ra_cons (rx_fld hT (rx_var 0)) ra_nil))))))
theorem ok_Change__with_parts (hT : ClsT K FT) (S : SrcM K "Change" "with_parts" s_Change__with_parts ["self", "parts"] "Change.with_parts") (d_Change____init__ : DefM Pr w K mg base 2 "Change" "__init__" ["self", "author", "number", "heard", "capability", "publics", "parts"] sem_Change____init__) (k_Change : MkC K mg "Change") : DefM Pr w K mg base 4 "Change" "with_parts" ["self", "parts"] sem_Change__with_parts :=
  defM_tr S sc_Change__with_parts b_Change__with_parts (fun fa cdv A outer s H Ex hr tk hp => by
      have nd := sc_Change__with_parts.nd
      exact (rss_one (rs_ret (rx_makeP tk k_Change d_Change____init__ hr (by decide) (ra_cons (rx_fld hT (rx_var 0)) (ra_cons (rx_fld hT (rx_var 0)) (ra_cons (rx_fld hT (rx_var 0)) (ra_cons (rx_fld hT (rx_var 0)) (ra_cons (rx_fld hT (rx_var 0)) (ra_cons (rx_var 1) ra_nil))))))))))
theorem ok__law_is_integer (hT : ClsT K FT) (S : Src K mg "_law_is_integer" s__law_is_integer ["actual"]) (z_bool : mg "bool" = none) (z_int : mg "int" = none) (z_isinstance : mg "isinstance" = none) : Def Pr w K mg base 1 "_law_is_integer" ["actual"] sem__law_is_integer :=
  def_tr S sc__law_is_integer b__law_is_integer (fun fa cdv A outer s H Ex hr tk hp => by
      have nd := sc__law_is_integer.nd
      exact (rss_one (rs_ret (rx_and (rx_isi (rx_var 0) z_isinstance z_int) (rx_one (rx_not (rx_isi (rx_var 0) z_isinstance z_bool)))))))
theorem ok__law_same (hT : ClsT K FT) (S : Src K mg "_law_same" s__law_same ["actual", "expected"]) (d__law_is_integer : Def Pr w K mg base 1 "_law_is_integer" ["actual"] sem__law_is_integer) (z_bool : mg "bool" = none) (z_int : mg "int" = none) (z_isinstance : mg "isinstance" = none) (z_len : mg "len" = none) (z_list : mg "list" = none) (z_range : mg "range" = none) (z_str : mg "str" = none) (z_tuple : mg "tuple" = none) : ∀ n : Nat, Def Pr w K mg base (2 + n) "_law_same" ["actual", "expected"] (sem__law_same n)
  | 0 => def_none S
  | n + 1 => by
    have ih := ok__law_same hT S d__law_is_integer z_bool z_int z_isinstance z_len z_list z_range z_str z_tuple n
    exact def_tr S sc__law_same (b__law_same (sem__law_same n)) (fun fa cdv A outer s H Ex hr tk hp => by
      have nd := sc__law_same.nd
      exact (rss_cons (rs_if (rt_truth (rx_isi2 (rx_var 1) z_isinstance z_list z_tuple)) (rss_cons (rs_if (RWt.rt (rw_or (rt_cmp (op_neD (Room_u64 hr)) og_ne (rx_isi (rx_var 1) z_isinstance z_list) (rx_isi (rx_var 0) z_isinstance z_list) (nomark _)) (rw_or1 (rt_cmp (op_neD (Room_u64 hr)) og_ne (rx_isi (rx_var 1) z_isinstance z_tuple) (rx_isi (rx_var 0) z_isinstance z_tuple) (nomark _))))) (rss_one (rs_ret rx_bl)) rss_nil)
 (rss_cons (rs_if (rt_cmp (op_neD (Room_u64 hr)) og_ne (rx_b1 call_len og_len (rx_var 0) z_len) (rx_b1 call_len og_len (rx_var 1) z_len) (nomark _)) (rss_one (rs_ret rx_bl)) rss_nil)
 (rss_cons (rs_for (is := [2]) hp rfl (ri_range1 (rx_b1 call_len og_len (rx_var 1) z_len) z_range) (rg_name (i := 2) nd) (rss_one (rs_if (rt_not (rt_truth (rx_callP tk ih hr (Nat.le_refl _) (ra_cons (rx_sub (Room_u1 hr) (rx_var 0) (rx_var 2)) (ra_cons (rx_sub (Room_u1 hr) (rx_var 1) (rx_var 2)) ra_nil))))) (rss_one (rs_ret rx_bl)) rss_nil)))
 (rss_one (rs_ret rx_bl))))) rss_nil)
 (rss_cons (rs_if (rt_cmp op_isA og_is (rx_var 1) rx_non (nomark _)) (rss_one (rs_ret (rx_cmp op_isA og_is (rx_var 0) rx_non (nomark _)))) rss_nil)
 (rss_cons (rs_if (rt_truth (rx_isi (rx_var 1) z_isinstance z_bool)) (rss_one (rs_ret (rx_and (rx_isi (rx_var 0) z_isinstance z_bool) (rx_one (rx_cmp (op_eqD (Room_u64 hr)) og_eq (rx_var 0) (rx_var 1) (nomark _)))))) rss_nil)
 (rss_cons (rs_if (rt_truth (rx_isi (rx_var 1) z_isinstance z_int)) (rss_one (rs_ret (rx_and (rx_callP tk d__law_is_integer hr (Nat.le_trans (show 1 ≤ 2 from by decide) (Nat.le_add_right 2 n)) (ra_cons (rx_var 0) ra_nil)) (rx_one (rx_cmp (op_eqD (Room_u64 hr)) og_eq (rx_var 0) (rx_var 1) (nomark _)))))) rss_nil)
 (rss_one (rs_ret (rx_and (rx_isi (rx_var 0) z_isinstance z_str) (rx_one (rx_cmp (op_eqD (Room_u64 hr)) og_eq (rx_var 0) (rx_var 1) (nomark _)))))))))))
theorem ok_Change__header (hT : ClsT K FT) (S : SrcM K "Change" "header" s_Change__header ["self"] "Change.header")  : DefM Pr w K mg base 1 "Change" "header" ["self"] sem_Change__header :=
  defM_tr S sc_Change__header b_Change__header (fun fa cdv A outer s H Ex hr tk hp => by
      have nd := sc_Change__header.nd
      exact (rss_one (rs_ret (rx_tup (ra_cons (rx_fld hT (rx_var 0)) (ra_cons (rx_fld hT (rx_var 0)) (ra_cons (rx_fld hT (rx_var 0)) (ra_cons (rx_fld hT (rx_var 0)) (ra_cons (rx_fld hT (rx_var 0)) ra_nil)))))))))
theorem ok__law_is_kept (hT : ClsT K FT) (S : Src K mg "_law_is_kept" s__law_is_kept ["change", "row"]) (d_Change__header : DefM Pr w K mg base 1 "Change" "header" ["self"] sem_Change__header) (d_Change__name : DefM Pr w K mg base 1 "Change" "name" ["self"] sem_Change__name) (d_Change__with_parts : DefM Pr w K mg base 4 "Change" "with_parts" ["self", "parts"] sem_Change__with_parts) (d__law_same : Def Pr w K mg base 10 "_law_same" ["actual", "expected"] (sem__law_same 8)) (d_order_key : Def Pr w K mg base 1 "order_key" ["change"] sem_order_key) (z_sum : mg "sum" = none) (z_tuple : mg "tuple" = none) : Def Pr w K mg base 11 "_law_is_kept" ["change", "row"] sem__law_is_kept :=
  def_tr S sc__law_is_kept b__law_is_kept (fun fa cdv A outer s H Ex hr tk hp => by
      have nd := sc__law_is_kept.nd
      exact (rss_cons (rs_set (i := 2) nd (rx_tup (ra_cons (rx_sub (Room_u1 hr) (rx_var 1) rx_int) (ra_cons (rx_sub (Room_u1 hr) (rx_var 1) rx_int) (ra_cons (rx_t1 call_tuple_of og_tupOf (rx_sub (Room_u1 hr) (rx_var 1) rx_int) z_tuple) (ra_cons (rx_sub (Room_u1 hr) (rx_var 1) rx_int) (ra_cons (rx_t1 call_tuple_of og_tupOf (rx_sub (Room_u1 hr) (rx_var 1) rx_int) z_tuple) ra_nil)))))))
 (rss_cons (rs_if (RWt.rt (rw_or (rt_not (rt_truth (rx_callP tk d__law_same hr (by decide) (ra_cons (rx_methP0 tk d_Change__header hr (by decide) (rx_var 0)) (ra_cons (rx_var 2) ra_nil))))) (rw_or1 (rt_not (rt_truth (rx_callP tk d__law_same hr (by decide) (ra_cons (rx_methP0 tk d_Change__name hr (by decide) (rx_var 0)) (ra_cons (rx_tup (ra_cons (rx_sub (Room_u1 hr) (rx_var 1) rx_int) (ra_cons (rx_sub (Room_u1 hr) (rx_var 1) rx_int) ra_nil))) ra_nil)))))))) (rss_one (rs_ret rx_bl)) rss_nil)
 (rss_cons (rs_if (RWt.rt (rw_or (rt_not (rt_truth (rx_callP tk d__law_same hr (by decide) (ra_cons (rx_fld hT (rx_var 0)) (ra_cons (rx_sub (Room_u1 hr) (rx_var 2) rx_int) ra_nil))))) (rw_or1 (rt_not (rt_truth (rx_callP tk d__law_same hr (by decide) (ra_cons (rx_fld hT (rx_var 0)) (ra_cons (rx_sub (Room_u1 hr) (rx_var 2) rx_int) ra_nil)))))))) (rss_one (rs_ret rx_bl)) rss_nil)
 (rss_cons (rs_if (RWt.rt (rw_or (rt_not (rt_truth (rx_callP tk d__law_same hr (by decide) (ra_cons (rx_fld hT (rx_var 0)) (ra_cons (rx_t1 call_tuple_of og_tupOf (rx_sub (Room_u1 hr) (rx_var 1) rx_int) z_tuple) ra_nil))))) (rw_or1 (rt_not (rt_truth (rx_callP tk d__law_same hr (by decide) (ra_cons (rx_fld hT (rx_var 0)) (ra_cons (rx_sub (Room_u1 hr) (rx_var 1) rx_int) ra_nil)))))))) (rss_one (rs_ret rx_bl)) rss_nil)
 (rss_cons (rs_set (i := 3) nd (rx_methP tk d_Change__with_parts hr (by decide) (rx_var 0) (ra_cons (rx_lst false (ra_cons (rx_tup ra_nil) (ra_cons rx_non (ra_cons rx_non (ra_cons (rx_lst false (ra_cons (rx_tup (ra_cons rx_str (ra_cons rx_str ra_nil))) ra_nil)) ra_nil))))) ra_nil)))
 (rss_cons (rs_if (RWt.rt (rw_or (rt_not (rt_truth (rx_callP tk d__law_same hr (by decide) (ra_cons (rx_methP0 tk d_Change__header hr (by decide) (rx_var 3)) (ra_cons (rx_var 2) ra_nil))))) (rw_or1 (rt_not (rt_truth (rx_callP tk d__law_same hr (by decide) (ra_cons (rx_fld hT (rx_var 3)) (ra_cons (rx_tup (ra_cons (rx_tup ra_nil) (ra_cons rx_non (ra_cons rx_non (ra_cons (rx_tup (ra_cons (rx_tup (ra_cons rx_str (ra_cons rx_str ra_nil))) ra_nil)) ra_nil))))) ra_nil)))))))) (rss_one (rs_ret rx_bl)) rss_nil)
 (rss_cons (rs_if (RWt.rt (rw_or (rt_not (rt_truth (rx_callP tk d__law_same hr (by decide) (ra_cons (rx_fld hT (rx_var 0)) (ra_cons (rx_t1 call_tuple_of og_tupOf (rx_sub (Room_u1 hr) (rx_var 1) rx_int) z_tuple) ra_nil))))) (rw_or1 (rt_not (rt_truth (rx_callP tk d__law_same hr (by decide) (ra_cons (rx_fld hT (rx_var 0)) (ra_cons (rx_sub (Room_u1 hr) (rx_var 1) rx_int) ra_nil)))))))) (rss_one (rs_ret rx_bl)) rss_nil)
 (rss_one (rs_ret (rx_and (rx_callP tk d__law_same hr (by decide) (ra_cons (rx_fld hT (rx_var 0)) (ra_cons (rx_sub (Room_u1 hr) (rx_var 1) rx_int) ra_nil))) (rx_one (rx_callP tk d__law_same hr (by decide) (ra_cons (rx_callP tk d_order_key hr (by decide) (ra_cons (rx_var 0) ra_nil)) (ra_cons (rx_tup (ra_cons (rx_sum rfl (rx_sub (Room_u1 hr) (rx_var 1) rx_int) z_sum) (ra_cons (rx_sub (Room_u1 hr) (rx_var 1) rx_int) (ra_cons (rx_sub (Room_u1 hr) (rx_var 1) rx_int) ra_nil)))) ra_nil)))))))))))))))
theorem ok__law_comes_first (hT : ClsT K FT) (S : Src K mg "_law_comes_first" s__law_comes_first ["row", "other"]) (z_sum : mg "sum" = none) : Def Pr w K mg base 1 "_law_comes_first" ["row", "other"] sem__law_comes_first :=
  def_tr S sc__law_comes_first b__law_comes_first (fun fa cdv A outer s H Ex hr tk hp => by
      have nd := sc__law_comes_first.nd
      exact (rss_cons (rs_if (rt_cmp (op_neD (Room_u64 hr)) og_ne (rx_sum rfl (rx_sub (Room_u1 hr) (rx_var 0) rx_int) z_sum) (rx_sum rfl (rx_sub (Room_u1 hr) (rx_var 1) rx_int) z_sum) (nomark _)) (rss_one (rs_ret (rx_cmp op_lt og_lt (rx_sum rfl (rx_sub (Room_u1 hr) (rx_var 0) rx_int) z_sum) (rx_sum rfl (rx_sub (Room_u1 hr) (rx_var 1) rx_int) z_sum) (nomark _)))) rss_nil)
 (rss_cons (rs_if (rt_cmp (op_neD (Room_u64 hr)) og_ne (rx_sub (Room_u1 hr) (rx_var 0) rx_int) (rx_sub (Room_u1 hr) (rx_var 1) rx_int) (nomark _)) (rss_one (rs_ret (rx_cmp (op_ltO (Room_u64 hr)) og_ordO (rx_sub (Room_u1 hr) (rx_var 0) rx_int) (rx_sub (Room_u1 hr) (rx_var 1) rx_int) (nomark _)))) rss_nil)
 (rss_one (rs_ret (rx_cmp (op_ltO (Room_u64 hr)) og_ordO (rx_sub (Room_u1 hr) (rx_var 0) rx_int) (rx_sub (Room_u1 hr) (rx_var 1) rx_int) (nomark _)))))))
theorem ok_law {fa : Addr} {fd : FuncData} (hT : ClsT K FT) (F : Fun K "law" "law" s_law fa fd) (d_Change__name : DefM Pr w K mg base 1 "Change" "name" ["self"] sem_Change__name) (d__law_asks_past : Def Pr w K mg base 3 "_law_asks_past" ["draws", "rows", "changes"] sem__law_asks_past) (d__law_at : Def Pr w K mg base 2 "_law_at" ["draws", "index"] sem__law_at) (d__law_change : Def Pr w K mg base 4 "_law_change" ["row", "as_lists"] sem__law_change) (d__law_comes_first : Def Pr w K mg base 1 "_law_comes_first" ["row", "other"] sem__law_comes_first) (d__law_draws : Def Pr w K mg base 2 "_law_draws" ["script"] sem__law_draws) (d__law_is_kept : Def Pr w K mg base 11 "_law_is_kept" ["change", "row"] sem__law_is_kept) (d__law_rows : Def Pr w K mg base 3 "_law_rows" ["draws"] sem__law_rows) (d_in_order : Def Pr w K mg base 4 "in_order" ["changes"] sem_in_order) (z_isinstance : mg "isinstance" = none) (z_len : mg "len" = none) (z_list : mg "list" = none) (z_range : mg "range" = none) : FnOk Pr w K mg base CX0 12 fa fd ["script"] (fun vs H Q _ => spQ K 1 sem_law vs H Q E0) :=
  fn_tr0 b_law F sc_law (fun _ _ _ h => h) (fun cdv A outer s H Ex hr tk hp => by
      have nd := sc_law.nd
      exact (rss_cons (rs_set (i := 1) nd (rx_callP tk d__law_draws hr (by decide) (ra_cons (rx_var 0) ra_nil)))
 (rss_cons (rs_set (i := 2) nd (rx_callP tk d__law_rows hr (by decide) (ra_cons (rx_var 1) ra_nil)))
 (rss_cons (rs_setLc false (i := 3) rfl nd [("k", 4)] (ri_range1 (rx_b1 call_len og_len (rx_var 2) z_len) z_range) (fun _ _ _ _ _ => (rg_name (i := 4) nd)) (fun _ _ _ _ _ => rts_nil) (fun _ _ _ _ _ => (rx_callP (ps := ["row", "as_lists"]) takes0 d__law_change hr (by decide) (ra_cons (rx_sub (Room_u1 hr) (rx_var 2) (rx_var 4)) (ra_cons (rx_cmp (op_eqD (Room_u64 hr)) og_eq (rx_bin op_mod og_mod (rx_callP (ps := ["draws", "index"]) takes0 d__law_at hr (by decide) (ra_cons (rx_var 1) (ra_cons (rx_bin op_addA og_add rx_int (rx_var 4)) ra_nil))) rx_int) rx_int (nomark _)) ra_nil)))) (blkOk_by (N := ["script", "draws", "rows", "changes", "k", "passed", "actual", "names", "change", "places", "name", "found", "row"]) (sc := defScope s_law) (by decide +kernel)) (sw_true rfl rfl rfl (by decide +kernel)))
 (rss_cons (rs_for (is := [4]) hp rfl (ri_range1 (rx_b1 call_len og_len (rx_var 2) z_len) z_range) (rg_name (i := 4) nd) (rss_one (rs_if (rt_not (rt_truth (rx_callP tk d__law_is_kept hr (by decide) (ra_cons (rx_sub (Room_u1 hr) (rx_var 3) (rx_var 4)) (ra_cons (rx_sub (Room_u1 hr) (rx_var 2) (rx_var 4)) ra_nil))))) (rss_one (rs_ret rx_bl)) rss_nil)))
 (rss_cons (rs_set (i := 5) nd (rx_t1 call_list_of og_lstOf (rx_var 3) z_list))
 (rss_cons (rs_set (i := 6) nd (rx_callO tk d_in_order hr (by decide) (ra_cons (rx_var 5) ra_nil)))
 (rss_cons (rs_if (RWt.rt (rw_or (rt_not (rt_truth (rx_isi (rx_var 6) z_isinstance z_list))) (rw_or1 (rt_cmp (op_neD (Room_u64 hr)) og_ne (rx_b1 call_len og_len (rx_var 6) z_len) (rx_b1 call_len og_len (rx_var 2) z_len) (nomark _))))) (rss_one (rs_ret rx_bl)) rss_nil)
 (rss_cons (rs_setLc false (i := 7) rfl nd [("change", 8)] (ri_items (rx_var 6)) (fun _ _ _ _ _ => (rg_name (i := 8) nd)) (fun _ _ _ _ _ => rts_nil) (fun _ _ _ _ _ => (rx_methP0 (ps := ["self"]) takes0 d_Change__name hr (by decide) (rx_var 8))) (blkOk_by (N := ["script", "draws", "rows", "changes", "k", "passed", "actual", "names", "change", "places", "name", "found", "row"]) (sc := defScope s_law) (by decide +kernel)) (sw_true rfl rfl rfl (by decide +kernel)))
 (rss_cons (rs_set (i := 9) nd (rx_lst true ra_nil))
 (rss_cons (rs_for (is := [10]) hp rfl (ri_items (rx_var 7)) (rg_name (i := 10) nd) (rss_cons (rs_setLc false (i := 11) rfl nd [("k", 4)] (ri_range1 (rx_b1 call_len og_len (rx_var 2) z_len) z_range) (fun _ _ _ _ _ => (rg_name (i := 4) nd)) (fun _ _ _ _ _ => (rts_one (rt_cmp (op_eqD (Room_u64 hr)) og_eq (rx_tup (ra_cons (rx_sub (Room_u1 hr) (rx_sub (Room_u1 hr) (rx_var 2) (rx_var 4)) rx_int) (ra_cons (rx_sub (Room_u1 hr) (rx_sub (Room_u1 hr) (rx_var 2) (rx_var 4)) rx_int) ra_nil))) (rx_var 10) (nomark _)))) (fun _ _ _ _ _ => (rx_var 4)) (blkOk_by (N := ["script", "draws", "rows", "changes", "k", "passed", "actual", "names", "change", "places", "name", "found", "row"]) (sc := defScope s_law) (by decide +kernel)) (sw_true rfl rfl rfl (by decide +kernel)))
 (rss_cons (rs_if (RWt.rt (rw_or (rt_cmp (op_neD (Room_u64 hr)) og_ne (rx_b1 call_len og_len (rx_var 11) z_len) rx_int (nomark _)) (rw_or1 (rt_cmp (op_inA (Room_u65 hr)) og_in (rx_sub (Room_u1 hr) (rx_var 11) rx_int) (rx_var 9) (by with_unfolding_all rfl))))) (rss_one (rs_ret rx_bl)) rss_nil)
 (rss_one (rs_drop (rx_append (rx_var 9) (rx_sub (Room_u1 hr) (rx_var 11) rx_int)))))))
 (rss_cons (rs_for (is := [4]) hp rfl (ri_range1 (rx_b1 call_len og_len (rx_var 9) z_len) z_range) (rg_name (i := 4) nd) (rss_cons (rs_if (rt_not (rt_truth (rx_callP tk d__law_is_kept hr (by decide) (ra_cons (rx_sub (Room_u1 hr) (rx_var 6) (rx_var 4)) (ra_cons (rx_sub (Room_u1 hr) (rx_var 2) (rx_sub (Room_u1 hr) (rx_var 9) (rx_var 4))) ra_nil))))) (rss_one (rs_ret rx_bl)) rss_nil)
 (rss_one (rs_if (RWt.rt (rw_and (rt_cmp op_gt og_gt (rx_var 4) rx_int (nomark _)) (rw_and1 (rt_not (rt_truth (rx_callP tk d__law_comes_first hr (by decide) (ra_cons (rx_sub (Room_u1 hr) (rx_var 2) (rx_sub (Room_u1 hr) (rx_var 9) (rx_bin op_sub og_sub (rx_var 4) rx_int))) (ra_cons (rx_sub (Room_u1 hr) (rx_var 2) (rx_sub (Room_u1 hr) (rx_var 9) (rx_var 4))) ra_nil)))))))) (rss_one (rs_ret rx_bl)) rss_nil))))
 (rss_cons (rs_drop (rx_append (rx_var 6) rx_non))
 (rss_cons (rs_if (rt_cmp (op_neD (Room_u64 hr)) og_ne (rx_lc false rfl nd [("change", 8)] (ri_items (rx_var 5)) (fun _ _ _ _ _ => (rg_name (i := 8) nd)) (fun _ _ _ _ _ => rts_nil) (fun _ _ _ _ _ => (rx_methP0 (ps := ["self"]) takes0 d_Change__name hr (by decide) (rx_var 8))) (blkOk_by (N := ["script", "draws", "rows", "changes", "k", "passed", "actual", "names", "change", "places", "name", "found", "row"]) (sc := defScope s_law) (by decide +kernel))) (rx_lc false rfl nd [("row", 12)] (ri_items (rx_var 2)) (fun _ _ _ _ _ => (rg_name (i := 12) nd)) (fun _ _ _ _ _ => rts_nil) (fun _ _ _ _ _ => (rx_tup (ra_cons (rx_sub (Room_u1 hr) (rx_var 12) rx_int) (ra_cons (rx_sub (Room_u1 hr) (rx_var 12) rx_int) ra_nil)))) (blkOk_by (N := ["script", "draws", "rows", "changes", "k", "passed", "actual", "names", "change", "places", "name", "found", "row"]) (sc := defScope s_law) (by decide +kernel))) (nomark _)) (rss_one (rs_ret rx_bl)) rss_nil)
 (rss_cons (rs_if (rt_cmp (op_neD (Room_u64 hr)) og_ne (rx_lc false rfl nd [("change", 8)] (ri_items (rx_callP tk d_in_order hr (by decide) (ra_cons (rx_var 5) ra_nil))) (fun _ _ _ _ _ => (rg_name (i := 8) nd)) (fun _ _ _ _ _ => rts_nil) (fun _ _ _ _ _ => (rx_methP0 (ps := ["self"]) takes0 d_Change__name hr (by decide) (rx_var 8))) (blkOk_by (N := ["script", "draws", "rows", "changes", "k", "passed", "actual", "names", "change", "places", "name", "found", "row"]) (sc := defScope s_law) (by decide +kernel))) (rx_var 7) (nomark _)) (rss_one (rs_ret rx_bl)) rss_nil)
 (rss_one (rs_ret (rx_callP tk d__law_asks_past hr (by decide) (ra_cons (rx_var 1) (ra_cons (rx_var 2) (ra_cons (rx_var 3) ra_nil)))))))))))))))))))))
end
/-! ### all defs -/
theorem all_mk {l : PySem.W.OpenLaw} {w : World} {K : PySem.W.Frag} {h : Heap} {mg : Str → Option Value} {fa : Addr} (X : K.In h) (G : h.Ns mainGlobals mg) (hfa : mg "law" = some (.ref fa))
    {f0 f1 f2 f3 f4 f5 f6 f7 f8 f9 f10 f11 f12 f13 f14 f15 f16 f17 f18 f19 f20 C_Change : Addr} {od0 an0 od1 an1 od2 an2 od3 an3 od4 an4 od5 an5 od6 an6 od7 an7 od8 an8 od9 an9 od10 an10 od11 an11 od12 an12 od13 an13 od14 an14 od15 an15 od16 an16 od17 an17 od18 an18 od19 an19 od20 an20 : Option Addr} {sl0 sl1 sl2 sl3 sl4 sl5 sl6 sl7 sl8 sl9 sl10 sl11 sl12 sl13 sl14 sl15 sl16 sl17 sl18 sl19 sl20 : Array (Option Value)} {oc0 kV0 dc0 pm0 cd0 ct0 oc1 kV1 dc1 pm1 cd1 ct1 oc2 kV2 dc2 pm2 cd2 ct2 oc3 kV3 dc3 pm3 cd3 ct3 oc4 kV4 dc4 pm4 cd4 ct4 oc5 kV5 dc5 pm5 cd5 ct5 oc6 kV6 dc6 pm6 cd6 ct6 oc7 kV7 dc7 pm7 cd7 ct7 oc8 kV8 dc8 pm8 cd8 ct8 oc9 kV9 dc9 pm9 cd9 ct9 oc10 kV10 dc10 pm10 cd10 ct10 oc11 kV11 dc11 pm11 cd11 ct11 oc12 kV12 dc12 pm12 cd12 ct12 oc13 kV13 dc13 pm13 cd13 ct13 oc14 kV14 dc14 pm14 cd14 ct14 oc15 kV15 dc15 pm15 cd15 ct15 oc16 kV16 dc16 pm16 cd16 ct16 oc17 kV17 dc17 pm17 cd17 ct17 oc18 kV18 dc18 pm18 cd18 ct18 oc19 kV19 dc19 pm19 cd19 ct19 oc20 kV20 dc20 pm20 cd20 ct20 : Value}
    (a_Change : PySem.W.nsIn K mainGlobals "Change" = some (some (.ref C_Change))) (pg_Change : PySem.W.plainGet K C_Change Str.empty = true) (hd_Change : PySem.W.hasDictIn K C_Change = true) (po_Change : PySem.W.plainOver K C_Change = true) (sa_Change : PySem.W.findIn K (.ref C_Change) "__setattr__" = some (some (.builtin "object.__setattr__")))
    (n_Change_author : PySem.W.findIn K (.ref C_Change) "author" = some none)
    (n_Change_number : PySem.W.findIn K (.ref C_Change) "number" = some none)
    (n_Change_heard : PySem.W.findIn K (.ref C_Change) "heard" = some none)
    (n_Change_capability : PySem.W.findIn K (.ref C_Change) "capability" = some none)
    (n_Change_publics : PySem.W.findIn K (.ref C_Change) "publics" = some none)
    (n_Change_parts : PySem.W.findIn K (.ref C_Change) "parts" = some none)
    (mk_Change : PySem.W.makesIn K C_Change = true) (kc_Change : PySem.W.keepIn K (.ref C_Change) = true)
    (a0 : PySem.W.nsIn K mainGlobals "_law_mix" = some (some (.ref f0)))
    (l0 : K.lookup f0 = some ⟨oc0, od0, .func (PySem.W.fnOf "_law_mix" "_law_mix" (defArgs s__law_mix) (defBody s__law_mix) (defScope s__law_mix) .none kV0 dc0 pm0 an0 cd0 ct0), sl0⟩) (c0 : PySem.W.codeIn K cd0 "_law_mix" = true) (k0 : PySem.W.keepIn K (.ref f0) = true)
    (a1 : PySem.W.nsIn K mainGlobals "_law_draws" = some (some (.ref f1)))
    (l1 : K.lookup f1 = some ⟨oc1, od1, .func (PySem.W.fnOf "_law_draws" "_law_draws" (defArgs s__law_draws) (defBody s__law_draws) (defScope s__law_draws) .none kV1 dc1 pm1 an1 cd1 ct1), sl1⟩) (c1 : PySem.W.codeIn K cd1 "_law_draws" = true) (k1 : PySem.W.keepIn K (.ref f1) = true)
    (a2 : PySem.W.nsIn K mainGlobals "_law_at" = some (some (.ref f2)))
    (l2 : K.lookup f2 = some ⟨oc2, od2, .func (PySem.W.fnOf "_law_at" "_law_at" (defArgs s__law_at) (defBody s__law_at) (defScope s__law_at) .none kV2 dc2 pm2 an2 cd2 ct2), sl2⟩) (c2 : PySem.W.codeIn K cd2 "_law_at" = true) (k2 : PySem.W.keepIn K (.ref f2) = true)
    (a3 : PySem.W.nsIn K mainGlobals "_law_rows" = some (some (.ref f3)))
    (l3 : K.lookup f3 = some ⟨oc3, od3, .func (PySem.W.fnOf "_law_rows" "_law_rows" (defArgs s__law_rows) (defBody s__law_rows) (defScope s__law_rows) .none kV3 dc3 pm3 an3 cd3 ct3), sl3⟩) (c3 : PySem.W.codeIn K cd3 "_law_rows" = true) (k3 : PySem.W.keepIn K (.ref f3) = true)
    (a4 : PySem.W.nsIn K mainGlobals "order_key" = some (some (.ref f4)))
    (l4 : K.lookup f4 = some ⟨oc4, od4, .func (PySem.W.fnOf "order_key" "order_key" (defArgs s_order_key) (defBody s_order_key) (defScope s_order_key) .none kV4 dc4 pm4 an4 cd4 ct4), sl4⟩) (c4 : PySem.W.codeIn K cd4 "order_key" = true) (k4 : PySem.W.keepIn K (.ref f4) = true)
    (a5 : PySem.W.nsIn K mainGlobals "in_order" = some (some (.ref f5)))
    (l5 : K.lookup f5 = some ⟨oc5, od5, .func (PySem.W.fnOf "in_order" "in_order" (defArgs s_in_order) (defBody s_in_order) (defScope s_in_order) .none kV5 dc5 pm5 an5 cd5 ct5), sl5⟩) (c5 : PySem.W.codeIn K cd5 "in_order" = true) (k5 : PySem.W.keepIn K (.ref f5) = true)
    (a6 : PySem.W.nsIn K mainGlobals "in_past" = some (some (.ref f6)))
    (l6 : K.lookup f6 = some ⟨oc6, od6, .func (PySem.W.fnOf "in_past" "in_past" (defArgs s_in_past) (defBody s_in_past) (defScope s_in_past) .none kV6 dc6 pm6 an6 cd6 ct6), sl6⟩) (c6 : PySem.W.codeIn K cd6 "in_past" = true) (k6 : PySem.W.keepIn K (.ref f6) = true)
    (a7 : PySem.W.nsIn K mainGlobals "_law_is_past" = some (some (.ref f7)))
    (l7 : K.lookup f7 = some ⟨oc7, od7, .func (PySem.W.fnOf "_law_is_past" "_law_is_past" (defArgs s__law_is_past) (defBody s__law_is_past) (defScope s__law_is_past) .none kV7 dc7 pm7 an7 cd7 ct7), sl7⟩) (c7 : PySem.W.codeIn K cd7 "_law_is_past" = true) (k7 : PySem.W.keepIn K (.ref f7) = true)
    (a8 : PySem.W.nsIn K mainGlobals "_law_asks_past" = some (some (.ref f8)))
    (l8 : K.lookup f8 = some ⟨oc8, od8, .func (PySem.W.fnOf "_law_asks_past" "_law_asks_past" (defArgs s__law_asks_past) (defBody s__law_asks_past) (defScope s__law_asks_past) .none kV8 dc8 pm8 an8 cd8 ct8), sl8⟩) (c8 : PySem.W.codeIn K cd8 "_law_asks_past" = true) (k8 : PySem.W.keepIn K (.ref f8) = true)
    (a9 : PySem.W.nsIn K mainGlobals "_law_part_lists" = some (some (.ref f9)))
    (l9 : K.lookup f9 = some ⟨oc9, od9, .func (PySem.W.fnOf "_law_part_lists" "_law_part_lists" (defArgs s__law_part_lists) (defBody s__law_part_lists) (defScope s__law_part_lists) .none kV9 dc9 pm9 an9 cd9 ct9), sl9⟩) (c9 : PySem.W.codeIn K cd9 "_law_part_lists" = true) (k9 : PySem.W.keepIn K (.ref f9) = true)
    (a10 : PySem.W.nsIn K mainGlobals "_as_tuple" = some (some (.ref f10)))
    (l10 : K.lookup f10 = some ⟨oc10, od10, .func (PySem.W.fnOf "_as_tuple" "_as_tuple" (defArgs s__as_tuple) (defBody s__as_tuple) (defScope s__as_tuple) .none kV10 dc10 pm10 an10 cd10 ct10), sl10⟩) (c10 : PySem.W.codeIn K cd10 "_as_tuple" = true) (k10 : PySem.W.keepIn K (.ref f10) = true)
    (a11 : PySem.W.findIn K (.ref C_Change) "__init__" = some (some (.ref f11))) (i11 : PySem.W.isFn K (.ref f11) = true)
    (l11 : K.lookup f11 = some ⟨oc11, od11, .func (PySem.W.fnOf "__init__" "Change.__init__" (defArgs s_Change____init__) (defBody s_Change____init__) (defScope s_Change____init__) .none kV11 dc11 pm11 an11 cd11 ct11), sl11⟩) (c11 : PySem.W.codeIn K cd11 "Change.__init__" = true) (k11 : PySem.W.keepIn K (.ref f11) = true)
    (a12 : PySem.W.nsIn K mainGlobals "_law_change" = some (some (.ref f12)))
    (l12 : K.lookup f12 = some ⟨oc12, od12, .func (PySem.W.fnOf "_law_change" "_law_change" (defArgs s__law_change) (defBody s__law_change) (defScope s__law_change) .none kV12 dc12 pm12 an12 cd12 ct12), sl12⟩) (c12 : PySem.W.codeIn K cd12 "_law_change" = true) (k12 : PySem.W.keepIn K (.ref f12) = true)
    (a13 : PySem.W.findIn K (.ref C_Change) "name" = some (some (.ref f13))) (i13 : PySem.W.isFn K (.ref f13) = true)
    (l13 : K.lookup f13 = some ⟨oc13, od13, .func (PySem.W.fnOf "name" "Change.name" (defArgs s_Change__name) (defBody s_Change__name) (defScope s_Change__name) .none kV13 dc13 pm13 an13 cd13 ct13), sl13⟩) (c13 : PySem.W.codeIn K cd13 "Change.name" = true) (k13 : PySem.W.keepIn K (.ref f13) = true)
    (a14 : PySem.W.findIn K (.ref C_Change) "with_parts" = some (some (.ref f14))) (i14 : PySem.W.isFn K (.ref f14) = true)
    (l14 : K.lookup f14 = some ⟨oc14, od14, .func (PySem.W.fnOf "with_parts" "Change.with_parts" (defArgs s_Change__with_parts) (defBody s_Change__with_parts) (defScope s_Change__with_parts) .none kV14 dc14 pm14 an14 cd14 ct14), sl14⟩) (c14 : PySem.W.codeIn K cd14 "Change.with_parts" = true) (k14 : PySem.W.keepIn K (.ref f14) = true)
    (a15 : PySem.W.nsIn K mainGlobals "_law_is_integer" = some (some (.ref f15)))
    (l15 : K.lookup f15 = some ⟨oc15, od15, .func (PySem.W.fnOf "_law_is_integer" "_law_is_integer" (defArgs s__law_is_integer) (defBody s__law_is_integer) (defScope s__law_is_integer) .none kV15 dc15 pm15 an15 cd15 ct15), sl15⟩) (c15 : PySem.W.codeIn K cd15 "_law_is_integer" = true) (k15 : PySem.W.keepIn K (.ref f15) = true)
    (a16 : PySem.W.nsIn K mainGlobals "_law_same" = some (some (.ref f16)))
    (l16 : K.lookup f16 = some ⟨oc16, od16, .func (PySem.W.fnOf "_law_same" "_law_same" (defArgs s__law_same) (defBody s__law_same) (defScope s__law_same) .none kV16 dc16 pm16 an16 cd16 ct16), sl16⟩) (c16 : PySem.W.codeIn K cd16 "_law_same" = true) (k16 : PySem.W.keepIn K (.ref f16) = true)
    (a17 : PySem.W.findIn K (.ref C_Change) "header" = some (some (.ref f17))) (i17 : PySem.W.isFn K (.ref f17) = true)
    (l17 : K.lookup f17 = some ⟨oc17, od17, .func (PySem.W.fnOf "header" "Change.header" (defArgs s_Change__header) (defBody s_Change__header) (defScope s_Change__header) .none kV17 dc17 pm17 an17 cd17 ct17), sl17⟩) (c17 : PySem.W.codeIn K cd17 "Change.header" = true) (k17 : PySem.W.keepIn K (.ref f17) = true)
    (a18 : PySem.W.nsIn K mainGlobals "_law_is_kept" = some (some (.ref f18)))
    (l18 : K.lookup f18 = some ⟨oc18, od18, .func (PySem.W.fnOf "_law_is_kept" "_law_is_kept" (defArgs s__law_is_kept) (defBody s__law_is_kept) (defScope s__law_is_kept) .none kV18 dc18 pm18 an18 cd18 ct18), sl18⟩) (c18 : PySem.W.codeIn K cd18 "_law_is_kept" = true) (k18 : PySem.W.keepIn K (.ref f18) = true)
    (a19 : PySem.W.nsIn K mainGlobals "_law_comes_first" = some (some (.ref f19)))
    (l19 : K.lookup f19 = some ⟨oc19, od19, .func (PySem.W.fnOf "_law_comes_first" "_law_comes_first" (defArgs s__law_comes_first) (defBody s__law_comes_first) (defScope s__law_comes_first) .none kV19 dc19 pm19 an19 cd19 ct19), sl19⟩) (c19 : PySem.W.codeIn K cd19 "_law_comes_first" = true) (k19 : PySem.W.keepIn K (.ref f19) = true)
    (a20 : PySem.W.nsIn K mainGlobals "law" = some (some (.ref f20)))
    (l20 : K.lookup f20 = some ⟨oc20, od20, .func (PySem.W.fnOf "law" "law" (defArgs s_law) (defBody s_law) (defScope s_law) .none kV20 dc20 pm20 an20 cd20 ct20), sl20⟩) (c20 : PySem.W.codeIn K cd20 "law" = true) (k20 : PySem.W.keepIn K (.ref f20) = true)
    (y_bool : PySem.W.nsIn K mainGlobals "bool" = some none)
    (y_int : PySem.W.nsIn K mainGlobals "int" = some none)
    (y_isinstance : PySem.W.nsIn K mainGlobals "isinstance" = some none)
    (y_len : PySem.W.nsIn K mainGlobals "len" = some none)
    (y_list : PySem.W.nsIn K mainGlobals "list" = some none)
    (y_max : PySem.W.nsIn K mainGlobals "max" = some none)
    (y_min : PySem.W.nsIn K mainGlobals "min" = some none)
    (y_range : PySem.W.nsIn K mainGlobals "range" = some none)
    (y_sorted : PySem.W.nsIn K mainGlobals "sorted" = some none)
    (y_str : PySem.W.nsIn K mainGlobals "str" = some none)
    (y_sum : PySem.W.nsIn K mainGlobals "sum" = some none)
    (y_tuple : PySem.W.nsIn K mainGlobals "tuple" = some none)
    : ∃ fd : FuncData, (∀ (s : Shared) (v : Value), BindsTo s fd ⟨[v], []⟩ [("script", v)]) ∧ ∀ base : Heap, K.In base → base.Ns mainGlobals mg → FnOk l.prog w K mg base CX0 12 fa fd ["script"] (fun vs H Q _ => spQ K 1 sem_law vs H Q E0) := by
  have e := hfa.symm.trans (PySem.W.mg_of X G a20)
  cases e
  have gl_Change : glAt K "Change" = some C_Change := by unfold glAt; rw [a_Change]
  have cl_Change : Cls K C_Change := ⟨pg_Change, hd_Change, po_Change, sa_Change⟩
  have hT : ClsT K FT := (clsT_cons gl_Change cl_Change (fun f hf => by
    simp only [List.mem_cons, List.not_mem_nil, or_false] at hf
    rcases hf with rfl | rfl | rfl | rfl | rfl | rfl
    · exact n_Change_author
    · exact n_Change_number
    · exact n_Change_heard
    · exact n_Change_capability
    · exact n_Change_publics
    · exact n_Change_parts) clsT_nil)
  have F0 := fun_mk (st := s__law_mix) l0 c0 k0
  have S0 : Src K mg "_law_mix" s__law_mix ["cell", "k"] := ⟨_, _, F0, PySem.W.mg_of X G a0, F0.binds fun _ _ _ _ _ _ us hl => match us, hl with | [_, _], _ => rfl⟩
  have F1 := fun_mk (st := s__law_draws) l1 c1 k1
  have S1 : Src K mg "_law_draws" s__law_draws ["script"] := ⟨_, _, F1, PySem.W.mg_of X G a1, F1.binds fun _ _ _ _ _ _ us hl => match us, hl with | [_], _ => rfl⟩
  have F2 := fun_mk (st := s__law_at) l2 c2 k2
  have S2 : Src K mg "_law_at" s__law_at ["draws", "index"] := ⟨_, _, F2, PySem.W.mg_of X G a2, F2.binds fun _ _ _ _ _ _ us hl => match us, hl with | [_, _], _ => rfl⟩
  have F3 := fun_mk (st := s__law_rows) l3 c3 k3
  have S3 : Src K mg "_law_rows" s__law_rows ["draws"] := ⟨_, _, F3, PySem.W.mg_of X G a3, F3.binds fun _ _ _ _ _ _ us hl => match us, hl with | [_], _ => rfl⟩
  have F4 := fun_mk (st := s_order_key) l4 c4 k4
  have S4 : Src K mg "order_key" s_order_key ["change"] := ⟨_, _, F4, PySem.W.mg_of X G a4, F4.binds fun _ _ _ _ _ _ us hl => match us, hl with | [_], _ => rfl⟩
  have F5 := fun_mk (st := s_in_order) l5 c5 k5
  have S5 : Src K mg "in_order" s_in_order ["changes"] := ⟨_, _, F5, PySem.W.mg_of X G a5, F5.binds fun _ _ _ _ _ _ us hl => match us, hl with | [_], _ => rfl⟩
  have F6 := fun_mk (st := s_in_past) l6 c6 k6
  have S6 : Src K mg "in_past" s_in_past ["name", "change"] := ⟨_, _, F6, PySem.W.mg_of X G a6, F6.binds fun _ _ _ _ _ _ us hl => match us, hl with | [_, _], _ => rfl⟩
  have F7 := fun_mk (st := s__law_is_past) l7 c7 k7
  have S7 : Src K mg "_law_is_past" s__law_is_past ["name", "row"] := ⟨_, _, F7, PySem.W.mg_of X G a7, F7.binds fun _ _ _ _ _ _ us hl => match us, hl with | [_, _], _ => rfl⟩
  have F8 := fun_mk (st := s__law_asks_past) l8 c8 k8
  have S8 : Src K mg "_law_asks_past" s__law_asks_past ["draws", "rows", "changes"] := ⟨_, _, F8, PySem.W.mg_of X G a8, F8.binds fun _ _ _ _ _ _ us hl => match us, hl with | [_, _, _], _ => rfl⟩
  have F9 := fun_mk (st := s__law_part_lists) l9 c9 k9
  have S9 : Src K mg "_law_part_lists" s__law_part_lists ["parts"] := ⟨_, _, F9, PySem.W.mg_of X G a9, F9.binds fun _ _ _ _ _ _ us hl => match us, hl with | [_], _ => rfl⟩
  have F10 := fun_mk (st := s__as_tuple) l10 c10 k10
  have S10 : Src K mg "_as_tuple" s__as_tuple ["part"] := ⟨_, _, F10, PySem.W.mg_of X G a10, F10.binds fun _ _ _ _ _ _ us hl => match us, hl with | [_], _ => rfl⟩
  have F11 := fun_mk (st := s_Change____init__) l11 c11 k11
  have S11 : SrcM K "Change" "__init__" s_Change____init__ ["self", "author", "number", "heard", "capability", "publics", "parts"] "Change.__init__" := ⟨_, _, _, gl_Change, cl_Change, ⟨a11, i11, k11⟩, F11, F11.binds fun _ _ _ _ _ _ us hl => match us, hl with | [_, _, _, _, _, _, _], _ => rfl⟩
  have F12 := fun_mk (st := s__law_change) l12 c12 k12
  have S12 : Src K mg "_law_change" s__law_change ["row", "as_lists"] := ⟨_, _, F12, PySem.W.mg_of X G a12, F12.binds fun _ _ _ _ _ _ us hl => match us, hl with | [_, _], _ => rfl⟩
  have F13 := fun_mk (st := s_Change__name) l13 c13 k13
  have S13 : SrcM K "Change" "name" s_Change__name ["self"] "Change.name" := ⟨_, _, _, gl_Change, cl_Change, ⟨a13, i13, k13⟩, F13, F13.binds fun _ _ _ _ _ _ us hl => match us, hl with | [_], _ => rfl⟩
  have F14 := fun_mk (st := s_Change__with_parts) l14 c14 k14
  have S14 : SrcM K "Change" "with_parts" s_Change__with_parts ["self", "parts"] "Change.with_parts" := ⟨_, _, _, gl_Change, cl_Change, ⟨a14, i14, k14⟩, F14, F14.binds fun _ _ _ _ _ _ us hl => match us, hl with | [_, _], _ => rfl⟩
  have F15 := fun_mk (st := s__law_is_integer) l15 c15 k15
  have S15 : Src K mg "_law_is_integer" s__law_is_integer ["actual"] := ⟨_, _, F15, PySem.W.mg_of X G a15, F15.binds fun _ _ _ _ _ _ us hl => match us, hl with | [_], _ => rfl⟩
  have F16 := fun_mk (st := s__law_same) l16 c16 k16
  have S16 : Src K mg "_law_same" s__law_same ["actual", "expected"] := ⟨_, _, F16, PySem.W.mg_of X G a16, F16.binds fun _ _ _ _ _ _ us hl => match us, hl with | [_, _], _ => rfl⟩
  have F17 := fun_mk (st := s_Change__header) l17 c17 k17
  have S17 : SrcM K "Change" "header" s_Change__header ["self"] "Change.header" := ⟨_, _, _, gl_Change, cl_Change, ⟨a17, i17, k17⟩, F17, F17.binds fun _ _ _ _ _ _ us hl => match us, hl with | [_], _ => rfl⟩
  have F18 := fun_mk (st := s__law_is_kept) l18 c18 k18
  have S18 : Src K mg "_law_is_kept" s__law_is_kept ["change", "row"] := ⟨_, _, F18, PySem.W.mg_of X G a18, F18.binds fun _ _ _ _ _ _ us hl => match us, hl with | [_, _], _ => rfl⟩
  have F19 := fun_mk (st := s__law_comes_first) l19 c19 k19
  have S19 : Src K mg "_law_comes_first" s__law_comes_first ["row", "other"] := ⟨_, _, F19, PySem.W.mg_of X G a19, F19.binds fun _ _ _ _ _ _ us hl => match us, hl with | [_, _], _ => rfl⟩
  have F20 := fun_mk (st := s_law) l20 c20 k20
  have S20 : Src K mg "law" s_law ["script"] := ⟨_, _, F20, PySem.W.mg_of X G a20, F20.binds fun _ _ _ _ _ _ us hl => match us, hl with | [_], _ => rfl⟩
  have k_Change : MkC K mg "Change" := ⟨_, _, gl_Change, PySem.W.mg_of X G a_Change, ⟨mk_Change, a11, i11, kc_Change⟩, a11⟩
  have z_bool := PySem.W.mg_none_of X G y_bool
  have z_int := PySem.W.mg_none_of X G y_int
  have z_isinstance := PySem.W.mg_none_of X G y_isinstance
  have z_len := PySem.W.mg_none_of X G y_len
  have z_list := PySem.W.mg_none_of X G y_list
  have z_max := PySem.W.mg_none_of X G y_max
  have z_min := PySem.W.mg_none_of X G y_min
  have z_range := PySem.W.mg_none_of X G y_range
  have z_sorted := PySem.W.mg_none_of X G y_sorted
  have z_str := PySem.W.mg_none_of X G y_str
  have z_sum := PySem.W.mg_none_of X G y_sum
  have z_tuple := PySem.W.mg_none_of X G y_tuple
  refine ⟨PySem.W.fnOf "law" "law" (defArgs s_law) (defBody s_law) (defScope s_law) .none kV20 dc20 pm20 an20 cd20 ct20, fun s v => .of_eq rfl, fun base _ _ => ?_⟩
  have d__law_mix := ok__law_mix (Pr := l.prog) (w := w) (mg := mg) (base := base) hT S0 z_int
  have d__law_draws := ok__law_draws (Pr := l.prog) (w := w) (mg := mg) (base := base) hT S1 d__law_mix z_int z_len z_min z_range
  have d__law_at := ok__law_at (Pr := l.prog) (w := w) (mg := mg) (base := base) hT S2 d__law_mix z_int z_len
  have d__law_rows := ok__law_rows (Pr := l.prog) (w := w) (mg := mg) (base := base) hT S3 d__law_at z_range z_tuple
  have d_order_key := ok_order_key (Pr := l.prog) (w := w) (mg := mg) (base := base) hT S4 z_sum
  have d_in_order := ok_in_order (Pr := l.prog) (w := w) (mg := mg) (base := base) hT S5 d_order_key z_sorted
  have d_in_past := ok_in_past (Pr := l.prog) (w := w) (mg := mg) (base := base) hT S6 z_len
  have d__law_is_past := ok__law_is_past (Pr := l.prog) (w := w) (mg := mg) (base := base) hT S7 z_len
  have d__law_asks_past := ok__law_asks_past (Pr := l.prog) (w := w) (mg := mg) (base := base) hT S8 d__law_at d__law_is_past d_in_past z_bool z_isinstance z_len z_max z_range
  have d__law_part_lists := ok__law_part_lists (Pr := l.prog) (w := w) (mg := mg) (base := base) hT S9 z_list
  have d__as_tuple := ok__as_tuple (Pr := l.prog) (w := w) (mg := mg) (base := base) hT S10 z_tuple
  have d_Change____init__ := ok_Change____init__ (Pr := l.prog) (w := w) (mg := mg) (base := base) hT S11 d__as_tuple z_tuple
  have d__law_change := ok__law_change (Pr := l.prog) (w := w) (mg := mg) (base := base) hT S12 d_Change____init__ d__law_part_lists k_Change z_list z_tuple
  have d_Change__name := ok_Change__name (Pr := l.prog) (w := w) (mg := mg) (base := base) hT S13 
  have d_Change__with_parts := ok_Change__with_parts (Pr := l.prog) (w := w) (mg := mg) (base := base) hT S14 d_Change____init__ k_Change
  have d__law_is_integer := ok__law_is_integer (Pr := l.prog) (w := w) (mg := mg) (base := base) hT S15 z_bool z_int z_isinstance
  have d__law_same := ok__law_same (Pr := l.prog) (w := w) (mg := mg) (base := base) hT S16 d__law_is_integer z_bool z_int z_isinstance z_len z_list z_range z_str z_tuple 8
  have d_Change__header := ok_Change__header (Pr := l.prog) (w := w) (mg := mg) (base := base) hT S17 
  have d__law_is_kept := ok__law_is_kept (Pr := l.prog) (w := w) (mg := mg) (base := base) hT S18 d_Change__header d_Change__name d_Change__with_parts d__law_same d_order_key z_sum z_tuple
  have d__law_comes_first := ok__law_comes_first (Pr := l.prog) (w := w) (mg := mg) (base := base) hT S19 z_sum
  exact ok_law (Pr := l.prog) (w := w) (mg := mg) (base := base) hT F20 d_Change__name d__law_asks_past d__law_at d__law_change d__law_comes_first d__law_draws d__law_is_kept d__law_rows d_in_order z_isinstance z_len z_list z_range
end K02

set_option maxHeartbeats 1000000
namespace K02
open PySem PySem.Spec PyProof.Rows L2 Tq
def mix1 (c k : Int) : Int := (c * 48271 + k * 69621 + 12345) % 2147483647
def mix2 (c k : Int) : Int := (mix1 c k * mix1 c k + k * 40692 + 1) % 2147483399
def mix (c k : Int) : Int := mix2 c k / 5 % 9973
def Dr (v : Int) : Prop := 0 ≤ v ∧ v < 9973
theorem mix_rng (c k : Int) : Dr (mix c k) := by unfold Dr mix; omega
theorem int_of {τ : Sl} {h : Hq} {m : E A} {i : Int} (e : m τ h = some (.ok (.d (.int i)) h)) : mUn gInt m τ h = some (.ok (.d (.int i)) h) := by
  rw [un_of e]
  rfl
theorem mix_ok {c k : Int} (hc : c.natAbs.log2 ≤ 1048576) (hk : 0 ≤ k ∧ k < 1000000000) : sem__law_mix [.d (.int c), .d (.int k)] [] = some (.ok (.d (.int (mix c k))) []) := by
  refine runB_rt rfl ?_
  show b__law_mix [some (.d (.int c)), some (.d (.int k)), none] [] = _
  unfold b__law_mix
  have h1 : mulOk c 48271 = true := by
    unfold mulOk
    refine decide_eq_true ?_
    have : (48271 : Int).natAbs.log2 < 16 := by decide
    omega
  have r1 : 0 ≤ mix1 c k ∧ mix1 c k < 2147483647 := by unfold mix1; omega
  rw [seq_nx (τ1 := [some (.d (.int c)), some (.d (.int k)), some (.d (.int (mix1 c k)))]) (h1 := []) (set_of (mod_of (int_of (add_of (add_of (mul_of (int_of (var_of rfl)) rfl h1) (mul_of (var_of rfl) rfl (mul_small (by omega) (by decide)))) rfl)) rfl (by decide)))]
  have e2 : mix2 c k = (mix1 c k * mix1 c k + k * 40692 + 1) % 2147483399 := rfl
  have e3 : mix c k = mix2 c k / 5 % 9973 := rfl
  generalize mix1 c k = v at r1 e2
  generalize mix2 c k = u at e2 e3
  rw [seq_nx (τ1 := [some (.d (.int c)), some (.d (.int k)), some (.d (.int u))]) (h1 := []) (set_of (by
    rw [e2]
    exact mod_of (int_of (add_of (add_of (mul_of (var_of rfl) (var_of rfl) (mul_small (by omega) (by omega))) (mul_of (var_of rfl) rfl (mul_small (by omega) (by decide)))) rfl)) rfl (by decide)))]
  refine ret_of ?_
  rw [e3]
  exact mod_of (div_of (var_of rfl) rfl rfl) rfl (by decide)
theorem mixp_ok {τ : Sl} {h : Hq} {m1 m2 : E A} {c k : Int} (hc : c.natAbs.log2 ≤ 1048576) (hk : 0 ≤ k ∧ k < 1000000000) (e1 : m1 τ h = some (.ok (.d (.int c)) h)) (e2 : m2 τ h = some (.ok (.d (.int k)) h)) : mCallP sem__law_mix (lenIs 2 (maCons m1 (maCons m2 maNil))) τ h = some (.ok (.d (.int (mix c k))) h) :=
  callP_of (ds := [.int c, .int k]) (len_of (n := 2) (cons_of e1 (cons_of (r := []) e2 rfl)) rfl) (mix_ok hc hk) (vw_d _ _ _)
theorem small_log {z : Int} (h : z.natAbs < 2 ^ 64) : z.natAbs.log2 ≤ 1048576 := by
  have := log2_lt h (by decide)
  omega
/-- the numbers drawn -/
def Drs (ds : List Int) : Prop := ds.length ≤ 4000 ∧ ∀ v ∈ ds, Dr v
theorem at_ok {ds : List Int} (hd : Drs ds) {i : Int} (hi : 0 ≤ i ∧ i < 100000000) : ∃ v, sem__law_at [.d (LD ds), .d (.int i)] [] = some (.ok (.d (.int v)) []) ∧ Dr v := by
  obtain ⟨hl, hm⟩ := hd
  have el : ∀ (h : Hq), mUn gLen (mVar 0) [some (.d (LD ds)), some (.d (.int i))] h = some (.ok (.d (.int (ds.length : Nat))) h) := fun h => by rw [un_of (var_of rfl)]; exact gLen_d ds h
  by_cases z : i < (ds.length : Nat)
  · obtain ⟨n, rfl⟩ : ∃ n : Nat, i = n := ⟨i.toNat, by omega⟩
    have hn : n < ds.length := by omega
    refine ⟨ds[n], runB_rt rfl ?_, hm _ (List.getElem_mem hn)⟩
    show b__law_at [some (.d (LD ds)), some (.d (.int (n : Nat)))] [] = _
    unfold b__law_at
    refine seq_rt ?_
    rw [if_tt (h1 := []) (by rw [lt_of (var_of rfl) (el []), decide_eq_true z])]
    refine ret_of ?_
    rw [bin_of (var_of rfl) (var_of rfl)]
    exact gGet_d [] (List.getElem?_eq_getElem hn)
  · have s1 : mIf (mTB (mBin gLt (mVar 1) (mUn gLen (mVar 0)))) (mRet (mBin gGet (mVar 0) (mVar 1))) mNx [some (.d (LD ds)), some (.d (.int i))] [] = some (.nx [some (.d (LD ds)), some (.d (.int i))] []) := by
      rw [if_ff (h1 := []) (by rw [lt_of (var_of rfl) (el []), decide_eq_false z])]
      rfl
    by_cases z0 : ds.length = 0
    · refine ⟨mix i 77, runB_rt rfl ?_, mix_rng _ _⟩
      show b__law_at [some (.d (LD ds)), some (.d (.int i))] [] = _
      unfold b__law_at
      rw [seq_nx s1]
      refine seq_rt ?_
      rw [if_tt (h1 := []) (by rw [tb_of (eqi_of (el []) rfl), decide_eq_true (by omega)])]
      exact ret_of (mixp_ok (small_log (by omega)) (by decide) (var_of rfl) rfl)
    · have hp : (0 : Int) < (ds.length : Nat) := by omega
      have m0 := Int.emod_nonneg i (Int.ne_of_gt hp)
      have m1 := Int.emod_lt_of_pos i hp
      generalize hj : (i % (ds.length : Nat)).toNat = j
      have hj1 : i % (ds.length : Nat) = (j : Int) := by omega
      have hjl : j < ds.length := by omega
      have hv := hm _ (List.getElem_mem hjl)
      have ev : ds[j]? = some ds[j] := List.getElem?_eq_getElem hjl
      generalize ds[j] = v at hv ev
      refine ⟨mix (v + i * 131) i, runB_rt rfl ?_, mix_rng _ _⟩
      show b__law_at [some (.d (LD ds)), some (.d (.int i))] [] = _
      unfold b__law_at
      rw [seq_nx s1, seq_nx (τ1 := [some (.d (LD ds)), some (.d (.int i))]) (h1 := []) (by
        rw [if_ff (h1 := []) (by rw [tb_of (eqi_of (el []) rfl), decide_eq_false (by omega)])]
        rfl)]
      unfold Dr at hv
      refine ret_of (mixp_ok (small_log (by omega)) (by omega) (add_of ?_ (mul_of (var_of rfl) rfl (mul_small (by omega) (by decide)))) (var_of rfl))
      rw [bin_of (b := .d (.int (j : Nat))) (h2 := []) (var_of rfl) (by
        rw [← hj1]
        exact mod_of (int_of (var_of rfl)) (el []) hp)]
      exact gGet_d [] ev
theorem atp_ok {ds : List Int} (hd : Drs ds) {i : Int} (hi : 0 ≤ i ∧ i < 100000000) : ∃ v, Dr v ∧ ∀ (τ : Sl) (h : Hq) (m1 m2 : E A), m1 τ h = some (.ok (.d (LD ds)) h) → m2 τ h = some (.ok (.d (.int i)) h) → mCallP sem__law_at (lenIs 2 (maCons m1 (maCons m2 maNil))) τ h = some (.ok (.d (.int v)) h) := by
  obtain ⟨v, e, r⟩ := at_ok hd hi
  exact ⟨v, r, fun τ h m1 m2 e1 e2 => callP_of (ds := [LD ds, .int i]) (len_of (n := 2) (cons_of e1 (cons_of (r := []) e2 rfl)) rfl) e (vw_d _ _ _)⟩
end K02

set_option maxHeartbeats 1000000
namespace K02
open PySem PySem.Spec PyProof.Rows L2 Tq
abbrev R5d (ns : List Int) (a2 a3 a4 : Option A) : Sl := [some (.d (.scr ns)), some (.r 0), a2, a3, a4]
def DH (ds : List Int) : Hq := [.lst (LI ds)]
theorem dr_snoc {ds : List Int} (h : ∀ v ∈ ds, Dr v) {v : Int} (hv : Dr v) : ∀ x ∈ ds ++ [v], Dr x := fun x hx => by
  rcases List.mem_append.mp hx with q | q
  · exact h x q
  · rw [List.mem_singleton.mp q]; exact hv
theorem app_draw {ns : List Int} {a2 a3 a4 : Option A} {ds : List Int} {m : E A} {v : Int} (e : m (R5d ns a2 a3 a4) (DH ds) = some (.ok (.d (.int v)) (DH ds))) (hl : ds.length < LIM) : mDrop (mM1 tokL gApp (mVar 1) m) (R5d ns a2 a3 a4) (DH ds) = some (.nx (R5d ns a2 a3 a4) (DH (ds ++ [v]))) := by
  rw [append_of (k := 0) (ws := LI ds) (w := .d (.int v)) (var_of rfl) rfl e (by rw [LI_len]; exact hl)]
  unfold DH
  rw [LI_app]
  rfl
theorem inner_ok {ns : List Int} {a2 a4 : Option A} {c : Int} {ds : List Int} (hd : ∀ v ∈ ds, Dr v) (hl : ds.length ≤ 4000) : ∃ c' b4 ds', L1__law_draws (R5d ns a2 (some (.d (.int c))) a4) (DH ds) = some (.nx (R5d ns a2 (some (.d (.int c'))) b4) (DH ds')) ∧ (∀ v ∈ ds', Dr v) ∧ ds'.length ≤ ds.length + 60 := by
  obtain ⟨τ', h', e, c', b4, ds', rfl, rfl, i1, i2⟩ := forL_inv (g := mgName 4) (mb := B1__law_draws) (ws := rangeA 0 60)
    (fun n τ h => ∃ c' b4 ds', τ = R5d ns a2 (some (.d (.int c'))) b4 ∧ h = DH ds' ∧ (∀ v ∈ ds', Dr v) ∧ ds'.length ≤ ds.length + n) (τ := R5d ns a2 (some (.d (.int c))) a4) (h := DH ds) ⟨c, a4, ds, rfl, rfl, hd, Nat.le_refl _⟩
    (fun n w τ h hw i => by
      obtain ⟨c', b4, ds', rfl, rfl, i1, i2⟩ := i
      obtain ⟨hn, _⟩ := rangeA_get hw
      have t : mTB (mBin gGt (mVar 3) (mC (.int 0))) (R5d ns a2 (some (.d (.int c'))) (some w)) (DH ds') = some (.ok (decide (0 < c')) (DH ds')) := gt_of (var_of rfl) rfl
      by_cases z : 0 < c'
      · rw [decide_eq_true z] at t
        refine ⟨R5d ns a2 (some (.d (.int c'))) (some w), R5d ns a2 (some (.d (.int (c' / 9973)))) (some w), DH (ds' ++ [c' % 9973]), rfl, .inl ?_, _, _, _, rfl, rfl, dr_snoc i1 ⟨by omega, by omega⟩, by rw [List.length_append, List.length_singleton]; omega⟩
        unfold B1__law_draws
        rw [if_tt t, seq_nx (app_draw (v := c' % 9973) (mod_of (int_of (var_of rfl)) rfl (by decide)) (by show _ < 16777216; omega))]
        exact set_of (div_of (var_of rfl) rfl rfl)
      · rw [decide_eq_false z] at t
        refine ⟨R5d ns a2 (some (.d (.int c'))) (some w), R5d ns a2 (some (.d (.int c'))) (some w), DH ds', rfl, .inl ?_, _, _, _, rfl, rfl, i1, by omega⟩
        unfold B1__law_draws
        rw [if_ff t]
        rfl) (by rw [rangeA_len]; show 60 ≤ 16777216; decide)
  rw [rangeA_len] at i2
  refine ⟨c', b4, ds', ?_, i1, i2⟩
  unfold L1__law_draws
  rw [mFor_of (nx := nxL (rangeA 0 60)) (h1 := DH ds) rfl]
  exact e
theorem pow_ok (τ : Sl) (h : Hq) : mBin gPow (mC (.int 10)) (mC (.int 18)) τ h = some (.ok (.d (.int 1000000000000000000)) h) := by
  rw [bin_of (a := .d (.int 10)) (b := .d (.int 18)) (h1 := h) (h2 := h) rfl rfl]
  unfold gPow gII
  dsimp only
  rw [if_pos (by decide +kernel)]
  rfl
theorem draws_ok {ns : List Int} (hl : ns.length ≤ 63) (hb : ∀ z ∈ ns, Builtin.Int.intBits z ≤ 1048576) : ∃ ds, Drs ds ∧ ∀ (τ : Sl) (h : Hq), τ[0]? = some (some (.d (.scr ns))) → mCallP sem__law_draws (lenIs 1 (maCons (mVar 0) maNil)) τ h = some (.ok (.d (LD ds)) h) := by
  obtain ⟨τ', h', e, a2, a3, a4, ds, rfl, rfl, i1, i2⟩ := forL_inv (g := mgName 2) (mb := B2__law_draws) (ws := rangeA 0 (if (ns.length : Int) < 63 then (ns.length : Int) else 63).toNat)
    (fun n τ h => ∃ a2 a3 a4 ds, τ = R5d ns a2 a3 a4 ∧ h = DH ds ∧ (∀ v ∈ ds, Dr v) ∧ ds.length ≤ 60 * n) (τ := R5d ns none none none) (h := DH []) ⟨none, none, none, [], rfl, rfl, (fun v hv => by cases hv), Nat.le_refl _⟩
    (fun n w τ h hw i => by
      obtain ⟨a2, a3, a4, ds, rfl, rfl, i1, i2⟩ := i
      obtain ⟨hn, rfl⟩ := rangeA_get hw
      have hnl : n < ns.length ∧ n < 63 := by split at hn <;> omega
      have ez : ns[n]? = some ns[n] := List.getElem?_eq_getElem hnl.1
      have hbz := bits_log (hb _ (List.getElem_mem hnl.1))
      generalize ns[n] = c at ez hbz
      have e1 : mSet 3 (mUn gInt (mBin gGet (mVar 0) (mVar 2))) (R5d ns (some (.d (.int (0 + ((n : Nat) : Int))))) a3 a4) (DH ds) = some (.nx (R5d ns (some (.d (.int (0 + ((n : Nat) : Int))))) (some (.d (.int c))) a4) (DH ds)) := by
        refine set_of (int_of ?_)
        rw [bin_of (var_of rfl) (var_of rfl)]
        show (match atI ns (0 + ((n : Nat) : Int)) with | some n => some (Rs.ok (A.d (D.int n)) (DH ds)) | none => none) = _
        rw [Int.zero_add, Tq.atI_nat ez]
      have t : mTB (mBin gLt (mVar 3) (mBin gPow (mC (.int 10)) (mC (.int 18)))) (R5d ns (some (.d (.int (0 + ((n : Nat) : Int))))) (some (.d (.int c))) a4) (DH ds) = some (.ok (decide (c < 1000000000000000000)) (DH ds)) := lt_of (var_of rfl) (pow_ok _ _)
      by_cases z : c < 1000000000000000000
      · rw [decide_eq_true z] at t
        refine ⟨R5d ns (some (.d (.int (0 + ((n : Nat) : Int))))) a3 a4, R5d ns (some (.d (.int (0 + ((n : Nat) : Int))))) (some (.d (.int c))) a4, DH (ds ++ [mix c (0 + ((n : Nat) : Int))]), rfl, .inl ?_, _, _, _, _, rfl, rfl, dr_snoc i1 (mix_rng _ _), by rw [List.length_append, List.length_singleton]; omega⟩
        unfold B2__law_draws
        rw [seq_nx e1, if_tt t]
        exact app_draw (mixp_ok hbz (by omega) (var_of rfl) (var_of rfl)) (by show _ < 16777216; omega)
      · rw [decide_eq_false z] at t
        obtain ⟨c', b4, ds', x1, x2, x3⟩ := inner_ok (ns := ns) (a2 := some (.d (.int (0 + ((n : Nat) : Int))))) (a4 := a4) (c := c) i1 (by omega)
        refine ⟨R5d ns (some (.d (.int (0 + ((n : Nat) : Int))))) a3 a4, R5d ns (some (.d (.int (0 + ((n : Nat) : Int))))) (some (.d (.int c'))) b4, DH ds', rfl, .inl ?_, _, _, _, _, rfl, rfl, x2, by omega⟩
        unfold B2__law_draws
        rw [seq_nx e1, if_ff t]
        exact x1) (by rw [rangeA_len]; show _ ≤ 16777216; split <;> omega)
  rw [rangeA_len] at i2
  refine ⟨ds, ⟨by split at i2 <;> omega, i1⟩, fun τ h e0 => callP_of (ds := [.scr ns]) (len_of (n := 1) (cons_of (r := []) (var_of e0) rfl) rfl) (runB_rt rfl (w := .r 0) (h1 := DH ds) ?_) (view_LI rfl)⟩
  show b__law_draws [some (.d (.scr ns)), none, none, none, none] [] = _
  unfold b__law_draws
  rw [seq_nx (τ1 := R5d ns none none none) (h1 := DH []) rfl]
  rw [seq_nx (τ1 := R5d ns a2 a3 a4) (h1 := DH ds) (by
    unfold L2__law_draws
    rw [mFor_of (h1 := DH []) (mRange1_of (j := if (ns.length : Int) < 63 then (ns.length : Int) else 63) (by
      rw [bin_of (a := .d (.int 63)) (b := .d (.int (ns.length : Nat))) rfl (by rw [un_of (var_of rfl)]; rfl)]
      rfl) (by split <;> omega) (by split <;> omega))]
    exact e)]
  rfl
end K02

set_option maxHeartbeats 1000000
namespace K02
open PySem PySem.Spec PyProof.Rows L2 Tq
/-- data that _law_same walks, so deep -/
inductive Sm : Nat → D → Prop
  | non {n : Nat} : Sm (n + 1) .non
  | bl {n : Nat} (b : Bool) : Sm (n + 1) (.bl b)
  | int {n : Nat} (i : Int) : Sm (n + 1) (.int i)
  | str {n : Nat} {x : Str} : PyData.strOk x = true → Sm (n + 1) (.str x)
  | tup {n : Nat} {ds : List D} : (∀ d ∈ ds, Sm n d) → ds.length ≤ LIM → Sm (n + 1) (.tup ds)
  | lst {n : Nat} {ds : List D} : (∀ d ∈ ds, Sm n d) → ds.length ≤ LIM → Sm (n + 1) (.lst ds)
theorem isi_of {T n : String} {τ : Sl} {h : Hq} {i : Nat} {d : D} (e : τ[i]? = some (some (.d d))) (t : tyD d = some n) : mUn (gIsi T) (mVar i) τ h = some (.ok (.d (.bl (isiN T n))) h) := by
  rw [un_of (var_of e)]
  unfold gIsi tyA
  dsimp only
  rw [t]
theorem isi2_of {T U n : String} {τ : Sl} {h : Hq} {i : Nat} {d : D} (e : τ[i]? = some (some (.d d))) (t : tyD d = some n) : mUn (gIsi2 T U) (mVar i) τ h = some (.ok (.d (.bl (isiN T n || isiN U n))) h) := by
  rw [un_of (var_of e)]
  unfold gIsi2 tyA
  dsimp only
  rw [t]
theorem tru_of {m : E A} {τ : Sl} {h h1 : Hq} {b : Bool} (e : m τ h = some (.ok (.d (.bl b)) h1)) : mTru m τ h = some (.ok b h1) := by
  unfold mTru
  rw [e, bd_ok]
  rfl
theorem nebl_of {τ : Sl} {h : Hq} {b : Bool} {m1 m2 : E A} (e1 : m1 τ h = some (.ok (.d (.bl b)) h)) (e2 : m2 τ h = some (.ok (.d (.bl b)) h)) : mTB (mBin (gEq true) m1 m2) τ h = some (.ok false h) := tb_of (eqv_of e1 e2 (vw_d _ _ _) (vw_d _ _ _) (eqD_same (shp_fok rfl)))
abbrev RR (d : D) (k : Option A) : Sl := [some (.d d), some (.d d), k]
theorem andv_of {m1 m2 : E A} {τ : Sl} {h : Hq} {b : Bool} (e1 : m1 τ h = some (.ok (.d (.bl true)) h)) (e2 : m2 τ h = some (.ok (.d (.bl b)) h)) : mAndV m1 m2 τ h = some (.ok (.d (.bl b)) h) := by
  unfold mAndV
  rw [e1, bd_ok]
  exact e2
section
variable {d : D} {h : Hq} {sem : Sem1}
/-- what is no list and no tuple -/
theorem atom_pre {n : String} (t : tyD d = some n) (hn : (isiN "list" n || isiN "tuple" n) = false) {m m1 : MS} : mSeq (mIf (mTru (mUn (gIsi2 "list" "tuple") (mVar 1))) m1 mNx) m (RR d none) [] = m (RR d none) [] := by
  rw [seq_nx (τ1 := RR d none) (h1 := []) (by
    rw [if_ff (h1 := []) (by rw [tru_of (isi2_of (d := d) rfl t), hn])]
    rfl)]
theorem non_pre (hd : d ≠ .non) {m m1 : MS} : mSeq (mIf (mTB (mBin (gIs false) (mVar 1) (mC .non))) m1 mNx) m (RR d none) [] = m (RR d none) [] := by
  rw [seq_nx (τ1 := RR d none) (h1 := []) (by
    rw [if_ff (h1 := []) (tb_of (k := false) (by
      rw [bin_of (a := .d d) (b := .d .non) (h1 := []) (h2 := []) (var_of rfl) rfl]
      cases d <;> first | rfl | exact absurd rfl hd))]
    rfl)]
theorem isi_pre {T n : String} (t : tyD d = some n) (hn : isiN T n = false) {m m1 : MS} : mSeq (mIf (mTru (mUn (gIsi T) (mVar 1))) m1 mNx) m (RR d none) [] = m (RR d none) [] := by
  rw [seq_nx (τ1 := RR d none) (h1 := []) (by
    rw [if_ff (h1 := []) (by rw [tru_of (isi_of (d := d) rfl t), hn])]
    rfl)]
theorem self_eq (hs : d.shp = true) : mBin (gEq false) (mVar 0) (mVar 1) (RR d none) [] = some (.ok (.d (.bl true)) []) := eqv_of (var_of rfl) (var_of rfl) (vw_d _ _ _) (vw_d _ _ _) (eqD_same hs)
theorem isint_ok (i : Int) : sem__law_is_integer [.d (.int i)] [] = some (.ok (.d (.bl true)) []) := by
  refine runB_rt rfl ?_
  show b__law_is_integer [some (.d (.int i))] [] = _
  unfold b__law_is_integer
  refine ret_of (andv_of ?_ ?_)
  · rw [isi_of (d := .int i) (n := "int") rfl rfl, show isiN "int" "int" = true from by decide +kernel]
  · unfold mNotV
    rw [isi_of (d := .int i) (n := "int") rfl rfl, show isiN "bool" "int" = false from by decide +kernel, bd_ok]
    rfl
/-- a list or a tuple, item by item -/
theorem seq_ok {n : String} {ds : List D} (t : tyD d = some n) (hn : (isiN "list" n || isiN "tuple" n) = true) (hd : lenA [] (.d d) = some ds.length) (hg : ∀ (i : Nat) (x : D), ds[i]? = some x → gGet (.d d) (.d (.int (i : Nat))) [] = some (.ok (.d x) [])) (hl : ds.length ≤ LIM)
    (ih : ∀ x ∈ ds, sem [.d x, .d x] [] = some (.ok (.d (.bl true)) [])) : b__law_same sem (RR d none) [] = some (.rt (.d (.bl true)) []) := by
  unfold b__law_same
  refine seq_rt ?_
  rw [if_tt (h1 := []) (by rw [tru_of (isi2_of (d := d) rfl t), hn])]
  rw [seq_nx (τ1 := RR d none) (h1 := []) (by
    rw [if_ff (h1 := []) (orff_of (nebl_of (isi_of (d := d) rfl t) (isi_of (d := d) rfl t)) (nebl_of (isi_of (d := d) rfl t) (isi_of (d := d) rfl t)))]
    rfl)]
  have el : ∀ (i : Nat) (k : Option A), (RR d k)[i]? = some (some (.d d)) → mUn gLen (mVar i) (RR d k) [] = some (.ok (.d (.int (ds.length : Nat))) []) := fun i k e => by
    rw [un_of (var_of e)]
    unfold gLen
    rw [hd]
  rw [seq_nx (τ1 := RR d none) (h1 := []) (by
    rw [if_ff (h1 := []) (by rw [tb_of (nei_of (el 0 none rfl) (el 1 none rfl)), decide_eq_true rfl]; rfl)]
    rfl)]
  obtain ⟨τ', h', e, ⟨k, rfl⟩, rfl⟩ := forL_inv (g := mgName 2) (mb := B1__law_same sem) (ws := rangeA 0 ds.length) (fun n τ h => (∃ k, τ = RR d k) ∧ h = []) (τ := RR d none) (h := []) ⟨⟨none, rfl⟩, rfl⟩
    (fun n w τ h hw i => by
      obtain ⟨⟨k, rfl⟩, rfl⟩ := i
      obtain ⟨hn, rfl⟩ := rangeA_get hw
      have ez : ds[n]? = some ds[n] := List.getElem?_eq_getElem hn
      have hx := ih _ (List.getElem_mem hn)
      have hg' := hg n _ ez
      generalize ds[n] = x at hx hg'
      refine ⟨RR d (some (.d (.int (0 + ((n : Nat) : Int))))), RR d (some (.d (.int (0 + ((n : Nat) : Int))))), [], rfl, .inl ?_, ⟨_, rfl⟩, rfl⟩
      have eg : ∀ i, (RR d (some (.d (.int (0 + ((n : Nat) : Int))))))[i]? = some (some (.d d)) → mBin gGet (mVar i) (mVar 2) (RR d (some (.d (.int (0 + ((n : Nat) : Int)))))) [] = some (.ok (.d x) []) := fun i e => by
        rw [bin_of (var_of e) (var_of rfl), Int.zero_add]
        exact hg'
      unfold B1__law_same
      rw [if_ff (h1 := []) (tru_bl (b := true) (callP_of (ds := [x, x]) (len_of (n := 2) (cons_of (eg 0 rfl) (cons_of (r := []) (eg 1 rfl) rfl)) rfl) hx (vw_d _ _ _)))]
      rfl) (by rw [rangeA_len]; exact hl)
  rw [seq_nx (τ1 := RR d k) (h1 := []) (by
    unfold L1__law_same
    rw [mFor_of (h1 := []) (mRange1_of (el 1 none rfl) (by omega) (by have : LIM = 16777216 := rfl; omega)), Int.toNat_natCast]
    exact e)]
  rfl
end
theorem gGet_lst {ds : List D} {i : Nat} {x : D} (e : ds[i]? = some x) : gGet (.d (.lst ds)) (.d (.int (i : Nat))) [] = some (.ok (.d x) []) := by
  show (match atI (ds.map A.d) (i : Int) with | some w => some (Rs.ok w []) | none => none) = _
  rw [Tq.atI_nat (x := A.d x) (by rw [List.getElem?_map, e]; rfl)]
theorem gGet_tup {ds : List D} {i : Nat} {x : D} (e : ds[i]? = some x) : gGet (.d (.tup ds)) (.d (.int (i : Nat))) [] = some (.ok (.d x) []) := by
  show (match atI (ds.map A.d) (i : Int) with | some w => some (Rs.ok w []) | none => none) = _
  rw [Tq.atI_nat (x := A.d x) (by rw [List.getElem?_map, e]; rfl)]
theorem same_ok : ∀ {n : Nat} {d : D}, Sm n d → sem__law_same n [.d d, .d d] [] = some (.ok (.d (.bl true)) []) := by
  intro n
  induction n with
  | zero => intro d s; cases s
  | succ n ih =>
    intro d s
    refine runB_rt rfl ?_
    show b__law_same (sem__law_same n) (RR d none) [] = _
    cases s with
    | non =>
      unfold b__law_same
      rw [atom_pre (d := .non) (n := "NoneType") rfl (by decide +kernel)]
      exact seq_rt (by rw [if_tt (h1 := []) rfl]; rfl)
    | bl b =>
      unfold b__law_same
      rw [atom_pre (d := .bl b) (n := "bool") rfl (by decide +kernel), non_pre (by simp)]
      refine seq_rt ?_
      rw [if_tt (h1 := []) (by rw [tru_of (isi_of (d := .bl b) (n := "bool") rfl rfl), show isiN "bool" "bool" = true from by decide +kernel])]
      refine ret_of (andv_of ?_ (self_eq (shp_fok rfl)))
      rw [isi_of (d := .bl b) (n := "bool") rfl rfl, show isiN "bool" "bool" = true from by decide +kernel]
    | int i =>
      unfold b__law_same
      rw [atom_pre (d := .int i) (n := "int") rfl (by decide +kernel), non_pre (by simp), isi_pre (d := .int i) (n := "int") rfl (by decide +kernel)]
      refine seq_rt ?_
      rw [if_tt (h1 := []) (by rw [tru_of (isi_of (d := .int i) (n := "int") rfl rfl), show isiN "int" "int" = true from by decide +kernel])]
      exact ret_of (andv_of (callP_of (ds := [.int i]) (len_of (n := 1) (cons_of (r := []) (var_of rfl) rfl) rfl) (isint_ok i) (vw_d _ _ _)) (self_eq (shp_fok rfl)))
    | str hx =>
      rename_i x
      unfold b__law_same
      rw [atom_pre (d := .str x) (n := "str") rfl (by decide +kernel), non_pre (by simp), isi_pre (d := .str x) (n := "str") rfl (by decide +kernel), isi_pre (d := .str x) (n := "str") rfl (by decide +kernel)]
      refine ret_of (andv_of ?_ (self_eq (shp_fok hx)))
      rw [isi_of (d := .str x) (n := "str") rfl rfl, show isiN "str" "str" = true from by decide +kernel]
    | tup hs hl =>
      rename_i ds
      exact seq_ok (d := .tup ds) (n := "tuple") (ds := ds) rfl (by decide +kernel) (by show some ((ds.map A.d).length) = _; rw [List.length_map]) (fun i x e => gGet_tup e) hl fun x hx => ih (hs x hx)
    | lst hs hl =>
      rename_i ds
      exact seq_ok (d := .lst ds) (n := "list") (ds := ds) rfl (by decide +kernel) (by show some ((ds.map A.d).length) = _; rw [List.length_map]) (fun i x e => gGet_lst e) hl fun x hx => ih (hs x hx)
end K02

set_option maxHeartbeats 1000000
namespace K02
open PySem PySem.Spec PyProof.Rows L2 Tq
def atv (ds : List Int) (i : Int) : Int := match sem__law_at [.d (LD ds), .d (.int i)] [] with | some (.ok (.d (.int v)) _) => v | _ => 0
theorem atq_ok {ds : List Int} (hd : Drs ds) {i : Int} (hi : 0 ≤ i ∧ i < 100000000) : sem__law_at [.d (LD ds), .d (.int i)] [] = some (.ok (.d (.int (atv ds i))) []) ∧ Dr (atv ds i) := by
  obtain ⟨v, e, r⟩ := at_ok hd hi
  have : atv ds i = v := by unfold atv; rw [e]
  rw [this]
  exact ⟨e, r⟩
theorem atr_ok {ds : List Int} (hd : Drs ds) {i : Int} (hi : 0 ≤ i ∧ i < 100000000) {τ : Sl} {h : Hq} {m1 m2 : E A} (e1 : m1 τ h = some (.ok (.d (LD ds)) h)) (e2 : m2 τ h = some (.ok (.d (.int i)) h)) : mCallP sem__law_at (lenIs 2 (maCons m1 (maCons m2 maNil))) τ h = some (.ok (.d (.int (atv ds i))) h) :=
  callP_of (ds := [LD ds, .int i]) (len_of (n := 2) (cons_of e1 (cons_of (r := []) e2 rfl)) rfl) (atq_ok hd hi).1 (vw_d _ _ _)
structure Row where
  a : Nat
  n : Int
  hs : List Int
  cap : D
  pubs : List D
  parts : List D
def rD (r : Row) : D := .lst [.int (r.a : Nat), .int r.n, LD r.hs, r.cap, .lst r.pubs, .lst r.parts]
def PartOk (p : D) : Prop := p = .non ∨ ∃ ds, p = .tup ds ∧ ds.length ≤ 100 ∧ ∀ x ∈ ds, Sm 4 x
structure RowOk (r : Row) : Prop where
  a : r.a < r.hs.length
  l : r.hs.length ≤ 6
  n : 1 ≤ r.n ∧ r.n < 100000
  h : ∀ v ∈ r.hs, Dr v
  c : Sm 6 r.cap
  p : r.pubs.length ≤ 4 ∧ ∀ x ∈ r.pubs, Sm 5 x
  q : r.parts.length ≤ 8 ∧ ∀ x ∈ r.parts, PartOk x
theorem cut_mem {α : Type} {xs : List α} {lo hi : Option Int} {x : α} (h : x ∈ cut xs lo hi) : x ∈ xs := by
  unfold cut at h
  exact List.mem_of_mem_drop (List.mem_of_mem_take h)
theorem slm_of {τ : Sl} {h : Hq} {ds : List D} {m : E A} {ml mh : E (Option Int)} {lo hi : Option Int} (hl : ds.length ≤ LIM) (e : m τ h = some (.ok (.d (.lst ds)) h)) (e1 : ml τ h = some (.ok lo h)) (e2 : mh τ h = some (.ok hi h)) : mSl false m ml mh τ h = some (.ok (.d (.lst (cut ds lo hi))) h) := by
  unfold mSl
  rw [e, bd_ok, e1, bd_ok, e2, bd_ok]
  show mkL false (cut (ds.map A.d) lo hi) h = _
  rw [map_cut]
  exact mkL_d (Nat.le_trans (cut_len _ _ _) hl)
theorem moS_of {τ : Sl} {h : Hq} {m : E A} {i : Int} (e : m τ h = some (.ok (.d (.int i)) h)) : moS m τ h = some (.ok (some i) h) := by
  unfold moS
  rw [e]
  rfl
theorem lst_of {τ : Sl} {h : Hq} {ds : List D} {mr : E (List A)} (e : mr τ h = some (.ok (ds.map A.d) h)) (hl : ds.length ≤ LIM) : mLst false mr τ h = some (.ok (.d (.lst ds)) h) := by
  unfold mLst
  rw [e, bd_ok]
  exact mkL_d hl
theorem tup_of {τ : Sl} {h : Hq} {ds : List D} {mr : E (List A)} (e : mr τ h = some (.ok (ds.map A.d) h)) (hl : ds.length ≤ LIM) : mTup mr τ h = some (.ok (.d (.tup ds)) h) := by
  unfold mTup
  rw [e, bd_ok]
  unfold mkT
  rw [if_pos (by rw [List.length_map]; exact hl), allD_map]
theorem dcons_of {τ : Sl} {h : Hq} {d : D} {ds : List D} {m : E A} {mr : E (List A)} (e : m τ h = some (.ok (.d d) h)) (e2 : mr τ h = some (.ok (ds.map A.d) h)) : maCons m mr τ h = some (.ok ((d :: ds).map A.d) h) := cons_of e e2
theorem dnil_of {τ : Sl} {h : Hq} : maNil τ h = some (.ok (([] : List D).map A.d) h) := rfl
abbrev R15 (ds : List Int) (c s l : Int) (a6 a7 a8 a9 a10 a11 a12 a13 a14 : Option A) : Sl := [some (.d (LD ds)), some (.d (.int c)), some (.d (.int s)), some (.d (.int l)), some (.r 0), some (.r 1), a6, a7, a8, a9, a10, a11, a12, a13, a14]
def RH (rows : List Row) (nums : List Int) : Hq := [.lst ((rows.map rD).map A.d), .lst (LI nums)]
def heardF (ds : List Int) (k l : Int) (s : Nat) : List Int := (List.range s).map fun j => atv ds (12 + 9 * k + (0 + ((j : Nat) : Int))) % l
def hF (ds : List Int) (k l : Int) : A → A
  | .d (.int j) => .d (.int (atv ds (12 + 9 * k + j) % l))
  | w => w
theorem c1_ok {ds : List Int} (hd : Drs ds) {c l k : Int} {s : Nat} (hs : s ≤ 6) (hl : 0 < l) (hk : 0 ≤ k ∧ k < 200) {a7 a8 a9 a10 a11 a12 a13 a14 : Option A} {h : Hq} : C1__law_rows (R15 ds c s l (some (.d (.int k))) a7 a8 a9 a10 a11 a12 a13 a14) h = some (.ok (.d (LD (heardF ds k l s))) h) := by
  unfold C1__law_rows
  rw [lc_of (ws := rangeA 0 s) (h1 := h) (hF ds k l) (mRange1_of (j := (s : Int)) (var_of rfl) (by omega) (by omega)) (fun w hw => by
    obtain ⟨i, hi, rfl⟩ := rangeA_mem hw
    refine ⟨R15 ds c s l (some (.d (.int k))) a7 a8 (some (.d (.int (0 + ((i : Nat) : Int))))) a10 a11 a12 a13 a14, rfl, ?_⟩
    exact mod_of (atr_ok hd (by omega) (var_of rfl) (add_of (add_of rfl (mul_of rfl (var_of rfl) (mul_small (by decide) (by omega)))) (var_of rfl))) (var_of rfl) hl) (by rw [rangeA_len]; show _ ≤ 16777216; omega)]
  rw [rangeA_map]
  have : ((List.range s).map fun i => hF ds k l (.d (.int (0 + ((i : Nat) : Int))))) = LI (heardF ds k l s) := by
    unfold LI heardF
    rw [List.map_map, List.map_map]
    rfl
  rw [this]
  exact mkL_i (by unfold heardF; rw [List.length_map, List.length_range]; show _ ≤ 16777216; omega)
def rights (p : Int) : D := .tup [.bl true, .bl (decide (p % 2 = 0)), .bl false]
theorem c2_ok {ds : List Int} {c l s p : Int} {a6 a7 a8 a9 a10 a12 a13 a14 : Option A} {h : Hq} : C2__law_rows (R15 ds c s l a6 a7 a8 a9 a10 (some (.d (.int p))) a12 a13 a14) h = some (.ok (.d (.lst [rights p, rights p, rights p, rights p])) h) := by
  unfold C2__law_rows
  rw [lc_of (ws := rangeA 0 4) (h1 := h) (fun _ => .d (rights p)) rfl (fun w hw => by
    refine ⟨R15 ds c s l a6 a7 a8 (some w) a10 (some (.d (.int p))) a12 a13 a14, rfl, ?_⟩
    exact tup_of (dcons_of rfl (dcons_of (eqi_of (mod_of (var_of rfl) rfl (by decide)) rfl) (dcons_of rfl dnil_of))) (by show 3 ≤ 16777216; decide)) (by decide)]
  rfl
theorem strok (z : Str) (h : PyData.strOk z = true) {n : Nat} : Sm (n + 1) (.str z) := .str h
end K02

set_option maxHeartbeats 1000000
namespace K02
open PySem PySem.Spec PyProof.Rows L2 Tq
theorem setI_of {τ : Sl} {h : Hq} {i j k p : Nat} {xs : List Int} {z : Int} {mv : E A} (ei : τ[i]? = some (some (.r k))) (ej : τ[j]? = some (some (.d (.int (p : Nat))))) (ev : mv τ h = some (.ok (.d (.int z)) h)) (e : h[k]? = some (.lst (LI xs))) (hp : p < xs.length) : mSetI true (mVar i) (mVar j) mv τ h = some (.nx τ (h.set k (.lst (LI (xs.set p z))))) := by
  unfold mSetI
  rw [ev, sb_ok, var_of ei, sb_ok, var_of ej, sb_ok, if_pos (by unfold isLst; dsimp only; rw [e])]
  unfold putA
  dsimp only
  rw [e]
  dsimp only
  have : ixN (LI xs).length (p : Int) = some p := by
    unfold ixN
    rw [LI_len, if_pos (Int.natCast_nonneg p), if_pos (by omega), Int.toNat_natCast]
  rw [this]
  dsimp only
  rw [LI_set]
structure RInv (rows : List Row) (nums : List Int) (n s : Nat) : Prop where
  l : rows.length = n
  k : nums.length = 6
  o : ∀ r ∈ rows, RowOk r ∧ r.hs.length = s
  b : ∀ v ∈ nums, 0 ≤ v ∧ v ≤ 20 * (n : Int)
  m : ∀ r ∈ rows, ∃ v, nums[r.a]? = some v ∧ r.n ≤ v
  u : rows.Pairwise fun p q => p.a = q.a → p.n < q.n
def capD (w : Int) : D := .tup [.int 0, .int (1 + w % 5), .int 0]
theorem pickD {x y : D} {i : Int} (h0 : 0 ≤ i) (h2 : i < 2) (h : Hq) : ∃ v, gGet (.d (.lst [x, y])) (.d (.int i)) h = some (.ok (.d v) h) ∧ (v = x ∨ v = y) := by
  rcases (by omega : i = 0 ∨ i = 1) with e | e
  · exact ⟨x, by rw [e]; rfl, .inl rfl⟩
  · exact ⟨y, by rw [e]; rfl, .inr rfl⟩
theorem sm_tup {n : Nat} {ds : List D} (h : ∀ d ∈ ds, Sm n d) (hl : ds.length ≤ 100) : Sm (n + 1) (.tup ds) := .tup h (by show _ ≤ 16777216; omega)
theorem sm2 {n : Nat} {x y : D} (hx : Sm n x) (hy : Sm n y) : ∀ d ∈ [x, y], Sm n d := fun d hd => by
  simp only [List.mem_cons, List.not_mem_nil, or_false] at hd
  rcases hd with rfl | rfl
  · exact hx
  · exact hy
theorem sm3 {n : Nat} {x y z : D} (hx : Sm n x) (hy : Sm n y) (hz : Sm n z) : ∀ d ∈ [x, y, z], Sm n d := fun d hd => by
  simp only [List.mem_cons, List.not_mem_nil, or_false] at hd
  rcases hd with rfl | rfl | rfl
  · exact hx
  · exact hy
  · exact hz
theorem sm1 {n : Nat} {x : D} (hx : Sm n x) : ∀ d ∈ [x], Sm n d := fun d hd => by rw [List.mem_singleton.mp hd]; exact hx
theorem sm4 {n : Nat} {x y z w : D} (hx : Sm n x) (hy : Sm n y) (hz : Sm n z) (hw : Sm n w) : ∀ d ∈ [x, y, z, w], Sm n d := fun d hd => by
  simp only [List.mem_cons, List.not_mem_nil, or_false] at hd
  rcases hd with rfl | rfl | rfl | rfl
  · exact hx
  · exact hy
  · exact hz
  · exact hw
def sealD : D := .tup [.str "seal"]
def rev1 (k : Int) : D := .tup [.str "revoke", .tup [.int 0, .int 1, .int k]]
def rev2 : D := .tup [.str "revoke", .non]
def grantD (p : Int) : D := .tup [.str "grant", .int (p % 6), .tup [rights p, rights p, rights p, rights p]]
def tabD : D := .tup [.tup [.str "table", .str "t"]]
def undoD : D := .tup [.tup [.str "undo", .tup [.int 0, .int 1]], .tup [.str "drop", .tup [.int 0, .int 1, .int 0]]]
def pubs0 (k p : Int) : List D := [sealD, rev1 k, rev2, grantD p]
def parts0 : List D := [.non, .tup [], tabD, undoD]
theorem pubs0_sm (k p : Int) : ∀ x ∈ pubs0 k p, Sm 5 x := by
  have hr : Sm 3 (rights p) := sm_tup (sm3 (.bl _) (.bl _) (.bl _)) (by show 3 ≤ 100; decide)
  exact sm4 (sm_tup (sm1 (.str (by decide +kernel))) (by decide)) (sm_tup (sm2 (.str (by decide +kernel)) (sm_tup (sm3 (.int _) (.int _) (.int _)) (by show 3 ≤ 100; decide))) (by show 2 ≤ 100; decide))
    (sm_tup (sm2 (.str (by decide +kernel)) .non) (by decide)) (sm_tup (sm3 (.str (by decide +kernel)) (.int _) (sm_tup (sm4 hr hr hr hr) (by show 4 ≤ 100; decide))) (by show 3 ≤ 100; decide))
theorem parts0_ok : ∀ x ∈ parts0, PartOk x := fun x hx => by
  unfold parts0 at hx
  simp only [List.mem_cons, List.not_mem_nil, or_false] at hx
  rcases hx with rfl | rfl | rfl | rfl
  · exact .inl rfl
  · exact .inr ⟨[], rfl, by decide, fun x hx => by cases hx⟩
  · exact .inr ⟨_, rfl, by decide, sm1 (sm_tup (sm2 (.str (by decide +kernel)) (.str (by decide +kernel))) (by decide))⟩
  · exact .inr ⟨_, rfl, by decide, sm2 (sm_tup (sm2 (.str (by decide +kernel)) (sm_tup (sm2 (.int _) (.int _)) (by decide))) (by decide)) (sm_tup (sm2 (.str (by decide +kernel)) (sm_tup (sm3 (.int _) (.int _) (.int _)) (by decide))) (by decide))⟩
end K02

set_option maxHeartbeats 1000000
namespace K02
open PySem PySem.Spec PyProof.Rows L2 Tq
theorem cut_len4 {xs : List D} {lo hi : Option Int} {n : Nat} (h : xs.length ≤ n) : (cut xs lo hi).length ≤ n := Nat.le_trans (cut_len _ _ _) h
theorem rbody_ok {ds : List Int} (hd : Drs ds) {c l : Int} {s n : Nat} (hs : 1 ≤ s ∧ s ≤ 6) (hl : 0 < l) (hn : n < 151) {a6 a7 a8 a9 a10 a11 a12 a13 a14 : Option A} {rows : List Row} {nums : List Int} (I : RInv rows nums n s) :
    ∃ b7 b8 b9 b10 b11 b12 b13 b14 rows' nums', B1__law_rows (R15 ds c s l (some (.d (.int (n : Nat)))) a7 a8 a9 a10 a11 a12 a13 a14) (RH rows nums) = some (.nx (R15 ds c s l (some (.d (.int (n : Nat)))) b7 b8 b9 b10 b11 b12 b13 b14) (RH rows' nums')) ∧ RInv rows' nums' (n + 1) s := by
  have hL : LIM = 16777216 := rfl
  generalize hk : ((n : Nat) : Int) = k
  have hk2 : 0 ≤ k ∧ k < 151 := by omega
  have e9 : ∀ (τ : Sl) (h : Hq) (j : Int), τ[6]? = some (some (.d (.int k))) → mBin (gAdd false) (mC (.int j)) (mBin gMul (mC (.int 9)) (mVar 6)) τ h = some (.ok (.d (.int (j + 9 * k))) h) := fun τ h j e => add_of rfl (mul_of rfl (var_of e) (mul_small (by decide) (by omega)))
  have at_ : ∀ (τ : Sl) (h : Hq) (j : Int), 0 ≤ j ∧ j < 1000 → τ[0]? = some (some (.d (LD ds))) → τ[6]? = some (some (.d (.int k))) → mCallP sem__law_at (lenIs 2 (maCons (mVar 0) (maCons (mBin (gAdd false) (mC (.int j)) (mBin gMul (mC (.int 9)) (mVar 6))) maNil))) τ h = some (.ok (.d (.int (atv ds (j + 9 * k)))) h) := fun τ h j hj e0 e6 => atr_ok hd (by omega) (var_of e0) (e9 τ h j e6)
  have d10 := (atq_ok hd (i := 10 + 9 * k) (by omega)).2
  have d11 := (atq_ok hd (i := 11 + 9 * k) (by omega)).2
  have d18 := (atq_ok hd (i := 18 + 9 * k) (by omega)).2
  unfold Dr at d10 d11 d18
  have hsp : (0 : Int) < (s : Nat) := by omega
  have m0 := Int.emod_nonneg (atv ds (10 + 9 * k)) (Int.ne_of_gt hsp)
  have m1 := Int.emod_lt_of_pos (atv ds (10 + 9 * k)) hsp
  generalize ha : (atv ds (10 + 9 * k) % (s : Nat)).toNat = a
  have ha1 : atv ds (10 + 9 * k) % (s : Nat) = (a : Int) := by omega
  have has : a < s := by omega
  unfold B1__law_rows
  rw [seq_nx (τ1 := R15 ds c s l (some (.d (.int k))) (some (.d (.int (a : Nat)))) a8 a9 a10 a11 a12 a13 a14) (h1 := RH rows nums) (set_of (by
    rw [← ha1]
    exact mod_of (at_ _ _ 10 (by decide) rfl rfl) (var_of rfl) hsp))]
  have hal : a < nums.length := by rw [I.k]; omega
  have ez : nums[a]? = some nums[a] := List.getElem?_eq_getElem hal
  have hvb := I.b _ (List.getElem_mem hal)
  generalize nums[a] = v at ez hvb
  generalize hz : v + 1 + atv ds (11 + 9 * k) / 997 = z
  have e1 := setI_of (i := 5) (j := 7) (k := 1) (p := a) (xs := nums) (z := z) (h := RH rows nums) (τ := R15 ds c s l (some (.d (.int k))) (some (.d (.int (a : Nat)))) a8 a9 a10 a11 a12 a13 a14) (mv := mBin (gAdd false) (mBin (gAdd false) (mBin gGet (mVar 5) (mVar 7)) (mC (.int 1))) (mBin gDiv (mCallP sem__law_at (lenIs 2 (maCons (mVar 0) (maCons (mBin (gAdd false) (mC (.int 11)) (mBin gMul (mC (.int 9)) (mVar 6))) maNil)))) (mC (.int 997)))) rfl rfl (by
    rw [← hz]
    refine add_of (add_of ?_ rfl) (div_of (at_ _ _ 11 (by decide) rfl rfl) rfl rfl)
    rw [bin_of (var_of rfl) (var_of rfl)]
    exact gGet_c (k := 1) (ws := LI nums) rfl (by rw [LI_get, ez]; rfl)) rfl hal
  rw [seq_nx e1]
  generalize hnums : nums.set a z = nums'
  have ez' : nums'[a]? = some z := by rw [← hnums]; exact List.getElem?_set_self hal
  rw [show (RH rows nums).set 1 (.lst (LI nums')) = RH rows nums' from rfl]
  rw [seq_nx (τ1 := R15 ds c s l (some (.d (.int k))) (some (.d (.int (a : Nat)))) (some (.d (LD (heardF ds k l s)))) a9 a10 a11 a12 a13 a14) (h1 := RH rows nums') (set_of (c1_ok hd hs.2 hl (by omega)))]
  generalize hw : atv ds (18 + 9 * k) = w at d18
  have ew : ∀ (τ : Sl) (h : Hq), τ[0]? = some (some (.d (LD ds))) → τ[6]? = some (some (.d (.int k))) → mCallP sem__law_at (lenIs 2 (maCons (mVar 0) (maCons (mBin (gAdd false) (mC (.int 18)) (mBin gMul (mC (.int 9)) (mVar 6))) maNil))) τ h = some (.ok (.d (.int w)) h) := fun τ h e0 e6 => by rw [← hw]; exact at_ τ h 18 (by decide) e0 e6
  obtain ⟨cap, ecap, hcap⟩ := pickD (x := .non) (y := capD w) (i := w / 5 % 2) (by omega) (by omega) (RH rows nums')
  rw [seq_nx (τ1 := R15 ds c s l (some (.d (.int k))) (some (.d (.int (a : Nat)))) (some (.d (LD (heardF ds k l s)))) a9 (some (.d cap)) a11 a12 a13 a14) (h1 := RH rows nums') (set_of (by
    rw [bin_of (a := .d (.lst [.non, capD w])) (b := .d (.int (w / 5 % 2))) (h1 := RH rows nums') (h2 := RH rows nums') (lst_of (dcons_of rfl (dcons_of (tup_of (dcons_of rfl (dcons_of (add_of rfl (mod_of (ew _ _ rfl rfl) rfl (by decide))) (dcons_of rfl dnil_of))) (by show 3 ≤ 16777216; decide)) dnil_of)) (by show 2 ≤ 16777216; decide)) (mod_of (div_of (ew _ _ rfl rfl) rfl rfl) rfl (by decide))]
    exact ecap))]
  rw [seq_nx (τ1 := R15 ds c s l (some (.d (.int k))) (some (.d (.int (a : Nat)))) (some (.d (LD (heardF ds k l s)))) a9 (some (.d cap)) (some (.d (.int w))) a12 a13 a14) (h1 := RH rows nums') (set_of (ew _ _ rfl rfl))]
  rw [seq_nx (τ1 := R15 ds c s l (some (.d (.int k))) (some (.d (.int (a : Nat)))) (some (.d (LD (heardF ds k l s)))) a9 (some (.d cap)) (some (.d (.int w))) (some (.d (grantD w))) a13 a14) (h1 := RH rows nums') (set_of (tup_of (dcons_of rfl (dcons_of (mod_of (var_of rfl) rfl (by decide)) (dcons_of (by
    rw [un_of c2_ok]
    rfl) dnil_of))) (by show 3 ≤ 16777216; decide)))]
  generalize hp : cut (cut (pubs0 k w) (some (w / 40 % 2)) none) none (some (w / 10 % 4)) = pubs
  have p1 : pubs.length ≤ 4 := by rw [← hp]; exact cut_len4 (cut_len4 (by show 4 ≤ 4; decide))
  have p2 : ∀ x ∈ pubs, Sm 5 x := fun x hx => pubs0_sm k w x (by rw [← hp] at hx; exact cut_mem (cut_mem hx))
  rw [seq_nx (τ1 := R15 ds c s l (some (.d (.int k))) (some (.d (.int (a : Nat)))) (some (.d (LD (heardF ds k l s)))) a9 (some (.d cap)) (some (.d (.int w))) (some (.d (grantD w))) (some (.d (.lst pubs))) a14) (h1 := RH rows nums') (set_of (by
    rw [← hp]
    refine slm_of (Nat.le_trans (cut_len _ _ _) (by show 4 ≤ 16777216; decide)) (slm_of (ds := pubs0 k w) (by show 4 ≤ 16777216; decide) ?_ (moS_of (mod_of (div_of (var_of rfl) rfl rfl) rfl (by decide))) rfl) rfl (moS_of (mod_of (div_of (var_of rfl) rfl rfl) rfl (by decide)))
    exact lst_of (dcons_of rfl (dcons_of (tup_of (dcons_of rfl (dcons_of (tup_of (dcons_of rfl (dcons_of rfl (dcons_of (var_of rfl) dnil_of))) (by show 3 ≤ 16777216; decide)) dnil_of)) (by show 2 ≤ 16777216; decide)) (dcons_of rfl (dcons_of (var_of rfl) dnil_of)))) (by show 4 ≤ 16777216; decide)))]
  rw [seq_nx (τ1 := R15 ds c s l (some (.d (.int k))) (some (.d (.int (a : Nat)))) (some (.d (LD (heardF ds k l s)))) a9 (some (.d cap)) (some (.d (.int w))) (some (.d (grantD w))) (some (.d (.lst pubs))) (some (.d (.lst parts0)))) (h1 := RH rows nums') rfl]
  generalize hq : cut parts0 (some (w / 80 % 4)) none ++ cut parts0 none (some (w / 80 % 4)) = parts
  have q1 : parts.length ≤ 8 := by
    rw [← hq, List.length_append]
    have h1 := cut_len4 (lo := some (w / 80 % 4)) (hi := none) (show parts0.length ≤ 4 by decide)
    have h2 := cut_len4 (lo := none) (hi := some (w / 80 % 4)) (show parts0.length ≤ 4 by decide)
    omega
  have q2 : ∀ x ∈ parts, PartOk x := fun x hx => by
    rw [← hq] at hx
    rcases List.mem_append.mp hx with hx | hx <;> exact parts0_ok x (cut_mem hx)
  have hlen : (heardF ds k l s).length = s := by unfold heardF; rw [List.length_map, List.length_range]
  let r : Row := ⟨a, z, heardF ds k l s, cap, pubs, parts⟩
  have eh : (RH rows nums').set 0 (.lst ((rows.map rD).map A.d ++ [A.d (rD r)])) = RH (rows ++ [r]) nums' := by
    unfold RH
    rw [List.map_append, List.map_append]
    rfl
  rw [append_of (k := 0) (ws := (rows.map rD).map A.d) (w := .d (rD r)) (var_of rfl) rfl (lst_of (ds := [.int (a : Nat), .int z, LD (heardF ds k l s), cap, .lst pubs, .lst parts]) (dcons_of (var_of rfl) (dcons_of (by
    rw [bin_of (a := .r 1) (b := .d (.int (a : Nat))) (h1 := RH rows nums') (h2 := RH rows nums') (var_of rfl) (var_of rfl)]
    exact gGet_c (k := 1) (ws := LI nums') rfl (by rw [LI_get, ez']; rfl)) (dcons_of (var_of rfl) (dcons_of (var_of rfl) (dcons_of (var_of rfl) (dcons_of (by
    rw [bin_of (a := .d (.lst (cut parts0 (some (w / 80 % 4)) none))) (b := .d (.lst (cut parts0 none (some (w / 80 % 4))))) (h1 := RH rows nums') (h2 := RH rows nums') (slm_of (by show 4 ≤ 16777216; decide) (var_of rfl) (moS_of (mod_of (div_of (var_of rfl) rfl rfl) rfl (by decide))) rfl) (slm_of (by show 4 ≤ 16777216; decide) (var_of rfl) rfl (moS_of (mod_of (div_of (var_of rfl) rfl rfl) rfl (by decide))))]
    show mkL false ((cut parts0 (some (w / 80 % 4)) none).map A.d ++ (cut parts0 none (some (w / 80 % 4))).map A.d) (RH rows nums') = _
    rw [← List.map_append, hq]
    exact mkL_d (by omega)) dnil_of)))))) (by show 6 ≤ 16777216; decide)) (by rw [List.length_map, List.length_map, I.l]; show _ < 16777216; omega), eh]
  refine ⟨_, _, _, _, _, _, _, _, rows ++ [r], nums', rfl, ?_⟩
  have hgt : ∀ p ∈ rows, ∃ u, nums'[p.a]? = some u ∧ p.n ≤ u ∧ (p.a = a → p.n < z) := fun p hp => by
    obtain ⟨u, e, hu⟩ := I.m p hp
    by_cases q : p.a = a
    · rw [q, ez] at e
      cases e
      exact ⟨z, by rw [q]; exact ez', by omega, fun _ => by omega⟩
    · exact ⟨u, by rw [← hnums, List.getElem?_set_ne (Ne.symm q)]; exact e, hu, fun x => absurd x q⟩
  refine ⟨by rw [List.length_append, I.l]; rfl, by rw [← hnums, List.length_set]; exact I.k, fun p hp => ?_, fun u hu => ?_, fun p hp => ?_, ?_⟩
  · rcases List.mem_append.mp hp with hp | hp
    · exact I.o p hp
    · rw [List.mem_singleton.mp hp]
      refine ⟨⟨by show a < (heardF ds k l s).length; omega, by show (heardF ds k l s).length ≤ 6; omega, by show 1 ≤ z ∧ z < 100000; omega, fun u hu => ?_, ?_, ⟨p1, p2⟩, ⟨q1, q2⟩⟩, hlen⟩
      · have hu : u ∈ heardF ds k l s := hu
        unfold heardF at hu
        obtain ⟨j, hj, rfl⟩ := List.mem_map.mp hu
        have hj := List.mem_range.mp hj
        have dj := (atq_ok hd (i := 12 + 9 * k + (0 + ((j : Nat) : Int))) (by omega)).2
        unfold Dr at dj ⊢
        have h1 := Int.emod_nonneg (atv ds (12 + 9 * k + (0 + ((j : Nat) : Int)))) (Int.ne_of_gt hl)
        have h2 := Int.emod_lt_of_pos (atv ds (12 + 9 * k + (0 + ((j : Nat) : Int)))) hl
        refine ⟨h1, ?_⟩
        by_cases y : atv ds (12 + 9 * k + (0 + ((j : Nat) : Int))) < l
        · rw [Int.emod_eq_of_lt dj.1 y]; exact dj.2
        · omega
      · show Sm 6 cap
        rcases hcap with rfl | rfl
        · exact .non
        · exact sm_tup (sm3 (.int _) (.int _) (.int _)) (by show 3 ≤ 100; decide)
  · rw [← hnums] at hu
    rcases List.mem_or_eq_of_mem_set hu with hu | hu
    · have := I.b u hu
      omega
    · omega
  · rcases List.mem_append.mp hp with hp | hp
    · obtain ⟨u, e, h1, _⟩ := hgt p hp
      exact ⟨u, e, h1⟩
    · rw [List.mem_singleton.mp hp]
      exact ⟨z, ez', Int.le_refl _⟩
  · rw [List.pairwise_append]
    refine ⟨I.u, List.pairwise_singleton _ _, fun p hp q hq => ?_⟩
    rw [List.mem_singleton.mp hq]
    obtain ⟨_, _, _, h2⟩ := hgt p hp
    exact h2
end K02

set_option maxHeartbeats 1000000
namespace K02
open PySem PySem.Spec PyProof.Rows L2 Tq
theorem pick3 (a b c i : Int) (h : Hq) (h0 : 0 ≤ i) (h3 : i < 3) : ∃ v, gGet (.d (.lst [.int a, .int b, .int c])) (.d (.int i)) h = some (.ok (.d (.int v)) h) ∧ (v = a ∨ v = b ∨ v = c) := by
  rcases (by omega : i = 0 ∨ i = 1 ∨ i = 2) with e | e | e
  · exact ⟨a, by rw [e]; rfl, .inl rfl⟩
  · exact ⟨b, by rw [e]; rfl, .inr (.inl rfl)⟩
  · exact ⟨c, by rw [e]; rfl, .inr (.inr rfl)⟩
structure Rows (rows : List Row) : Prop where
  l : rows.length ≤ 150
  o : ∀ r ∈ rows, RowOk r
  u : rows.Pairwise fun p q => p.a = q.a → p.n < q.n
theorem rows_ok {ds : List Int} (hd : Drs ds) : ∃ rows, Rows rows ∧ ∀ (τ : Sl) (h : Hq) (m : E A), m τ h = some (.ok (.d (LD ds)) h) → mCallP sem__law_rows (lenIs 1 (maCons m maNil)) τ h = some (.ok (.d (.lst (rows.map rD))) h) := by
  have at_ : ∀ (τ : Sl) (h : Hq) (j : Int), 0 ≤ j ∧ j < 1000 → τ[0]? = some (some (.d (LD ds))) → mCallP sem__law_at (lenIs 2 (maCons (mVar 0) (maCons (mC (.int j)) maNil))) τ h = some (.ok (.d (.int (atv ds j))) h) := fun τ h j hj e0 => atr_ok hd (by omega) (var_of e0) rfl
  have d0 := (atq_ok hd (i := 0) (by omega)).2
  have d1 := (atq_ok hd (i := 1) (by omega)).2
  have d2 := (atq_ok hd (i := 2) (by omega)).2
  have d3 := (atq_ok hd (i := 3) (by omega)).2
  unfold Dr at d0 d1 d2 d3
  obtain ⟨l, el, hl⟩ := pick3 4 2 9973 (atv ds 3 % 3) [] (by omega) (by omega)
  obtain ⟨c1, ec1, hc1⟩ := pick2 60 150 (atv ds 1 / 6 % 2) [] (by omega) (by omega)
  obtain ⟨s, hs1, hs2, hs3⟩ : ∃ s : Nat, 1 + atv ds 2 % 6 = (s : Int) ∧ 1 ≤ s ∧ s ≤ 6 := ⟨(1 + atv ds 2 % 6).toNat, by omega, by omega, by omega⟩
  let S (a1 a2 a3 a4 a5 : Option A) : Sl := [some (.d (LD ds)), a1, a2, a3, a4, a5, none, none, none, none, none, none, none, none, none]
  obtain ⟨c, hc0, hc2, e2⟩ : ∃ c : Int, 0 ≤ c ∧ c ≤ 150 ∧ mIf (mTB (mBin (gEq false) (mBin gMod (mCallP sem__law_at (lenIs 2 (maCons (mVar 0) (maCons (mC (.int 1)) maNil)))) (mC (.int 6))) (mC (.int 5)))) (mSet 1 (mBin gGet (mLst false (maCons (mC (.int 60)) (maCons (mC (.int 150)) maNil))) (mBin gMod (mBin gDiv (mCallP sem__law_at (lenIs 2 (maCons (mVar 0) (maCons (mC (.int 1)) maNil)))) (mC (.int 6))) (mC (.int 2))))) mNx (S (some (.d (.int (atv ds 0 % 13)))) none none none none) [] = some (.nx (S (some (.d (.int c))) none none none none) []) := by
    have t : mTB (mBin (gEq false) (mBin gMod (mCallP sem__law_at (lenIs 2 (maCons (mVar 0) (maCons (mC (.int 1)) maNil)))) (mC (.int 6))) (mC (.int 5))) (S (some (.d (.int (atv ds 0 % 13)))) none none none none) [] = some (.ok (decide (atv ds 1 % 6 = 5)) []) := tb_of (eqi_of (mod_of (at_ _ _ 1 (by decide) rfl) rfl (by decide)) rfl)
    by_cases z : atv ds 1 % 6 = 5
    · rw [decide_eq_true z] at t
      refine ⟨c1, by omega, by omega, ?_⟩
      rw [if_tt t]
      refine set_of ?_
      rw [bin_of (a := .d (.lst [.int 60, .int 150])) (b := .d (.int (atv ds 1 / 6 % 2))) (h1 := []) (h2 := []) rfl (mod_of (div_of (at_ _ _ 1 (by decide) rfl) rfl rfl) rfl (by decide))]
      exact ec1
    · rw [decide_eq_false z] at t
      refine ⟨atv ds 0 % 13, by omega, by omega, ?_⟩
      rw [if_ff t]
      rfl
  obtain ⟨τ', h', e, ⟨a6, a7, a8, a9, a10, a11, a12, a13, a14, rows, nums, rfl, rfl, I⟩⟩ := forL_inv (g := mgName 6) (mb := B1__law_rows) (ws := rangeA 0 c.toNat)
    (fun n τ h => ∃ a6 a7 a8 a9 a10 a11 a12 a13 a14 rows nums, τ = R15 ds c s l a6 a7 a8 a9 a10 a11 a12 a13 a14 ∧ h = RH rows nums ∧ RInv rows nums n s) (τ := R15 ds c s l none none none none none none none none none) (h := RH [] [0, 0, 0, 0, 0, 0])
    ⟨none, none, none, none, none, none, none, none, none, [], _, rfl, rfl, ⟨rfl, rfl, (fun r hr => by cases hr), (fun v hv => by
      simp only [List.mem_cons, List.not_mem_nil, or_false] at hv
      omega), (fun r hr => by cases hr), .nil⟩⟩
    (fun n w τ h hw i => by
      obtain ⟨a6, a7, a8, a9, a10, a11, a12, a13, a14, rows, nums, rfl, rfl, I⟩ := i
      obtain ⟨hn, rfl⟩ := rangeA_get hw
      obtain ⟨b7, b8, b9, b10, b11, b12, b13, b14, rows', nums', e, I'⟩ := rbody_ok hd (c := c) (l := l) ⟨hs2, hs3⟩ (by omega) (n := n) (by omega) (a6 := a6) (a7 := a7) (a8 := a8) (a9 := a9) (a10 := a10) (a11 := a11) (a12 := a12) (a13 := a13) (a14 := a14) I
      rw [Int.zero_add]
      exact ⟨R15 ds c s l (some (.d (.int (n : Nat)))) a7 a8 a9 a10 a11 a12 a13 a14, R15 ds c s l (some (.d (.int (n : Nat)))) b7 b8 b9 b10 b11 b12 b13 b14, RH rows' nums', rfl, .inl e, _, _, _, _, _, _, _, _, _, _, _, rfl, rfl, I'⟩) (by rw [rangeA_len]; show _ ≤ 16777216; omega)
  rw [rangeA_len] at I
  refine ⟨rows, ⟨by rw [I.l]; omega, fun r hr => (I.o r hr).1, I.u⟩, fun τ h m em => callP_of (ds := [LD ds]) (len_of (n := 1) (cons_of (r := []) em rfl) rfl) (runB_rt rfl (w := .r 0) (h1 := RH rows nums) ?_) (view_lst rfl)⟩
  show b__law_rows (S none none none none none) [] = _
  unfold b__law_rows
  rw [seq_nx (τ1 := S (some (.d (.int (atv ds 0 % 13)))) none none none none) (h1 := []) (set_of (mod_of (at_ _ _ 0 (by decide) rfl) rfl (by decide)))]
  rw [seq_nx e2]
  rw [seq_nx (τ1 := S (some (.d (.int c))) (some (.d (.int (s : Nat)))) none none none) (h1 := []) (set_of (by rw [← hs1]; exact add_of rfl (mod_of (at_ _ _ 2 (by decide) rfl) rfl (by decide))))]
  rw [seq_nx (τ1 := S (some (.d (.int c))) (some (.d (.int (s : Nat)))) (some (.d (.int l))) none none) (h1 := []) (set_of (by
    rw [bin_of (a := .d (.lst [.int 4, .int 2, .int 9973])) (b := .d (.int (atv ds 3 % 3))) (h1 := []) (h2 := []) rfl (mod_of (at_ _ _ 3 (by decide) rfl) rfl (by decide))]
    exact el))]
  rw [seq_nx (τ1 := S (some (.d (.int c))) (some (.d (.int (s : Nat)))) (some (.d (.int l))) (some (.r 0)) none) (h1 := [.lst []]) rfl]
  rw [seq_nx (τ1 := R15 ds c s l none none none none none none none none none) (h1 := RH [] [0, 0, 0, 0, 0, 0]) rfl]
  rw [seq_nx (τ1 := R15 ds c s l a6 a7 a8 a9 a10 a11 a12 a13 a14) (h1 := RH rows nums) (by
    unfold L1__law_rows
    rw [mFor_of (h1 := RH [] [0, 0, 0, 0, 0, 0]) (mRange1_of (j := c) (var_of rfl) (by omega) (by omega))]
    exact e)]
  rfl
end K02

set_option maxHeartbeats 1000000
namespace K02
open PySem PySem.Spec PyProof.Rows L2 Tq
abbrev FS : List Str := ["author", "number", "heard", "capability", "publics", "parts"]
def chg (r : Row) : D := .nd (.ins "Change" FS) [.int (r.a : Nat), .int r.n, .tup (r.hs.map D.int), r.cap, .tup r.pubs, .tup r.parts]
theorem ok1 : fOk FT "Change" "author" = true := by decide +kernel
theorem ok2 : fOk FT "Change" "number" = true := by decide +kernel
theorem ok3 : fOk FT "Change" "heard" = true := by decide +kernel
theorem ok4 : fOk FT "Change" "capability" = true := by decide +kernel
theorem ok5 : fOk FT "Change" "publics" = true := by decide +kernel
theorem ok6 : fOk FT "Change" "parts" = true := by decide +kernel
theorem fp1 (w : A) : fPut "author" w [] [] = (([("author" : Str)] : List Str), [w]) := rfl
theorem fp2 (w x1 : A) : fPut "number" w ["author"] [x1] = (([("author" : Str), "number"] : List Str), [x1, w]) := by with_unfolding_all rfl
theorem fp3 (w x1 x2 : A) : fPut "heard" w ["author", "number"] [x1, x2] = (([("author" : Str), "number", "heard"] : List Str), [x1, x2, w]) := by with_unfolding_all rfl
theorem fp4 (w x1 x2 x3 : A) : fPut "capability" w ["author", "number", "heard"] [x1, x2, x3] = (([("author" : Str), "number", "heard", "capability"] : List Str), [x1, x2, x3, w]) := by with_unfolding_all rfl
theorem fp5 (w x1 x2 x3 x4 : A) : fPut "publics" w ["author", "number", "heard", "capability"] [x1, x2, x3, x4] = (([("author" : Str), "number", "heard", "capability", "publics"] : List Str), [x1, x2, x3, x4, w]) := by with_unfolding_all rfl
theorem fp6 (w x1 x2 x3 x4 x5 : A) : fPut "parts" w ["author", "number", "heard", "capability", "publics"] [x1, x2, x3, x4, x5] = ((FS : List Str), [x1, x2, x3, x4, x5, w]) := by with_unfolding_all rfl
theorem setF_of {τ : Sl} {h : Hq} {i k : Nat} {f : Str} {fs fs' : List Str} {ws ws' : List A} {w : A} {mv : E A} (e0 : τ[i]? = some (some (.r k))) (ev : mv τ h = some (.ok w h)) (e : h[k]? = some (.nd (.ins "Change" fs) ws)) (hf : fOk FT "Change" f = true) (hl : fs.length < 1000) (hp : fPut f w fs ws = (fs', ws')) :
    mSetF FT f (mVar i) mv τ h = some (.nx τ (h.set k (.nd (.ins "Change" fs') ws'))) := by
  unfold mSetF
  rw [ev, sb_ok, var_of e0, sb_ok]
  dsimp only
  rw [e]
  dsimp only
  rw [if_pos ⟨hf, hl⟩, hp]
def Alike (k : Nat) (h h' : Hq) : Prop := ∀ (j : Nat) (o : O), j ≠ k → h[j]? = some o → h'[j]? = some o
abbrev R8 (k : Nat) (a n : Int) (a3 : A) (cap : D) (a5 a6 : A) : Sl := [some (.r k), some (.d (.int a)), some (.d (.int n)), some a3, some (.d cap), some a5, some a6, none]
theorem init_ok {h : Hq} {k : Nat} {a n : Int} {cap : D} {a3 a5 a6 : A} {X3 X5 X6 : List D} (e : h[k]? = some (.nd (.ins "Change" []) [])) (h3 : ∀ h', Alike k h h' → gTupOf a3 h' = some (.ok (.d (.tup X3)) h')) (h5 : ∀ h', Alike k h h' → gTupOf a5 h' = some (.ok (.d (.tup X5)) h'))
    (h6 : ∀ h', Alike k h h' → C1_Change____init__ (R8 k a n a3 cap a5 a6) h' = some (.ok (.d (.lst X6)) h')) (hl : X6.length ≤ LIM) :
    sem_Change____init__ [.r k, .d (.int a), .d (.int n), a3, .d cap, a5, a6] h = some (.ok (.d .non) (h.set k (.nd (.ins "Change" FS) ([.int a, .int n, .tup X3, cap, .tup X5, .tup X6].map A.d)))) := by
  have hk := lt_of_get e
  have al : ∀ o, Alike k h (h.set k o) := fun o j u hj eu => by rw [List.getElem?_set_ne (Ne.symm hj)]; exact eu
  have eo : ∀ o : O, (h.set k o)[k]? = some o := fun o => List.getElem?_set_self hk
  refine runB_nx (τ := R8 k a n a3 cap a5 a6) rfl ?_
  show b_Change____init__ (R8 k a n a3 cap a5 a6) h = _
  unfold b_Change____init__
  rw [seq_nx (setF_of (w := .d (.int a)) rfl (var_of rfl) e ok1 (by decide) (fp1 _))]
  rw [seq_nx (setF_of (w := .d (.int n)) rfl (var_of rfl) (eo _) ok2 (by decide) (fp2 _ _)), List.set_set]
  rw [seq_nx (setF_of (w := .d (.tup X3)) rfl (by rw [un_of (var_of rfl)]; exact h3 _ (al _)) (eo _) ok3 (by decide) (fp3 _ _ _)), List.set_set]
  rw [seq_nx (setF_of (w := .d cap) rfl (var_of rfl) (eo _) ok4 (by decide) (fp4 _ _ _ _)), List.set_set]
  rw [seq_nx (setF_of (w := .d (.tup X5)) rfl (by rw [un_of (var_of rfl)]; exact h5 _ (al _)) (eo _) ok5 (by decide) (fp5 _ _ _ _ _)), List.set_set]
  rw [setF_of (w := .d (.tup X6)) rfl (by
    rw [un_of (h6 _ (al _))]
    show mkT (X6.map A.d) _ = _
    unfold mkT
    rw [if_pos (by rw [List.length_map]; exact hl), allD_map]) (eo _) ok6 (by decide) (fp6 _ _ _ _ _ _), List.set_set]
  rfl
/-- tuple(x) -/
theorem tupOf_tup {ds : List D} (hl : ds.length ≤ LIM) (h : Hq) : gTupOf (.d (.tup ds)) h = some (.ok (.d (.tup ds)) h) := by
  show mkT (ds.map A.d) h = _
  unfold mkT
  rw [if_pos (by rw [List.length_map]; exact hl), allD_map]
theorem tupOf_lst {ds : List D} (hl : ds.length ≤ LIM) (h : Hq) : gTupOf (.d (.lst ds)) h = some (.ok (.d (.tup ds)) h) := by
  show mkT (ds.map A.d) h = _
  unfold mkT
  rw [if_pos (by rw [List.length_map]; exact hl), allD_map]
theorem tupOf_r {ds : List D} {k : Nat} {h : Hq} (e : h[k]? = some (.lst (ds.map A.d))) (hl : ds.length ≤ LIM) : gTupOf (.r k) h = some (.ok (.d (.tup ds)) h) := by
  unfold gTupOf
  simp only [tupOf, lstOf, e]
  unfold mkT
  rw [if_pos (by rw [List.length_map]; exact hl), allD_map]
/-- a part as it stands: data, or a cell -/
inductive PA1 (h : Hq) : A → D → Prop
  | non : PA1 h (.d .non) .non
  | tup {ds : List D} : ds.length ≤ 100 → PA1 h (.d (.tup ds)) (.tup ds)
  | cell {k : Nat} {ds : List D} : ds.length ≤ 100 → h[k]? = some (.lst (ds.map A.d)) → PA1 h (.r k) (.tup ds)
theorem astup_ok {h : Hq} {w : A} {p : D} (x : PA1 h w p) : sem__as_tuple [w] h = some (.ok (.d p) h) := by
  refine runB_rt rfl ?_
  show b__as_tuple [some w] h = _
  unfold b__as_tuple
  cases x with
  | non => rfl
  | tup hl =>
    rw [seq_nx (τ1 := [some (.d (.tup _))]) (h1 := h) rfl]
    refine ret_of ?_
    rw [un_of (var_of rfl)]
    exact tupOf_tup (by show _ ≤ 16777216; omega) h
  | cell hl e =>
    rw [seq_nx (τ1 := [some (.r _)]) (h1 := h) rfl]
    refine ret_of ?_
    rw [un_of (var_of rfl)]
    exact tupOf_r e (by show _ ≤ 16777216; omega)
end K02

set_option maxHeartbeats 1000000
namespace K02
open PySem PySem.Spec PyProof.Rows L2 Tq
theorem compC_map {g : A → Sl → Hq → Option Sl} {me : E A} {τw : Sl} {h : Hq} {k : Nat} {ws us : List A} (hk : h[k]? = some (.lst ws)) (hlu : us.length = ws.length) (hs : ∀ (i : Nat) (w u : A), ws[i]? = some w → us[i]? = some u → ∃ τ1, g w τw h = some τ1 ∧ me τ1 h = some (.ok u h)) (hl : ws.length ≤ LIM) : compM (nxC k) g mYes me τw FU 0 h = some (us, h) := by
  have go : ∀ (j n fu : Nat), ws.length - n = j → n ≤ ws.length → j < fu → compM (nxC k) g mYes me τw fu n h = some (us.drop n, h) := by
    intro j
    induction j with
    | zero =>
      intro n fu e hn hf
      have : n = ws.length := by omega
      subst this
      obtain ⟨fu, rfl⟩ : ∃ f', fu = f' + 1 := ⟨fu - 1, by omega⟩
      unfold compM
      rw [show nxC k ws.length h = some none from by unfold nxC; rw [hk]; dsimp only; rw [List.getElem?_eq_none (Nat.le_refl _)], ← hlu, List.drop_length]
    | succ j ih =>
      intro n fu e hn hf
      have hlt : n < ws.length := by omega
      obtain ⟨fu, rfl⟩ : ∃ f', fu = f' + 1 := ⟨fu - 1, by omega⟩
      have hlu2 : n < us.length := by omega
      have hw : ws[n]? = some ws[n] := List.getElem?_eq_getElem hlt
      obtain ⟨τ1, e1, e2⟩ := hs n _ us[n] hw (List.getElem?_eq_getElem hlu2)
      unfold compM
      rw [show nxC k n h = some (some ws[n]) from by unfold nxC; rw [hk]; dsimp only; rw [hw]]
      dsimp only
      rw [e1]
      dsimp only [mYes]
      rw [e2]
      dsimp only
      rw [ih (n + 1) fu (by omega) (by omega) (by omega)]
      dsimp only
      rw [List.drop_eq_getElem_cons hlu2]
  have := go ws.length 0 FU (by omega) (Nat.zero_le _) (by show ws.length < 16777217; have : ws.length ≤ 16777216 := hl; omega)
  rwa [List.drop_zero] at this
theorem part_tup {p : D} (x : PartOk p) (h : Hq) : PA1 h (.d p) p := by
  rcases x with rfl | ⟨ds, rfl, hl, _⟩
  · exact .non
  · exact .tup hl
theorem call_astup {τ : Sl} {h : Hq} {w : A} {p : D} {i : Nat} (e : τ[i]? = some (some w)) (x : PA1 h w p) : mCallP sem__as_tuple (lenIs 1 (maCons (mVar i) maNil)) τ h = mCallP sem__as_tuple (lenIs 1 (maCons (mVar i) maNil)) τ h := rfl
/-- the parts, from a tuple -/
theorem c1_tup {h : Hq} {k : Nat} {a n : Int} {a3 a5 : A} {cap : D} {parts : List D} (hp : ∀ p ∈ parts, PartOk p) (hl : parts.length ≤ 8) : C1_Change____init__ (R8 k a n a3 cap a5 (.d (.tup parts))) h = some (.ok (.d (.lst parts)) h) := by
  unfold C1_Change____init__
  rw [lc_of (ws := parts.map A.d) (h1 := h) id rfl (fun w hw => by
    obtain ⟨p, hp', rfl⟩ := List.mem_map.mp hw
    refine ⟨[some (.r k), some (.d (.int a)), some (.d (.int n)), some a3, some (.d cap), some a5, some (.d (.tup parts)), some (.d p)], rfl, ?_⟩
    unfold E1_Change____init__
    rw [call_of (ws := [.d p]) (h1 := h) (len_of (n := 1) (cons_of (r := []) (var_of rfl) rfl) rfl)]
    exact astup_ok (part_tup (hp p hp') h)) (by rw [List.length_map]; show _ ≤ 16777216; omega), List.map_id]
  exact mkL_d (by show _ ≤ 16777216; omega)
/-- the parts, from a list of lists -/
def PL (h : Hq) (k : Nat) (ws : List A) (ps : List D) : Prop := ws.length = ps.length ∧ ∀ (i : Nat) (p : D), ps[i]? = some p → ∃ w, ws[i]? = some w ∧ ((w = .d .non ∧ p = .non) ∨ ∃ (j : Nat) (ds : List D), w = .r j ∧ k < j ∧ p = .tup ds ∧ ds.length ≤ 100 ∧ h[j]? = some (.lst (ds.map A.d)))
theorem PL.pa {h : Hq} {k : Nat} {ws : List A} {ps : List D} (x : PL h k ws ps) {i : Nat} {w : A} {p : D} (e1 : ws[i]? = some w) (e2 : ps[i]? = some p) : PA1 h w p := by
  obtain ⟨w', e, c⟩ := x.2 i p e2
  rw [e1] at e
  cases e
  rcases c with ⟨rfl, rfl⟩ | ⟨j, ds, rfl, _, rfl, hl, ej⟩
  · exact .non
  · exact .cell hl ej
theorem PL.keep {h h' : Hq} {k : Nat} {ws : List A} {ps : List D} (x : PL h k ws ps) (p : ∀ (j : Nat) (o : O), k < j → h[j]? = some o → h'[j]? = some o) : PL h' k ws ps := ⟨x.1, fun i q e => by
  obtain ⟨w, e1, c⟩ := x.2 i q e
  refine ⟨w, e1, ?_⟩
  rcases c with c | ⟨j, ds, c1, c2, c3, c4, c5⟩
  · exact .inl c
  · exact .inr ⟨j, ds, c1, c2, c3, c4, p j _ c2 c5⟩⟩
theorem c1_cell {h : Hq} {k kp kk : Nat} {a n : Int} {a3 a5 : A} {cap : D} {parts : List D} {ws : List A} (e : h[kp]? = some (.lst ws)) (x : PL h kk ws parts) (hl : parts.length ≤ 8) : C1_Change____init__ (R8 k a n a3 cap a5 (.r kp)) h = some (.ok (.d (.lst parts)) h) := by
  unfold C1_Change____init__ mLC
  rw [show mItems (mVar 6) (R8 k a n a3 cap a5 (.r kp)) h = some (.ok (nxC kp) h) from by
    unfold mItems
    rw [var_of rfl, bd_ok]
    dsimp only
    rw [e], bd_ok]
  rw [compC_map e (us := parts.map A.d) (by rw [List.length_map]; exact x.1.symm) (fun i w u hw hu => by
    rw [List.getElem?_map] at hu
    cases ep : parts[i]? with
    | none => rw [ep] at hu; cases hu
    | some p =>
      rw [ep] at hu
      cases hu
      refine ⟨[some (.r k), some (.d (.int a)), some (.d (.int n)), some a3, some (.d cap), some a5, some (.r kp), some w], rfl, ?_⟩
      unfold E1_Change____init__
      rw [call_of (ws := [w]) (h1 := h) (len_of (n := 1) (cons_of (r := []) (var_of rfl) rfl) rfl)]
      exact astup_ok (x.pa hw ep)) (by rw [x.1]; show _ ≤ 16777216; omega)]
  dsimp only
  rw [if_pos (by rw [List.length_map]; show _ ≤ 16777216; omega)]
  exact mkL_d (by show _ ≤ 16777216; omega)
theorem append2_of {τ : Sl} {h h2 : Hq} {k : Nat} {ws0 ws : List A} {w : A} {mo mv : E A} (h1 : mo τ h = some (.ok (.r k) h)) (e0 : h[k]? = some (.lst ws0)) (e1 : mv τ h = some (.ok w h2)) (e : h2[k]? = some (.lst ws)) (hl : ws.length < LIM) : mDrop (mM1 tokL gApp mo mv) τ h = some (.nx τ (h2.set k (.lst (ws ++ [w])))) := by
  have t : tokL (.r k) h = true := by
    unfold tokL lstOf
    dsimp only
    rw [e0]
    rfl
  have ga : gApp (.r k) w h2 = some (.ok (.d .non) (h2.set k (.lst (ws ++ [w])))) := by
    unfold gApp
    dsimp only
    rw [e]
    dsimp only
    rw [if_pos hl]
  unfold mDrop mM1
  rw [h1, bd_ok, if_pos t, e1, bd_ok, ga, sb_ok]
theorem take_succ {α : Type} {xs : List α} {n : Nat} {x : α} (h : xs[n]? = some x) : xs.take (n + 1) = xs.take n ++ [x] := by
  rw [List.take_add_one, h]
  rfl
theorem PL.snoc {h : Hq} {k : Nat} {ws : List A} {ps : List D} {w : A} {p : D} (x : PL h k ws ps) (c : (w = .d .non ∧ p = .non) ∨ ∃ (j : Nat) (ds : List D), w = .r j ∧ k < j ∧ p = .tup ds ∧ ds.length ≤ 100 ∧ h[j]? = some (.lst (ds.map A.d))) : PL h k (ws ++ [w]) (ps ++ [p]) := by
  refine ⟨by rw [List.length_append, List.length_append, x.1]; rfl, fun i q e => ?_⟩
  by_cases hi : i < ps.length
  · rw [List.getElem?_append_left hi] at e
    obtain ⟨w', e1, c'⟩ := x.2 i q e
    exact ⟨w', by rw [List.getElem?_append_left (by rw [x.1]; exact hi)]; exact e1, c'⟩
  · have hi2 : i = ps.length := by
      have := (List.getElem?_eq_some_iff.mp e).1
      rw [List.length_append, List.length_singleton] at this
      omega
    subst hi2
    rw [List.getElem?_append_right (Nat.le_refl _), Nat.sub_self] at e
    cases e
    exact ⟨w, by rw [← x.1, List.getElem?_append_right (Nat.le_refl _), Nat.sub_self]; rfl, c⟩
/-- _law_part_lists -/
theorem pl_ok {h0 : Hq} {parts : List D} (hp : ∀ p ∈ parts, PartOk p) (hl : parts.length ≤ 8) : ∃ h ws, sem__law_part_lists [.d (.lst parts)] h0 = some (.ok (.r h0.length) h) ∧ h[h0.length]? = some (.lst ws) ∧ PL h h0.length ws parts ∧ (∀ (j : Nat) (o : O), h0[j]? = some o → h[j]? = some o) := by
  generalize hk : h0.length = k
  obtain ⟨τ', h', e, a2, ws, rfl, ew, pl, keep⟩ := forL_inv (g := mgName 2) (mb := B1__law_part_lists) (ws := parts.map A.d)
    (fun n τ h => ∃ a2 ws, τ = [some (.d (.lst parts)), some (.r k), a2] ∧ h[k]? = some (.lst ws) ∧ PL h k ws (parts.take n) ∧ (∀ (j : Nat) (o : O), h0[j]? = some o → h[j]? = some o))
    (τ := [some (.d (.lst parts)), some (.r k), none]) (h := h0 ++ [.lst []]) ⟨none, [], rfl, by rw [← hk]; exact cell_app _ _, ⟨rfl, fun i q e => by simp at e⟩, fun j o e => app_keep e⟩
    (fun n w τ h hw i => by
      obtain ⟨a2, ws, rfl, ew, pl, keep⟩ := i
      rw [List.getElem?_map] at hw
      cases ep : parts[n]? with
      | none => rw [ep] at hw; cases hw
      | some p =>
        rw [ep] at hw
        cases hw
        have hn := (List.getElem?_eq_some_iff.mp ep).1
        have hwl : ws.length < LIM := by
          have := pl.1
          rw [List.length_take] at this
          show _ < 16777216
          omega
        have hkl := lt_of_get ew
        have nk : ∀ {j : Nat} {o : O}, h0[j]? = some o → j ≠ k := fun ej => by
          have := lt_of_get ej
          omega
        rcases hp p (List.mem_of_getElem? ep) with rfl | ⟨ds, rfl, hd, _⟩
        · refine ⟨[some (.d (.lst parts)), some (.r k), some (.d .non)], [some (.d (.lst parts)), some (.r k), some (.d .non)], h.set k (.lst (ws ++ [.d .non])), rfl, .inl ?_, _, ws ++ [.d .non], rfl, List.getElem?_set_self hkl, ?_, fun j o ej => ?_⟩
          · unfold B1__law_part_lists
            rw [if_tt (h1 := h) rfl]
            exact append_of (k := k) (ws := ws) (w := .d .non) (var_of rfl) ew rfl hwl
          · rw [take_succ ep]
            refine (pl.keep fun j o hj e => ?_).snoc (.inl ⟨rfl, rfl⟩)
            rw [List.getElem?_set_ne (by omega)]
            exact e
          · rw [List.getElem?_set_ne (Ne.symm (nk ej))]
            exact keep j o ej
        · refine ⟨[some (.d (.lst parts)), some (.r k), some (.d (.tup ds))], [some (.d (.lst parts)), some (.r k), some (.d (.tup ds))], (h ++ [O.lst (ds.map A.d)]).set k (O.lst (ws ++ [A.r h.length])), rfl, .inl ?_, _, ws ++ [A.r h.length], rfl, List.getElem?_set_self (by rw [List.length_append]; omega), ?_, fun j o ej => ?_⟩
          · unfold B1__law_part_lists
            rw [if_ff (h1 := h) rfl]
            exact append2_of (k := k) (ws0 := ws) (ws := ws) (w := .r h.length) (var_of rfl) ew (by
              rw [un_of (var_of rfl)]
              exact mkL_c (by rw [List.length_map]; show _ ≤ 16777216; omega)) (app_keep ew) hwl
          · rw [take_succ ep]
            refine (pl.keep fun j o hj e => ?_).snoc (.inr ⟨h.length, ds, rfl, hkl, rfl, hd, ?_⟩)
            · rw [List.getElem?_set_ne (by omega)]
              exact app_keep e
            · rw [List.getElem?_set_ne (by omega)]
              exact cell_app _ _
          · rw [List.getElem?_set_ne (Ne.symm (nk ej))]
            exact app_keep (keep j o ej)) (by rw [List.length_map]; show _ ≤ 16777216; omega)
  rw [List.length_map, List.take_length] at pl
  refine ⟨h', ws, runB_rt rfl ?_, ew, pl, keep⟩
  show b__law_part_lists [some (.d (.lst parts)), none, none] h0 = _
  unfold b__law_part_lists
  rw [seq_nx (τ1 := [some (.d (.lst parts)), some (.r k), none]) (h1 := h0 ++ [.lst []]) (by rw [← hk]; rfl)]
  rw [seq_nx (τ1 := [some (.d (.lst parts)), some (.r k), a2]) (h1 := h') (by
    unfold L1__law_part_lists
    rw [mFor_of (nx := nxL (parts.map A.d)) (h1 := h0 ++ [.lst []]) rfl]
    exact e)]
  rfl
end K02

set_option maxHeartbeats 1000000
namespace K02
open PySem PySem.Spec PyProof.Rows L2 Tq
/-- row[i] -/
theorem row_get {r : Row} {τ : Sl} {h : Hq} {j i : Nat} {x : D} {z : Int} (hz : z = ((i : Nat) : Int)) (e0 : τ[j]? = some (some (.d (rD r)))) (e : ([.int (r.a : Nat), .int r.n, LD r.hs, r.cap, .lst r.pubs, .lst r.parts] : List D)[i]? = some x) : mBin gGet (mVar j) (mC (.int z)) τ h = some (.ok (.d x) h) := by
  subst hz
  rw [bin_of (var_of e0) rfl]
  show (match atI (([.int (r.a : Nat), .int r.n, LD r.hs, r.cap, .lst r.pubs, .lst r.parts] : List D).map A.d) (i : Int) with | some w => some (Rs.ok w h) | none => none) = _
  rw [Tq.atI_nat (x := A.d x) (by rw [List.getElem?_map, e]; rfl)]
abbrev R8c (r : Row) (b : Bool) (a2 a3 a4 a5 a6 : Option A) : Sl := [some (.d (rD r)), some (.d (.bl b)), a2, a3, a4, a5, a6, none]
theorem ok_rows {r : Row} (ho : RowOk r) : r.hs.length ≤ LIM ∧ r.pubs.length ≤ LIM ∧ r.parts.length ≤ LIM := by
  have h1 := ho.l
  have h2 := ho.p.1
  have h3 := ho.q.1
  have : LIM = 16777216 := rfl
  omega
theorem view_nd {h : Hq} {k : Nat} {hd : Hd} {ds : List D} (e : h[k]? = some (.nd hd (ds.map A.d))) : view h (.r k) = some (.nd hd ds) := by
  unfold view vw
  rw [e]
  dsimp only
  rw [mapMn_d _ _ (vw_d 31 h)]
  rfl
theorem change_f {r : Row} (ho : RowOk r) : sem__law_change [.d (rD r), .d (.bl false)] [] = some (.ok (.d (chg r)) []) := by
  obtain ⟨l1, l2, l3⟩ := ok_rows ho
  refine runB_rt rfl ?_
  show b__law_change (R8c r false none none none none none) [] = _
  unfold b__law_change
  refine seq_rt ?_
  rw [if_tt (h1 := []) rfl]
  refine ret_of ?_
  unfold mMakeP
  have hl1 : (r.hs.map D.int).length ≤ LIM := by rw [List.length_map]; exact l1
  rw [cons_of (row_get (r := r) (j := 0) (i := 0) (z := 0) (x := .int (r.a : Nat)) rfl rfl rfl) (cons_of (row_get (r := r) (j := 0) (i := 1) (z := 1) (x := .int r.n) rfl rfl rfl) (cons_of (a := .d (.tup (r.hs.map D.int))) (by
    rw [un_of (row_get (r := r) (j := 0) (i := 2) (z := 2) (x := LD r.hs) rfl rfl rfl)]
    exact tupOf_lst hl1 []) (cons_of (row_get (r := r) (j := 0) (i := 3) (z := 3) (x := r.cap) rfl rfl rfl) (cons_of (a := .d (.tup r.pubs)) (by
    rw [un_of (row_get (r := r) (j := 0) (i := 4) (z := 4) (x := .lst r.pubs) rfl rfl rfl)]
    exact tupOf_lst l2 []) (cons_of (a := .d (.tup r.parts)) (r := []) (by
    rw [un_of (row_get (r := r) (j := 0) (i := 5) (z := 5) (x := .lst r.parts) rfl rfl rfl)]
    exact tupOf_lst l3 []) rfl))))), bd_ok]
  unfold makeP
  have e := init_ok (h := [.nd (.ins "Change" []) []]) (k := 0) (a := (r.a : Nat)) (n := r.n) (cap := r.cap) (a3 := .d (.tup (r.hs.map D.int))) (a5 := .d (.tup r.pubs)) (a6 := .d (.tup r.parts)) (X3 := r.hs.map D.int) (X5 := r.pubs) (X6 := r.parts) rfl (fun h' _ => tupOf_tup hl1 h') (fun h' _ => tupOf_tup l2 h') (fun h' _ => c1_tup ho.q.2 ho.q.1) l3
  rw [if_pos (show ([A.d (.int (r.a : Nat)), .d (.int r.n), .d (.tup (r.hs.map D.int)), .d r.cap, .d (.tup r.pubs), .d (.tup r.parts)] : List A).length + 1 = 7 from rfl)]
  rw [show allD [A.d (.int (r.a : Nat)), .d (.int r.n), .d (.tup (r.hs.map D.int)), .d r.cap, .d (.tup r.pubs), .d (.tup r.parts)] = some [.int (r.a : Nat), .int r.n, .tup (r.hs.map D.int), r.cap, .tup r.pubs, .tup r.parts] from allD_map (ds := [.int (r.a : Nat), .int r.n, .tup (r.hs.map D.int), r.cap, .tup r.pubs, .tup r.parts])]
  dsimp only
  rw [show (A.r 0 :: ([.int (r.a : Nat), .int r.n, .tup (r.hs.map D.int), r.cap, .tup r.pubs, .tup r.parts] : List D).map A.d) = [.r 0, .d (.int (r.a : Nat)), .d (.int r.n), .d (.tup (r.hs.map D.int)), .d r.cap, .d (.tup r.pubs), .d (.tup r.parts)] from rfl, e]
  dsimp only
  rw [show view ([O.nd (.ins "Change" []) []].set 0 (.nd (.ins "Change" FS) (([.int (r.a : Nat), .int r.n, .tup (r.hs.map D.int), r.cap, .tup r.pubs, .tup r.parts] : List D).map A.d))) (.r 0) = some (chg r) from view_nd (k := 0) rfl]
/-- what is spoilt: lists alone -/
def Spoil (K : Nat) (h : Hq) (B : Nat) (ws : List A) : Prop := ∀ (i : Nat) (w : A), ws[i]? = some w → ∃ (j : Nat) (us : List A), w = .r j ∧ j ≠ K ∧ h[j]? = some (.lst us) ∧ us.length ≤ B
theorem spoil_ok {τ0 : Sl} {h : Hq} {K ki : Nat} {ws : List A} (hki : h[ki]? = some (.lst ws)) (hs : Spoil ki h 200 ws) (hK : Spoil K h 200 ws) (hl : ws.length ≤ 20) (l6 : 6 < τ0.length) (a6 : Option A) : ∃ b6 h', forM (nxC ki) (mgName 6) B1__law_change FU 0 (τ0.set 6 a6) h = some (.nx (τ0.set 6 b6) h') ∧ h'[K]? = h[K]? ∧ (∀ (j : Nat) (us : List A), h[j]? = some (.lst us) → ∃ vs, h'[j]? = some (.lst vs) ∧ vs.length ≤ us.length + 20) := by
  obtain ⟨τ', h', e1, ⟨b6, rfl⟩, _, eK, ls⟩ := forC_inv (k := ki) (ws := ws) (g := mgName 6) (mb := B1__law_change)
    (fun n τ h' => (∃ b6, τ = τ0.set 6 b6) ∧ h'[ki]? = some (.lst ws) ∧ h'[K]? = h[K]? ∧ ∀ (j : Nat) (us : List A), h[j]? = some (.lst us) → ∃ vs, h'[j]? = some (.lst vs) ∧ vs.length ≤ us.length + n)
    (τ := τ0.set 6 a6) (h := h) (fun n τ h i => i.2.1) ⟨⟨a6, rfl⟩, hki, rfl, fun j us e => ⟨us, e, Nat.le_refl _⟩⟩
    (fun n w τ h' hw hi => by
      obtain ⟨⟨b6, rfl⟩, ek, eK, ls⟩ := hi
      have hn := (List.getElem?_eq_some_iff.mp hw).1
      obtain ⟨j, us, rfl, j1, j2, j3⟩ := hs n w hw
      obtain ⟨j', us', ej, k1, _, _⟩ := hK n _ hw
      cases ej
      obtain ⟨vs, v1, v2⟩ := ls j us j2
      refine ⟨τ0.set 6 (some (.r j)), τ0.set 6 (some (.r j)), h'.set j (.lst (vs ++ [A.d (.int 7)])), ?_, .inl ?_, ⟨_, rfl⟩, ?_, ?_, ?_⟩
      · unfold mgName
        rw [List.set_set]
      · exact append_of (k := j) (ws := vs) (w := .d (.int 7)) (var_of (List.getElem?_set_self l6)) v1 rfl (by show _ < 16777216; omega)
      · rw [List.getElem?_set_ne j1]; exact ek
      · rw [List.getElem?_set_ne k1]; exact eK
      · intro i ws' hi
        obtain ⟨y, y1, y2⟩ := ls i ws' hi
        by_cases q : i = j
        · subst q
          rw [v1] at y1
          cases y1
          exact ⟨_, List.getElem?_set_self (lt_of_get v1), by rw [List.length_append, List.length_singleton]; omega⟩
        · exact ⟨y, by rw [List.getElem?_set_ne (Ne.symm q)]; exact y1, by omega⟩) (by show _ ≤ 16777216; omega)
  exact ⟨b6, h', e1, eK, fun j us e => by
    obtain ⟨vs, v1, v2⟩ := ls j us e
    exact ⟨vs, v1, by omega⟩⟩
end K02

set_option maxHeartbeats 1000000
namespace K02
open PySem PySem.Spec PyProof.Rows L2 Tq
theorem compC_ex {g : A → Sl → Hq → Option Sl} {mt : E Bool} {me : E A} {τw : Sl} {h : Hq} {k : Nat} {ws : List A} (P : A → Prop) (hk : h[k]? = some (.lst ws)) (hs : ∀ (i : Nat) (w : A), ws[i]? = some w → ∃ τ1 b, g w τw h = some τ1 ∧ mt τ1 h = some (.ok b h) ∧ (b = true → me τ1 h = some (.ok w h) ∧ P w)) (hl : ws.length ≤ LIM) : ∃ us, compM (nxC k) g mt me τw FU 0 h = some (us, h) ∧ us.length ≤ ws.length ∧ ∀ u ∈ us, P u := by
  have go : ∀ (j n fu : Nat), ws.length - n = j → n ≤ ws.length → j < fu → ∃ us, compM (nxC k) g mt me τw fu n h = some (us, h) ∧ us.length ≤ j ∧ ∀ u ∈ us, P u := by
    intro j
    induction j with
    | zero =>
      intro n fu e hn hf
      have : n = ws.length := by omega
      subst this
      obtain ⟨fu, rfl⟩ : ∃ f', fu = f' + 1 := ⟨fu - 1, by omega⟩
      refine ⟨[], ?_, Nat.zero_le _, fun u hu => by cases hu⟩
      unfold compM
      rw [show nxC k ws.length h = some none from by unfold nxC; rw [hk]; dsimp only; rw [List.getElem?_eq_none (Nat.le_refl _)]]
    | succ j ih =>
      intro n fu e hn hf
      have hlt : n < ws.length := by omega
      obtain ⟨fu, rfl⟩ : ∃ f', fu = f' + 1 := ⟨fu - 1, by omega⟩
      have hw : ws[n]? = some ws[n] := List.getElem?_eq_getElem hlt
      obtain ⟨τ1, b, e1, e2, e3⟩ := hs n _ hw
      obtain ⟨us, u1, u2, u3⟩ := ih (n + 1) fu (by omega) (by omega) (by omega)
      have un : nxC k n h = some (some ws[n]) := by unfold nxC; rw [hk]; dsimp only; rw [hw]
      cases b with
      | true =>
        obtain ⟨e4, e5⟩ := e3 rfl
        refine ⟨ws[n] :: us, ?_, by rw [List.length_cons]; omega, fun u hu => ?_⟩
        · unfold compM
          rw [un]
          dsimp only
          rw [e1]
          dsimp only
          rw [e2]
          dsimp only
          rw [e4]
          dsimp only
          rw [u1]
        · rcases List.mem_cons.mp hu with rfl | hu
          · exact e5
          · exact u3 u hu
      | false =>
        refine ⟨us, ?_, by omega, u3⟩
        unfold compM
        rw [un]
        dsimp only
        rw [e1]
        dsimp only
        rw [e2]
        exact u1
  obtain ⟨us, u1, u2, u3⟩ := go ws.length 0 FU (by omega) (Nat.zero_le _) (by show ws.length < 16777217; have : ws.length ≤ 16777216 := hl; omega)
  exact ⟨us, u1, u2, u3⟩
theorem gAdd_cc {o : Bool} {h : Hq} {i j : Nat} {xs ys : List A} (e1 : h[i]? = some (.lst xs)) (e2 : h[j]? = some (.lst ys)) : gAdd o (.r i) (.r j) h = mkL o (xs ++ ys) h := by
  unfold gAdd
  simp only [tupOf, lstOf, e1, e2]
theorem change_t {r : Row} (ho : RowOk r) : ∃ h', sem__law_change [.d (rD r), .d (.bl true)] [] = some (.ok (.d (chg r)) h') := by
  obtain ⟨l1, l2, l3⟩ := ok_rows ho
  have hh := ho.l
  have hpu := ho.p.1
  have hpa := ho.q.1
  have hl1 : (r.hs.map D.int).length ≤ LIM := by rw [List.length_map]; exact l1
  obtain ⟨h3, ws, e3, c2, pl, keep⟩ := pl_ok (h0 := [.lst ((r.hs.map D.int).map A.d), .lst (r.pubs.map A.d)]) ho.q.2 ho.q.1
  have k0 := keep 0 _ rfl
  have k1 := keep 1 _ rfl
  have e3 : sem__law_part_lists [.d (.lst r.parts)] [.lst ((r.hs.map D.int).map A.d), .lst (r.pubs.map A.d)] = some (.ok (.r 2) h3) := e3
  have c2 : h3[2]? = some (.lst ws) := c2
  have pl : PL h3 2 ws r.parts := pl
  have hlw : ws.length ≤ 8 := by rw [pl.1]; exact hpa
  have n3 := lt_of_get c2
  generalize hK : h3.length = K at n3
  have cK : (h3 ++ [O.nd (.ins "Change" []) []])[K]? = some (.nd (.ins "Change" []) []) := by rw [← hK]; exact cell_app _ _
  have e4 := init_ok (h := h3 ++ [O.nd (.ins "Change" []) []]) (k := K) (a := (r.a : Nat)) (n := r.n) (cap := r.cap) (a3 := .r 0) (a5 := .r 1) (a6 := .r 2) (X3 := r.hs.map D.int) (X5 := r.pubs) (X6 := r.parts) cK
    (fun h' al => tupOf_r (al 0 _ (by omega) (app_keep k0)) hl1) (fun h' al => tupOf_r (al 1 _ (by omega) (app_keep k1)) l2)
    (fun h' al => c1_cell (al 2 _ (by omega) (app_keep c2)) (pl.keep fun j o _ e => al j o (by have := lt_of_get e; omega) (app_keep e)) hpa) l3
  have cK4 : ((h3 ++ [O.nd (.ins "Change" []) []]).set K (.nd (.ins "Change" FS) (([.int (r.a : Nat), .int r.n, .tup (r.hs.map D.int), r.cap, .tup r.pubs, .tup r.parts] : List D).map A.d)))[K]? = some (.nd (.ins "Change" FS) (([.int (r.a : Nat), .int r.n, .tup (r.hs.map D.int), r.cap, .tup r.pubs, .tup r.parts] : List D).map A.d)) := List.getElem?_set_self (lt_of_get cK)
  have kp4 : ∀ (j : Nat) (o : O), h3[j]? = some o → ((h3 ++ [O.nd (.ins "Change" []) []]).set K (.nd (.ins "Change" FS) (([.int (r.a : Nat), .int r.n, .tup (r.hs.map D.int), r.cap, .tup r.pubs, .tup r.parts] : List D).map A.d)))[j]? = some o := fun j o e => by
    rw [List.getElem?_set_ne (by have := lt_of_get e; omega)]
    exact app_keep e
  have len4 : ((h3 ++ [O.nd (.ins "Change" []) []]).set K (.nd (.ins "Change" FS) (([.int (r.a : Nat), .int r.n, .tup (r.hs.map D.int), r.cap, .tup r.pubs, .tup r.parts] : List D).map A.d))).length = K + 1 := by rw [List.length_set, List.length_append, hK]; rfl
  generalize (h3 ++ [O.nd (.ins "Change" []) []]).set K (.nd (.ins "Change" FS) (([.int (r.a : Nat), .int r.n, .tup (r.hs.map D.int), r.cap, .tup r.pubs, .tup r.parts] : List D).map A.d)) = h4 at e4 cK4 kp4 len4
  -- the list that is walked
  let τ5 : Sl := R8c r true (some (.r 0)) (some (.r 1)) (some (.r 2)) (some (.r K)) none
  obtain ⟨us, u1, u2, u3⟩ := compC_ex (g := mgName 7) (mt := T1__law_change) (me := E1__law_change) (τw := wipeT τ5 [7]) (h := h4 ++ [.lst [.r 0, .r 1]]) (k := 2) (ws := ws) (fun w => ∃ (j : Nat) (ds : List D), w = .r j ∧ j < K ∧ ds.length ≤ 100 ∧ h4[j]? = some (.lst (ds.map A.d))) (app_keep (kp4 _ _ c2)) (fun i w hw => by
    have hi : i < r.parts.length := by rw [← pl.1]; exact (List.getElem?_eq_some_iff.mp hw).1
    obtain ⟨w', ew, cs⟩ := pl.2 i _ (List.getElem?_eq_getElem hi)
    rw [hw] at ew
    cases ew
    rcases cs with ⟨rfl, _⟩ | ⟨j, ds, rfl, j1, _, j2, j3⟩
    · exact ⟨[some (.d (rD r)), some (.d (.bl true)), some (.r 0), some (.r 1), some (.r 2), some (.r K), none, some (.d .non)], false, rfl, rfl, fun x => by cases x⟩
    · exact ⟨[some (.d (rD r)), some (.d (.bl true)), some (.r 0), some (.r 1), some (.r 2), some (.r K), none, some (.r j)], true, rfl, rfl, fun _ => ⟨rfl, j, ds, rfl, by have := lt_of_get j3; omega, j2, kp4 _ _ j3⟩⟩) (by show _ ≤ 16777216; omega)
  have eC : C1__law_change τ5 (h4 ++ [.lst [.r 0, .r 1]]) = some (.ok (.r (K + 2)) (h4 ++ [.lst [.r 0, .r 1]] ++ [.lst us])) := by
    unfold C1__law_change mLC
    rw [show mItems (mVar 4) τ5 (h4 ++ [.lst [.r 0, .r 1]]) = some (.ok (nxC 2) (h4 ++ [.lst [.r 0, .r 1]])) from by
      unfold mItems
      rw [var_of rfl, bd_ok]
      dsimp only
      rw [app_keep (kp4 _ _ c2)], bd_ok, u1]
    dsimp only
    rw [if_pos (by show _ ≤ 16777216; omega), mkL_c (by show _ ≤ 16777216; omega), List.length_append, len4]
    rfl
  have q1 : (h4 ++ [O.lst [.r 0, .r 1]] ++ [O.lst us])[K + 1]? = some (.lst [.r 0, .r 1]) := app_keep (by rw [← len4]; exact cell_app _ _)
  have q2 : (h4 ++ [O.lst [.r 0, .r 1]] ++ [O.lst us])[K + 2]? = some (.lst us) := by
    have := cell_app (h4 ++ [O.lst [.r 0, .r 1]]) (.lst us)
    rw [List.length_append, len4] at this
    exact this
  have kp6 : ∀ (j : Nat) (o : O), h4[j]? = some o → (h4 ++ [O.lst [.r 0, .r 1]] ++ [O.lst us])[j]? = some o := fun j o e => app_keep (app_keep e)
  have len6 : (h4 ++ [O.lst [.r 0, .r 1]] ++ [O.lst us]).length = K + 3 := by rw [List.length_append, List.length_append, len4]; rfl
  generalize h4 ++ [O.lst [.r 0, .r 1]] ++ [O.lst us] = h6 at eC q1 q2 kp6 len6
  have q3 : (h6 ++ [O.lst ([.r 0, .r 1] ++ us)])[K + 3]? = some (.lst ([.r 0, .r 1] ++ us)) := by rw [← len6]; exact cell_app _ _
  have kp7 : ∀ (j : Nat) (o : O), h4[j]? = some o → (h6 ++ [O.lst ([.r 0, .r 1] ++ us)])[j]? = some o := fun j o e => app_keep (kp6 j o e)
  have eI : mItems (mBin (gAdd true) (mLst true (maCons (mVar 2) (maCons (mVar 3) maNil))) C1__law_change) τ5 h4 = some (.ok (nxC (K + 3)) (h6 ++ [O.lst ([.r 0, .r 1] ++ us)])) := by
    unfold mItems
    rw [bin_of (a := .r (K + 1)) (b := .r (K + 2)) (h1 := h4 ++ [.lst [.r 0, .r 1]]) (h2 := h6) (by
      rw [← len4]
      rfl) eC, gAdd_cc q1 q2, mkL_c (by rw [List.length_append]; show 2 + _ ≤ 16777216; omega), len6, bd_ok]
    dsimp only
    rw [q3]
  generalize h6 ++ [O.lst ([.r 0, .r 1] ++ us)] = h7 at q3 kp7 eI
  have item : ∀ (i : Nat) (w : A), ([A.r 0, .r 1] ++ us)[i]? = some w → ∃ (j : Nat) (vs : List A), w = .r j ∧ j < K ∧ h7[j]? = some (.lst vs) ∧ vs.length ≤ 200 := fun i w hw => by
    rcases List.mem_append.mp (List.mem_of_getElem? hw) with hm | hm
    · simp only [List.mem_cons, List.not_mem_nil, or_false] at hm
      rcases hm with rfl | rfl
      · exact ⟨0, _, rfl, by omega, kp7 _ _ (kp4 _ _ k0), by rw [List.length_map, List.length_map]; omega⟩
      · exact ⟨1, _, rfl, by omega, kp7 _ _ (kp4 _ _ k1), by rw [List.length_map]; omega⟩
    · obtain ⟨j, ds, rfl, j1, j2, j3⟩ := u3 w hm
      exact ⟨j, _, rfl, j1, kp7 _ _ j3, by rw [List.length_map]; omega⟩
  obtain ⟨b6, h8, f1, f2, f3⟩ := spoil_ok (τ0 := τ5) (h := h7) (K := K) (ki := K + 3) (ws := [.r 0, .r 1] ++ us) q3 (fun i w hw => by
    obtain ⟨j, vs, a1, a2, a3, a4⟩ := item i w hw
    exact ⟨j, vs, a1, by omega, a3, a4⟩) (fun i w hw => by
    obtain ⟨j, vs, a1, a2, a3, a4⟩ := item i w hw
    exact ⟨j, vs, a1, by omega, a3, a4⟩) (by rw [List.length_append]; show 2 + _ ≤ 20; omega) (by show 6 < 8; decide) none
  obtain ⟨vs, v1, v2⟩ := f3 2 _ (kp7 _ _ (kp4 _ _ c2))
  have cK8 : h8[K]? = some (.nd (.ins "Change" FS) (([.int (r.a : Nat), .int r.n, .tup (r.hs.map D.int), r.cap, .tup r.pubs, .tup r.parts] : List D).map A.d)) := by rw [f2]; exact kp7 _ _ cK4
  refine ⟨(h8.set 2 (.lst (vs ++ [A.d .non]))).set K .dead, runB_rt rfl ?_⟩
  show b__law_change (R8c r true none none none none none) [] = _
  unfold b__law_change
  rw [seq_nx (τ1 := R8c r true none none none none none) (h1 := []) rfl]
  rw [seq_nx (τ1 := R8c r true (some (.r 0)) none none none none) (h1 := [.lst ((r.hs.map D.int).map A.d)]) (set_of (by
    rw [un_of (row_get (r := r) (j := 0) (i := 2) (z := 2) (x := LD r.hs) rfl rfl rfl)]
    exact mkL_c (by rw [List.length_map]; exact hl1)))]
  rw [seq_nx (τ1 := R8c r true (some (.r 0)) (some (.r 1)) none none none) (h1 := [.lst ((r.hs.map D.int).map A.d), .lst (r.pubs.map A.d)]) (set_of (by
    rw [un_of (row_get (r := r) (j := 0) (i := 4) (z := 4) (x := .lst r.pubs) rfl rfl rfl)]
    exact mkL_c (by rw [List.length_map]; exact l2)))]
  rw [seq_nx (τ1 := R8c r true (some (.r 0)) (some (.r 1)) (some (.r 2)) none none) (h1 := h3) (set_of (by
    rw [call_of (ws := [.d (.lst r.parts)]) (h1 := [.lst ((r.hs.map D.int).map A.d), .lst (r.pubs.map A.d)]) (len_of (n := 1) (cons_of (r := []) (row_get (r := r) (j := 0) (i := 5) (z := 5) (x := .lst r.parts) rfl rfl rfl) rfl) rfl)]
    exact e3))]
  rw [seq_nx (τ1 := τ5) (h1 := h4) (set_of (by
    unfold mMake
    rw [cons_of (row_get (r := r) (j := 0) (i := 0) (z := 0) (x := .int (r.a : Nat)) rfl rfl rfl) (cons_of (row_get (r := r) (j := 0) (i := 1) (z := 1) (x := .int r.n) rfl rfl rfl) (cons_of (var_of rfl) (cons_of (row_get (r := r) (j := 0) (i := 3) (z := 3) (x := r.cap) rfl rfl rfl) (cons_of (var_of rfl) (cons_of (r := []) (var_of rfl) rfl))))), bd_ok]
    rw [if_pos (show ([A.d (.int (r.a : Nat)), .d (.int r.n), .r 0, .d r.cap, .r 1, .r 2] : List A).length + 1 = 7 from rfl), hK, e4]))]
  rw [seq_nx (τ1 := τ5.set 6 b6) (h1 := h8) (by
    unfold L1__law_change
    rw [mFor_of eI]
    exact f1)]
  rw [seq_nx (append_of (k := 2) (ws := vs) (w := .d .non) (var_of rfl) v1 rfl (by show _ < 16777216; omega))]
  rw [seq_nx (τ1 := R8c r true (some (.r 0)) (some (.r 1)) (some (.r 2)) (some (.d (chg r))) b6) (by
    unfold mFz
    show (match (h8.set 2 (.lst (vs ++ [A.d .non])))[K]? with | some c => (match fzO c with | some d => some (So.nx ((τ5.set 6 b6).set 5 (some (.d d))) ((h8.set 2 (.lst (vs ++ [A.d .non]))).set K .dead)) | none => none) | none => none) = _
    rw [List.getElem?_set_ne (by omega), cK8]
    dsimp only [fzO]
    rw [allD_map]
    rfl)]
  rfl
end K02

set_option maxHeartbeats 1000000
namespace K02
open PySem PySem.Spec PyProof.Rows L2 Tq
theorem Sm.mono {n : Nat} : ∀ {d : D}, Sm n d → Sm (n + 1) d := by
  induction n with
  | zero => intro d s; cases s
  | succ n ih =>
    intro d s
    cases s with
    | non => exact .non
    | bl b => exact .bl b
    | int i => exact .int i
    | str h => exact .str h
    | tup h l => exact .tup (fun d hd => ih (h d hd)) l
    | lst h l => exact .lst (fun d hd => ih (h d hd)) l
/-- fields of data -/
theorem fg (f : Str) {i : Nat} {ds : List D} {x : D} (hf : fOk FT "Change" f = true) (e : fGet f FS (ds.map A.d) = some (.d x)) {τ : Sl} {h : Hq} {j : Nat} (e0 : τ[j]? = some (some (.d (.nd (.ins "Change" FS) ds)))) : mUn (gFld FT f) (mVar j) τ h = some (.ok (.d x) h) := by
  rw [un_of (var_of e0)]
  unfold gFld
  show (match dicOf h (.d (.nd (.ins "Change" FS) ds)) with | _ => _) = _
  simp only [dicOf, hf, if_true, e]
theorem f_a (r : Row) {τ : Sl} {h : Hq} {j : Nat} (e0 : τ[j]? = some (some (.d (chg r)))) : mUn (gFld FT "author") (mVar j) τ h = some (.ok (.d (.int (r.a : Nat))) h) := fg (i := 0) "author" ok1 (by with_unfolding_all rfl) e0
theorem f_n (r : Row) {τ : Sl} {h : Hq} {j : Nat} (e0 : τ[j]? = some (some (.d (chg r)))) : mUn (gFld FT "number") (mVar j) τ h = some (.ok (.d (.int r.n)) h) := fg (i := 0) "number" ok2 (by with_unfolding_all rfl) e0
theorem f_h (r : Row) {τ : Sl} {h : Hq} {j : Nat} (e0 : τ[j]? = some (some (.d (chg r)))) : mUn (gFld FT "heard") (mVar j) τ h = some (.ok (.d (.tup (r.hs.map D.int))) h) := fg (i := 0) "heard" ok3 (by with_unfolding_all rfl) e0
theorem f_c (r : Row) {τ : Sl} {h : Hq} {j : Nat} (e0 : τ[j]? = some (some (.d (chg r)))) : mUn (gFld FT "capability") (mVar j) τ h = some (.ok (.d r.cap) h) := fg (i := 0) "capability" ok4 (by with_unfolding_all rfl) e0
theorem f_p (r : Row) {τ : Sl} {h : Hq} {j : Nat} (e0 : τ[j]? = some (some (.d (chg r)))) : mUn (gFld FT "publics") (mVar j) τ h = some (.ok (.d (.tup r.pubs)) h) := fg (i := 0) "publics" ok5 (by with_unfolding_all rfl) e0
theorem f_q (r : Row) {τ : Sl} {h : Hq} {j : Nat} (e0 : τ[j]? = some (some (.d (chg r)))) : mUn (gFld FT "parts") (mVar j) τ h = some (.ok (.d (.tup r.parts)) h) := fg (i := 0) "parts" ok6 (by with_unfolding_all rfl) e0
def hdD (r : Row) : D := .tup [.int (r.a : Nat), .int r.n, .tup (r.hs.map D.int), r.cap, .tup r.pubs]
def nmD (r : Row) : D := .tup [.int (r.a : Nat), .int r.n]
def kyD (r : Row) : D := .tup [.int r.hs.sum, .int (r.a : Nat), .int r.n]
theorem name_ok (r : Row) : sem_Change__name [.d (chg r)] [] = some (.ok (.d (nmD r)) []) := by
  refine runB_rt rfl ?_
  show b_Change__name [some (.d (chg r))] [] = _
  unfold b_Change__name
  exact ret_of (tup_of (dcons_of (f_a r rfl) (dcons_of (f_n r rfl) dnil_of)) (by show 2 ≤ 16777216; decide))
theorem header_ok (r : Row) : sem_Change__header [.d (chg r)] [] = some (.ok (.d (hdD r)) []) := by
  refine runB_rt rfl ?_
  show b_Change__header [some (.d (chg r))] [] = _
  unfold b_Change__header
  exact ret_of (tup_of (dcons_of (f_a r rfl) (dcons_of (f_n r rfl) (dcons_of (f_h r rfl) (dcons_of (f_c r rfl) (dcons_of (f_p r rfl) dnil_of))))) (by show 5 ≤ 16777216; decide))
theorem mapMn_int : ∀ (xs : List Int), mapMn intA ((xs.map D.int).map A.d) = some xs
  | [] => rfl
  | x :: r => by
    rw [List.map_cons, List.map_cons]
    unfold mapMn
    rw [mapMn_int r]
    rfl
theorem sum_tup (xs : List Int) (h : Hq) : gSum (.d (.tup (xs.map D.int))) h = some (.ok (.d (.int xs.sum)) h) := by
  show (match mapMn intA ((xs.map D.int).map A.d) with | some ns => some (Rs.ok (A.d (D.int ns.sum)) h) | none => none) = _
  rw [mapMn_int]
theorem sum_lst (xs : List Int) (h : Hq) : gSum (.d (LD xs)) h = some (.ok (.d (.int xs.sum)) h) := by
  show (match mapMn intA ((xs.map D.int).map A.d) with | some ns => some (Rs.ok (A.d (D.int ns.sum)) h) | none => none) = _
  rw [mapMn_int]
theorem key_ok (r : Row) : sem_order_key [.d (chg r)] [] = some (.ok (.d (kyD r)) []) := by
  refine runB_rt rfl ?_
  show b_order_key [some (.d (chg r))] [] = _
  unfold b_order_key
  exact ret_of (tup_of (dcons_of (by rw [un_of (f_h r rfl)]; exact sum_tup _ _) (dcons_of (f_a r rfl) (dcons_of (f_n r rfl) dnil_of))) (by show 3 ≤ 16777216; decide))
end K02

set_option maxHeartbeats 1000000
namespace K02
open PySem PySem.Spec PyProof.Rows L2 Tq
theorem sameq {d : D} (s : Sm 8 d) {τ : Sl} {h : Hq} {m1 m2 : E A} (e1 : m1 τ h = some (.ok (.d d) h)) (e2 : m2 τ h = some (.ok (.d d) h)) : mCallP (sem__law_same 8) (lenIs 2 (maCons m1 (maCons m2 maNil))) τ h = some (.ok (.d (.bl true)) h) :=
  callP_of (ds := [d, d]) (len_of (n := 2) (cons_of e1 (cons_of (r := []) e2 rfl)) rfl) (same_ok s) (vw_d _ _ _)
theorem two_ok {d e : D} (s : Sm 8 d) (t : Sm 8 e) {τ : Sl} {h : Hq} {m1 m2 m3 m4 : E A} (e1 : m1 τ h = some (.ok (.d d) h)) (e2 : m2 τ h = some (.ok (.d d) h)) (e3 : m3 τ h = some (.ok (.d e) h)) (e4 : m4 τ h = some (.ok (.d e) h)) {m : MS} :
    mSeq (mIf (mOrT (mNotT (mTru (mCallP (sem__law_same 8) (lenIs 2 (maCons m1 (maCons m2 maNil)))))) (mNotT (mTru (mCallP (sem__law_same 8) (lenIs 2 (maCons m3 (maCons m4 maNil))))))) (mRet (mC (.bl false))) mNx) m τ h = m τ h := by
  rw [seq_nx (τ1 := τ) (h1 := h) (by
    rw [if_ff (h1 := h) (orff_of (tru_bl (b := true) (sameq s e1 e2)) (tru_bl (b := true) (sameq t e3 e4)))]
    rfl)]
theorem methP_of {C m : Str} {n : Nat} {sem : Sem1} {mo : E A} {mr : E (List A)} {τ : Sl} {h : Hq} {o : D} {ds : List D} {x : D} {h' : Hq} (e1 : mo τ h = some (.ok (.d o) h)) (hi : insOf C m (.d o) h = true) (e2 : mr τ h = some (.ok (ds.map A.d) h)) (hl : ds.length + 1 = n) (e3 : sem ((o :: ds).map A.d) [] = some (.ok (.d x) h')) : mMethP C m n sem mo mr τ h = some (.ok (.d x) h) := by
  unfold mMethP
  rw [e1, bd_ok, if_pos hi, e2, bd_ok, if_pos (by rw [List.length_map]; exact hl)]
  unfold callP
  rw [show A.d o :: ds.map A.d = (o :: ds).map A.d from rfl, mapMn_d _ _ (vw_d 32 h)]
  dsimp only
  rw [e3]
  dsimp only
  rw [show view h' (.d x) = some x from vw_d _ _ _, allD_map]
  rfl
theorem ins_chg (r : Row) {m : Str} (hm : decide (m ∈ FS) = false) (h : Hq) : insOf "Change" m (.d (chg r)) h = true := by
  unfold insOf chg dicOf
  dsimp only
  rw [hm]
  simp
def newP : List D := [.tup [], .non, .non, .tup [.tup [.str "table", .str "u"]]]
def newA : D := .lst [.tup [], .non, .non, .lst [.tup [.str "table", .str "u"]]]
theorem c1_new {h : Hq} {k : Nat} {a n : Int} {a3 a5 : A} {cap : D} : C1_Change____init__ (R8 k a n a3 cap a5 (.d newA)) h = some (.ok (.d (.lst newP)) h) := by
  unfold C1_Change____init__
  rw [lc_of (ws := [.d (.tup []), .d .non, .d .non, .d (.lst [.tup [.str "table", .str "u"]])]) (h1 := h) (fun w => match w with | .d (.lst x) => .d (.tup x) | w => w) rfl (fun w hw => by
    simp only [List.mem_cons, List.not_mem_nil, or_false] at hw
    refine ⟨[some (.r k), some (.d (.int a)), some (.d (.int n)), some a3, some (.d cap), some a5, some (.d newA), some w], rfl, ?_⟩
    unfold E1_Change____init__
    rw [call_of (ws := [w]) (h1 := h) (len_of (n := 1) (cons_of (r := []) (var_of rfl) rfl) rfl)]
    rcases hw with rfl | rfl | rfl | rfl
    · exact astup_ok (.tup (by decide))
    · exact astup_ok .non
    · exact astup_ok .non
    · rfl) (by show 4 ≤ 16777216; decide)]
  rfl
theorem with_ok {r : Row} (ho : RowOk r) : sem_Change__with_parts [.d (chg r), .d newA] [] = some (.ok (.d (chg { r with parts := newP })) []) := by
  obtain ⟨l1, l2, l3⟩ := ok_rows ho
  have hl1 : (r.hs.map D.int).length ≤ LIM := by rw [List.length_map]; exact l1
  refine runB_rt rfl ?_
  show b_Change__with_parts [some (.d (chg r)), some (.d newA)] [] = _
  unfold b_Change__with_parts
  refine ret_of ?_
  unfold mMakeP
  rw [cons_of (f_a r rfl) (cons_of (f_n r rfl) (cons_of (f_h r rfl) (cons_of (f_c r rfl) (cons_of (f_p r rfl) (cons_of (r := []) (var_of rfl) rfl))))), bd_ok]
  unfold makeP
  have e := init_ok (h := [.nd (.ins "Change" []) []]) (k := 0) (a := (r.a : Nat)) (n := r.n) (cap := r.cap) (a3 := .d (.tup (r.hs.map D.int))) (a5 := .d (.tup r.pubs)) (a6 := .d newA) (X3 := r.hs.map D.int) (X5 := r.pubs) (X6 := newP) rfl (fun h' _ => tupOf_tup hl1 h') (fun h' _ => tupOf_tup l2 h') (fun h' _ => c1_new) (by show 4 ≤ 16777216; decide)
  rw [if_pos (show ([A.d (.int (r.a : Nat)), .d (.int r.n), .d (.tup (r.hs.map D.int)), .d r.cap, .d (.tup r.pubs), .d newA] : List A).length + 1 = 7 from rfl)]
  rw [show allD [A.d (.int (r.a : Nat)), .d (.int r.n), .d (.tup (r.hs.map D.int)), .d r.cap, .d (.tup r.pubs), .d newA] = some [.int (r.a : Nat), .int r.n, .tup (r.hs.map D.int), r.cap, .tup r.pubs, newA] from allD_map (ds := [.int (r.a : Nat), .int r.n, .tup (r.hs.map D.int), r.cap, .tup r.pubs, newA])]
  dsimp only
  rw [show (A.r 0 :: ([.int (r.a : Nat), .int r.n, .tup (r.hs.map D.int), r.cap, .tup r.pubs, newA] : List D).map A.d) = [.r 0, .d (.int (r.a : Nat)), .d (.int r.n), .d (.tup (r.hs.map D.int)), .d r.cap, .d (.tup r.pubs), .d newA] from rfl, e]
  dsimp only
  rw [show view ([O.nd (.ins "Change" []) []].set 0 (.nd (.ins "Change" FS) (([.int (r.a : Nat), .int r.n, .tup (r.hs.map D.int), r.cap, .tup r.pubs, .tup newP] : List D).map A.d))) (.r 0) = some (chg { r with parts := newP }) from view_nd (k := 0) rfl]
end K02

set_option maxHeartbeats 1000000
namespace K02
open PySem PySem.Spec PyProof.Rows L2 Tq
theorem sm_ints {n : Nat} {xs : List Int} (hl : xs.length ≤ 100) : Sm (n + 2) (.tup (xs.map D.int)) := .tup (fun d hd => by
  obtain ⟨i, _, rfl⟩ := List.mem_map.mp hd
  exact .int i) (by rw [List.length_map]; show _ ≤ 16777216; omega)
theorem sm_part {p : D} (x : PartOk p) : Sm 5 p := by
  rcases x with rfl | ⟨ds, rfl, hl, h⟩
  · exact .non
  · exact sm_tup h hl
theorem sm_parts {ps : List D} (h : ∀ p ∈ ps, PartOk p) (hl : ps.length ≤ 8) : Sm 6 (.tup ps) := sm_tup (fun d hd => sm_part (h d hd)) (by omega)
theorem sm5 {n : Nat} {x y z w v : D} (hx : Sm n x) (hy : Sm n y) (hz : Sm n z) (hw : Sm n w) (hv : Sm n v) : ∀ d ∈ [x, y, z, w, v], Sm n d := fun d hd => by
  simp only [List.mem_cons, List.not_mem_nil, or_false] at hd
  rcases hd with rfl | rfl | rfl | rfl | rfl
  · exact hx
  · exact hy
  · exact hz
  · exact hw
  · exact hv
abbrev R4 (r : Row) (a2 a3 : Option A) : Sl := [some (.d (chg r)), some (.d (rD r)), a2, a3]
theorem newP_ok : ∀ p ∈ newP, PartOk p := fun p hp => by
  unfold newP at hp
  simp only [List.mem_cons, List.not_mem_nil, or_false] at hp
  rcases hp with rfl | rfl | rfl | rfl
  · exact .inr ⟨[], rfl, by decide, fun x hx => by cases hx⟩
  · exact .inl rfl
  · exact .inl rfl
  · exact .inr ⟨_, rfl, by decide, sm1 (sm_tup (sm2 (.str (by decide +kernel)) (.str (by decide +kernel))) (by decide))⟩
theorem kept_ok {r : Row} (ho : RowOk r) : sem__law_is_kept [.d (chg r), .d (rD r)] [] = some (.ok (.d (.bl true)) []) := by
  obtain ⟨l1, l2, l3⟩ := ok_rows ho
  have hh := ho.l
  have hl1 : (r.hs.map D.int).length ≤ LIM := by rw [List.length_map]; exact l1
  have sH : Sm 7 (.tup (r.hs.map D.int)) := sm_ints (by omega)
  have sP : Sm 7 (.tup r.pubs) := sm_tup (fun d hd => (ho.p.2 d hd).mono) (by have := ho.p.1; omega)
  have sC : Sm 7 r.cap := ho.c.mono
  have sQ : Sm 8 (.tup r.parts) := (sm_parts ho.q.2 ho.q.1).mono.mono
  have sHd : Sm 8 (hdD r) := sm_tup (sm5 (.int _) (.int _) sH sC sP) (by show 5 ≤ 100; decide)
  have sNm : Sm 8 (nmD r) := sm_tup (sm2 (.int _) (.int _)) (by show 2 ≤ 100; decide)
  have sKy : Sm 8 (kyD r) := sm_tup (sm3 (.int _) (.int _) (.int _)) (by show 3 ≤ 100; decide)
  have sNp : Sm 8 (.tup newP) := (sm_parts newP_ok (by decide)).mono.mono
  have g0 : ∀ (τ : Sl), τ[1]? = some (some (.d (rD r))) → mBin gGet (mVar 1) (mC (.int 0)) τ [] = some (.ok (.d (.int (r.a : Nat))) []) := fun τ e => row_get (r := r) (j := 1) (i := 0) (z := 0) rfl e rfl
  have g1 : ∀ (τ : Sl), τ[1]? = some (some (.d (rD r))) → mBin gGet (mVar 1) (mC (.int 1)) τ [] = some (.ok (.d (.int r.n)) []) := fun τ e => row_get (r := r) (j := 1) (i := 1) (z := 1) rfl e rfl
  have g2 : ∀ (τ : Sl), τ[1]? = some (some (.d (rD r))) → mBin gGet (mVar 1) (mC (.int 2)) τ [] = some (.ok (.d (LD r.hs)) []) := fun τ e => row_get (r := r) (j := 1) (i := 2) (z := 2) rfl e rfl
  have g3 : ∀ (τ : Sl), τ[1]? = some (some (.d (rD r))) → mBin gGet (mVar 1) (mC (.int 3)) τ [] = some (.ok (.d r.cap) []) := fun τ e => row_get (r := r) (j := 1) (i := 3) (z := 3) rfl e rfl
  have g4 : ∀ (τ : Sl), τ[1]? = some (some (.d (rD r))) → mUn gTupOf (mBin gGet (mVar 1) (mC (.int 4))) τ [] = some (.ok (.d (.tup r.pubs)) []) := fun τ e => by
    rw [un_of (row_get (r := r) (j := 1) (i := 4) (z := 4) rfl e rfl)]
    exact tupOf_lst l2 []
  have g5 : ∀ (τ : Sl), τ[1]? = some (some (.d (rD r))) → mUn gTupOf (mBin gGet (mVar 1) (mC (.int 5))) τ [] = some (.ok (.d (.tup r.parts)) []) := fun τ e => by
    rw [un_of (row_get (r := r) (j := 1) (i := 5) (z := 5) rfl e rfl)]
    exact tupOf_lst l3 []
  have hd2 : ∀ (τ : Sl) (i : Nat) (z : Int) (x : D), z = ((i : Nat) : Int) → τ[2]? = some (some (.d (hdD r))) → ([.int (r.a : Nat), .int r.n, .tup (r.hs.map D.int), r.cap, .tup r.pubs] : List D)[i]? = some x → mBin gGet (mVar 2) (mC (.int z)) τ [] = some (.ok (.d x) []) := fun τ i z x hz e ex => by
    subst hz
    rw [bin_of (var_of e) rfl]
    exact gGet_tup ex
  have mh : ∀ (τ : Sl) (j : Nat) (q : Row), τ[j]? = some (some (.d (chg q))) → mMethP "Change" "header" 1 sem_Change__header (mVar j) maNil τ [] = some (.ok (.d (hdD q)) []) := fun τ j q e => methP_of (ds := []) (var_of e) (ins_chg q (by decide +kernel) []) rfl rfl (header_ok q)
  have mn : ∀ (τ : Sl), τ[0]? = some (some (.d (chg r))) → mMethP "Change" "name" 1 sem_Change__name (mVar 0) maNil τ [] = some (.ok (.d (nmD r)) []) := fun τ e => methP_of (ds := []) (var_of e) (ins_chg r (by decide +kernel) []) rfl rfl (name_ok r)
  refine runB_rt rfl ?_
  show b__law_is_kept (R4 r none none) [] = _
  unfold b__law_is_kept
  rw [seq_nx (τ1 := R4 r (some (.d (hdD r))) none) (h1 := []) (set_of (tup_of (dcons_of (g0 _ rfl) (dcons_of (g1 _ rfl) (dcons_of (by rw [un_of (g2 _ rfl)]; exact tupOf_lst hl1 []) (dcons_of (g3 _ rfl) (dcons_of (g4 _ rfl) dnil_of))))) (by show 5 ≤ 16777216; decide)))]
  rw [two_ok sHd sNm (mh _ 0 r rfl) (var_of rfl) (mn _ rfl) (tup_of (dcons_of (g0 _ rfl) (dcons_of (g1 _ rfl) dnil_of)) (by show 2 ≤ 16777216; decide))]
  rw [two_ok sH.mono sP.mono (f_h r rfl) (hd2 _ 2 2 _ rfl rfl rfl) (f_p r rfl) (hd2 _ 4 4 _ rfl rfl rfl)]
  rw [two_ok sQ sC.mono (f_q r rfl) (g5 _ rfl) (f_c r rfl) (g3 _ rfl)]
  have eN : mLst false (maCons (mTup maNil) (maCons (mC .non) (maCons (mC .non) (maCons (mLst false (maCons (mTup (maCons (mC (.str "table")) (maCons (mC (.str "u")) maNil))) maNil)) maNil)))) (R4 r (some (.d (hdD r))) none) [] = some (.ok (.d newA) []) := rfl
  rw [seq_nx (τ1 := R4 r (some (.d (hdD r))) (some (.d (chg { r with parts := newP })))) (h1 := []) (set_of (methP_of (ds := [newA]) (var_of rfl) (ins_chg r (by decide +kernel) []) (dcons_of eN dnil_of) rfl (with_ok ho)))]
  rw [two_ok sHd sNp (mh _ 3 { r with parts := newP } rfl) (var_of rfl) (f_q { r with parts := newP } rfl) (by rfl)]
  rw [two_ok sQ (.int _) (f_q r rfl) (g5 _ rfl) (f_a r rfl) (g0 _ rfl)]
  refine ret_of (andv_of (sameq (.int _) (f_n r rfl) (g1 _ rfl)) (sameq sKy (callP_of (ds := [chg r]) (len_of (n := 1) (cons_of (r := []) (var_of rfl) rfl) rfl) (key_ok r) (vw_d _ _ _)) (tup_of (dcons_of (by rw [un_of (g2 _ rfl)]; exact sum_lst _ _) (dcons_of (g0 _ rfl) (dcons_of (g1 _ rfl) dnil_of))) (by show 3 ≤ 16777216; decide))))
end K02

set_option maxHeartbeats 1000000
namespace K02
open PySem PySem.Spec PyProof.Rows L2 Tq
theorem ordLE (i j : Int) (h : Hq) : gOrdO .LtE (.d (.int i)) (.d (.int j)) h = some (.ok (.d (.bl (decide (i ≤ j)))) h) := rfl
theorem ordLT (i j : Int) (h : Hq) : gOrdO .Lt (.d (.int i)) (.d (.int j)) h = some (.ok (.d (.bl (decide (i < j)))) h) := rfl
theorem getd {xs : List Int} {n : Nat} (hn : n < xs.length) : xs[n]? = some (xs.getD n 0) := by
  rw [List.getD_eq_getElem?_getD, List.getElem?_eq_getElem hn]
  rfl
def pst (hs : List Int) (au nu : Int) : Bool := if 0 ≤ au ∧ au < (hs.length : Nat) then decide (1 ≤ nu) && decide (nu ≤ hs.getD au.toNat 0) else false
theorem chain_tt {g1 g2 : G2} {ma mb mc : E A} {τ : Sl} {h : Hq} {a b c : A} (e1 : ma τ h = some (.ok a h)) (e2 : mb τ h = some (.ok b h)) (e3 : g1 a b h = some (.ok (.d (.bl true)) h)) (e4 : mc τ h = some (.ok c h)) : mChain g1 g2 ma mb mc τ h = g2 b c h := by
  unfold mChain
  rw [e1, bd_ok, e2, bd_ok, e3, bd_ok]
  dsimp only
  rw [e4, bd_ok]
theorem chain_ff {g1 g2 : G2} {ma mb mc : E A} {τ : Sl} {h : Hq} {a b : A} (e1 : ma τ h = some (.ok a h)) (e2 : mb τ h = some (.ok b h)) (e3 : g1 a b h = some (.ok (.d (.bl false)) h)) : mChain g1 g2 ma mb mc τ h = some (.ok (.d (.bl false)) h) := by
  unfold mChain
  rw [e1, bd_ok, e2, bd_ok, e3, bd_ok]
theorem andv_ff {m1 m2 : E A} {τ : Sl} {h : Hq} (e1 : m1 τ h = some (.ok (.d (.bl false)) h)) : mAndV m1 m2 τ h = some (.ok (.d (.bl false)) h) := by
  unfold mAndV
  rw [e1, bd_ok]
theorem len_tup (xs : List Int) (h : Hq) : gLen (.d (.tup (xs.map D.int))) h = some (.ok (.d (.int (xs.length : Nat))) h) := by
  show some (Rs.ok (A.d (D.int ((((xs.map D.int).map A.d).length : Nat) : Int))) h) = _
  rw [List.length_map, List.length_map]
theorem in_past_ok {r : Row} {au nu : Int} : ∃ h', sem_in_past [.d (.tup [.int au, .int nu]), .d (chg r)] [] = some (.ok (.d (.bl (pst r.hs au nu))) h') := by
  refine ⟨[], runB_rt rfl ?_⟩
  show b_in_past [some (.d (.tup [.int au, .int nu])), some (.d (chg r)), none, none] [] = _
  unfold b_in_past
  generalize hτ : ([some (.d (.tup [.int au, .int nu])), some (.d (chg r)), some (.d (.int au)), some (.d (.int nu))] : Sl) = τ
  rw [seq_nx (τ1 := τ) (h1 := []) (by rw [← hτ]; rfl)]
  have t1 : τ[1]? = some (some (.d (chg r))) := by rw [← hτ]; rfl
  have t2 : τ[2]? = some (some (.d (.int au))) := by rw [← hτ]; rfl
  have t3 : τ[3]? = some (some (.d (.int nu))) := by rw [← hτ]; rfl
  have el : mUn gLen (mUn (gFld FT "heard") (mVar 1)) τ [] = some (.ok (.d (.int (r.hs.length : Nat))) []) := by rw [un_of (f_h r t1)]; exact len_tup _ _
  refine ret_of ?_
  unfold pst
  by_cases z : 0 ≤ au
  · have c1 : mChain gLe gLt (mC (.int 0)) (mVar 2) (mUn gLen (mUn (gFld FT "heard") (mVar 1))) τ [] = some (.ok (.d (.bl (decide (au < (r.hs.length : Nat))))) []) := chain_tt (a := .d (.int 0)) rfl (var_of t2) (by rw [gLe_int, decide_eq_true z]) el
    by_cases y : au < (r.hs.length : Nat)
    · rw [decide_eq_true y] at c1
      rw [if_pos ⟨z, y⟩]
      refine andv_of c1 ?_
      obtain ⟨n, rfl⟩ : ∃ n : Nat, au = n := ⟨au.toNat, by omega⟩
      have hn : n < r.hs.length := by omega
      have eg : mBin gGet (mUn (gFld FT "heard") (mVar 1)) (mVar 2) τ [] = some (.ok (.d (.int (r.hs.getD n 0))) []) := by
        rw [bin_of (f_h r t1) (var_of t2)]
        refine gGet_tup ?_
        rw [List.getElem?_map, getd hn]
        rfl
      rw [Int.toNat_natCast]
      by_cases x : 1 ≤ nu
      · rw [chain_tt (a := .d (.int 1)) rfl (var_of t3) (by rw [gLe_int, decide_eq_true x]) eg, gLe_int, decide_eq_true x]
        rfl
      · rw [chain_ff (a := .d (.int 1)) rfl (var_of t3) (by rw [gLe_int, decide_eq_false x]), decide_eq_false x]
        rfl
    · rw [decide_eq_false y] at c1
      rw [if_neg (fun q => y q.2)]
      exact andv_ff c1
  · rw [if_neg (fun q => z q.1)]
    exact andv_ff (chain_ff (a := .d (.int 0)) rfl (var_of t2) (by rw [gLe_int, decide_eq_false z]))
theorem is_past_ok {r : Row} {au nu : Int} : ∃ h', sem__law_is_past [.d (.tup [.int au, .int nu]), .d (rD r)] [] = some (.ok (.d (.bl (pst r.hs au nu))) h') := by
  refine ⟨[], runB_rt rfl ?_⟩
  show b__law_is_past [some (.d (.tup [.int au, .int nu])), some (.d (rD r))] [] = _
  unfold b__law_is_past
  generalize hτ : ([some (.d (.tup [.int au, .int nu])), some (.d (rD r))] : Sl) = τ
  have t1 : τ[1]? = some (some (.d (rD r))) := by rw [← hτ]; rfl
  have ga : mBin gGet (mVar 0) (mC (.int 0)) τ [] = some (.ok (.d (.int au)) []) := by rw [← hτ]; rfl
  have gn : mBin gGet (mVar 0) (mC (.int 1)) τ [] = some (.ok (.d (.int nu)) []) := by rw [← hτ]; rfl
  have g2 : mBin gGet (mVar 1) (mC (.int 2)) τ [] = some (.ok (.d (LD r.hs)) []) := row_get (r := r) (j := 1) (i := 2) (z := 2) rfl t1 rfl
  refine ret_of ?_
  unfold pst
  have e1 : mBin gLe (mC (.int 0)) (mBin gGet (mVar 0) (mC (.int 0))) τ [] = some (.ok (.d (.bl (decide (0 ≤ au)))) []) := by rw [bin_of rfl ga]; rfl
  have e2 : mBin gLt (mBin gGet (mVar 0) (mC (.int 0))) (mUn gLen (mBin gGet (mVar 1) (mC (.int 2)))) τ [] = some (.ok (.d (.bl (decide (au < (r.hs.length : Nat))))) []) := by rw [bin_of ga (by rw [un_of g2]; exact gLen_d _ _)]; rfl
  have e3 : mBin gLe (mC (.int 1)) (mBin gGet (mVar 0) (mC (.int 1))) τ [] = some (.ok (.d (.bl (decide (1 ≤ nu)))) []) := by rw [bin_of rfl gn]; rfl
  by_cases z : 0 ≤ au
  · rw [decide_eq_true z] at e1
    refine andv_of e1 ?_
    by_cases y : au < (r.hs.length : Nat)
    · rw [decide_eq_true y] at e2
      rw [if_pos ⟨z, y⟩]
      refine andv_of e2 ?_
      obtain ⟨n, rfl⟩ : ∃ n : Nat, au = n := ⟨au.toNat, by omega⟩
      have hn : n < r.hs.length := by omega
      rw [Int.toNat_natCast]
      by_cases x : 1 ≤ nu
      · rw [decide_eq_true x] at e3 ⊢
        refine andv_of e3 ?_
        rw [bin_of gn (by
          rw [bin_of g2 ga]
          exact gGet_d [] (getd hn))]
        exact ordLE _ _ _
      · rw [decide_eq_false x] at e3 ⊢
        exact andv_ff e3
    · rw [decide_eq_false y] at e2
      rw [if_neg (fun q => y q.2)]
      exact andv_ff e2
  · rw [decide_eq_false z] at e1
    rw [if_neg (fun q => z q.1)]
    exact andv_ff e1
end K02

set_option maxHeartbeats 1000000
namespace K02
open PySem PySem.Spec PyProof.Rows L2 Tq
abbrev R7 (ds : List Int) (rows : List Row) (a3 a4 a5 a6 : Option A) : Sl := [some (.d (LD ds)), some (.d (.lst (rows.map rD))), some (.d (.lst (rows.map chg))), a3, a4, a5, a6]
theorem asks_turn {ds : List Int} (hd : Drs ds) {rows : List Row} {r : Row} {n : Nat} {au : Int} (er : rows[n]? = some r) (ho : RowOk r) (hn : n < 200) (ha : -9 ≤ au ∧ au < 12) {a5 a6 : Option A} : ∃ b5 b6, B1__law_asks_past (R7 ds rows (some (.d (.int (n : Nat)))) (some (.d (.int au))) a5 a6) [] = some (.nx (R7 ds rows (some (.d (.int (n : Nat)))) (some (.d (.int au))) b5 b6) []) := by
  have at_ : ∀ {τ : Sl} {m : E A} {i : Int}, 0 ≤ i ∧ i < 100000000 → τ[0]? = some (some (.d (LD ds))) → m τ [] = some (.ok (.d (.int i)) []) → mCallP sem__law_at (lenIs 2 (maCons (mVar 0) (maCons m maNil))) τ [] = some (.ok (.d (.int (atv ds i))) []) := fun hi e0 e => atr_ok hd hi (var_of e0) e
  obtain ⟨l, el, hl⟩ := pick3 4 3 9973 (atv ds 4 % 3) [] (by omega) (by omega)
  have row : ∀ (τ : Sl), τ[1]? = some (some (.d (.lst (rows.map rD)))) → τ[3]? = some (some (.d (.int (n : Nat)))) → mBin gGet (mVar 1) (mVar 3) τ [] = some (.ok (.d (rD r)) []) := fun τ e1 e3 => by
    rw [bin_of (var_of e1) (var_of e3)]
    exact gGet_lst (by rw [List.getElem?_map, er]; rfl)
  have rowh : ∀ (τ : Sl), τ[1]? = some (some (.d (.lst (rows.map rD)))) → τ[3]? = some (some (.d (.int (n : Nat)))) → mBin gGet (mBin gGet (mVar 1) (mVar 3)) (mC (.int 2)) τ [] = some (.ok (.d (LD r.hs)) []) := fun τ e1 e3 => by
    rw [bin_of (row τ e1 e3) rfl]
    rfl
  obtain ⟨n1, e1⟩ : ∃ n1, mSet 5 (mBin (gAdd false) (mC (.int 1)) (mBin gMod (mCallP sem__law_at (lenIs 2 (maCons (mVar 0) (maCons (mBin (gAdd false) (mBin (gAdd false) (mC (.int 700)) (mBin gMul (mC (.int 10)) (mVar 3))) (mVar 4)) maNil)))) (mBin gGet (mLst false (maCons (mC (.int 4)) (maCons (mC (.int 3)) (maCons (mC (.int 9973)) maNil)))) (mBin gMod (mCallP sem__law_at (lenIs 2 (maCons (mVar 0) (maCons (mC (.int 4)) maNil)))) (mC (.int 3)))))) (R7 ds rows (some (.d (.int (n : Nat)))) (some (.d (.int au))) a5 a6) [] = some (.nx (R7 ds rows (some (.d (.int (n : Nat)))) (some (.d (.int au))) (some (.d (.int n1))) a6) []) :=
    ⟨_, set_of (add_of rfl (mod_of (at_ (i := 700 + 10 * (n : Int) + au) (by omega) rfl (add_of (add_of rfl (mul_of rfl (var_of rfl) (mul_small (by decide) (by omega)))) (var_of rfl))) (by
      rw [bin_of (a := .d (.lst [.int 4, .int 3, .int 9973])) (b := .d (.int (atv ds 4 % 3))) (h1 := []) (h2 := []) rfl (mod_of (at_ (by decide) rfl rfl) rfl (by decide))]
      exact el) (by omega)))⟩
  obtain ⟨n2, e2⟩ : ∃ n2, mIf (mAndT (mTB (mBin gLe (mC (.int 0)) (mVar 4))) (mAndT (mTB (mBin gLt (mVar 4) (mUn gLen (mBin gGet (mBin gGet (mVar 1) (mVar 3)) (mC (.int 2)))))) (mTB (mBin (gEq false) (mBin gMod (mCallP sem__law_at (lenIs 2 (maCons (mVar 0) (maCons (mBin (gAdd false) (mC (.int 5)) (mVar 3)) maNil)))) (mC (.int 2))) (mC (.int 0)))))) (mSet 5 (mBin gMax2 (mC (.int 1)) (mBin (gAdd false) (mBin gGet (mBin gGet (mBin gGet (mVar 1) (mVar 3)) (mC (.int 2))) (mVar 4)) (mBin gMod (mCallP sem__law_at (lenIs 2 (maCons (mVar 0) (maCons (mBin (gAdd false) (mBin (gAdd false) (mC (.int 6)) (mVar 3)) (mVar 4)) maNil)))) (mC (.int 2)))))) mNx (R7 ds rows (some (.d (.int (n : Nat)))) (some (.d (.int au))) (some (.d (.int n1))) a6) [] = some (.nx (R7 ds rows (some (.d (.int (n : Nat)))) (some (.d (.int au))) (some (.d (.int n2))) a6) []) := by
    have t1 : mTB (mBin gLe (mC (.int 0)) (mVar 4)) (R7 ds rows (some (.d (.int (n : Nat)))) (some (.d (.int au))) (some (.d (.int n1))) a6) [] = some (.ok (decide (0 ≤ au)) []) := le_of rfl (var_of rfl)
    have t2 : mTB (mBin gLt (mVar 4) (mUn gLen (mBin gGet (mBin gGet (mVar 1) (mVar 3)) (mC (.int 2))))) (R7 ds rows (some (.d (.int (n : Nat)))) (some (.d (.int au))) (some (.d (.int n1))) a6) [] = some (.ok (decide (au < (r.hs.length : Nat))) []) := lt_of (var_of rfl) (by rw [un_of (rowh _ rfl rfl)]; exact gLen_d _ _)
    have t3 : mTB (mBin (gEq false) (mBin gMod (mCallP sem__law_at (lenIs 2 (maCons (mVar 0) (maCons (mBin (gAdd false) (mC (.int 5)) (mVar 3)) maNil)))) (mC (.int 2))) (mC (.int 0))) (R7 ds rows (some (.d (.int (n : Nat)))) (some (.d (.int au))) (some (.d (.int n1))) a6) [] = some (.ok (decide (atv ds (5 + (n : Int)) % 2 = 0)) []) := tb_of (eqi_of (mod_of (at_ (by omega) rfl (add_of rfl (var_of rfl))) rfl (by decide)) rfl)
    have t := and_of t1 (and_of t2 t3)
    by_cases z : (decide (0 ≤ au) && (decide (au < (r.hs.length : Nat)) && decide (atv ds (5 + (n : Int)) % 2 = 0))) = true
    · rw [z] at t
      rw [Bool.and_eq_true, Bool.and_eq_true, decide_eq_true_iff, decide_eq_true_iff, decide_eq_true_iff] at z
      obtain ⟨m, rfl⟩ : ∃ m : Nat, au = m := ⟨au.toNat, by omega⟩
      have hm : m < r.hs.length := by omega
      refine ⟨if (r.hs.getD m 0 + atv ds (6 + (n : Int) + (m : Int)) % 2) > 1 then (r.hs.getD m 0 + atv ds (6 + (n : Int) + (m : Int)) % 2) else 1, (if_tt t).trans (set_of (i := 5) ?_)⟩
      · rw [bin_of (a := .d (.int 1)) (b := .d (.int (r.hs.getD m 0 + atv ds (6 + (n : Int) + (m : Int)) % 2))) (h1 := []) (h2 := []) rfl (add_of (by
          rw [bin_of (rowh _ rfl rfl) (var_of rfl)]
          exact gGet_d [] (getd hm)) (mod_of (at_ (by omega) rfl (add_of (add_of rfl (var_of rfl)) (var_of rfl))) rfl (by decide)))]
        rfl
    · rw [Bool.eq_false_iff.mpr z] at t
      exact ⟨n1, by rw [if_ff t]; rfl⟩
  obtain ⟨n3, e3⟩ : ∃ n3, mIf (mTB (mBin (gEq false) (mBin gMod (mCallP sem__law_at (lenIs 2 (maCons (mVar 0) (maCons (mBin (gAdd false) (mBin (gAdd false) (mC (.int 17)) (mVar 3)) (mVar 4)) maNil)))) (mC (.int 4))) (mC (.int 3)))) (mSet 5 (mBin gSub (mBin gMod (mCallP sem__law_at (lenIs 2 (maCons (mVar 0) (maCons (mBin (gAdd false) (mC (.int 9)) (mVar 3)) maNil)))) (mC (.int 3))) (mC (.int 1)))) mNx (R7 ds rows (some (.d (.int (n : Nat)))) (some (.d (.int au))) (some (.d (.int n2))) a6) [] = some (.nx (R7 ds rows (some (.d (.int (n : Nat)))) (some (.d (.int au))) (some (.d (.int n3))) a6) []) := by
    have t : mTB (mBin (gEq false) (mBin gMod (mCallP sem__law_at (lenIs 2 (maCons (mVar 0) (maCons (mBin (gAdd false) (mBin (gAdd false) (mC (.int 17)) (mVar 3)) (mVar 4)) maNil)))) (mC (.int 4))) (mC (.int 3))) (R7 ds rows (some (.d (.int (n : Nat)))) (some (.d (.int au))) (some (.d (.int n2))) a6) [] = some (.ok (decide (atv ds (17 + (n : Int) + au) % 4 = 3)) []) := tb_of (eqi_of (mod_of (at_ (by omega) rfl (add_of (add_of rfl (var_of rfl)) (var_of rfl))) rfl (by decide)) rfl)
    by_cases z : atv ds (17 + (n : Int) + au) % 4 = 3
    · rw [decide_eq_true z] at t
      exact ⟨_, (if_tt t).trans (set_of (sub_of (mod_of (at_ (i := 9 + (n : Int)) (by omega) rfl (add_of rfl (var_of rfl))) rfl (by decide)) rfl))⟩
    · rw [decide_eq_false z] at t
      exact ⟨n2, by rw [if_ff t]; rfl⟩
  obtain ⟨h4, e4⟩ := in_past_ok (r := r) (au := au) (nu := n3)
  obtain ⟨h5, e5⟩ := is_past_ok (r := r) (au := au) (nu := n3)
  refine ⟨some (.d (.int n3)), some (.d (.bl (pst r.hs au n3))), ?_⟩
  unfold B1__law_asks_past
  rw [seq_nx e1, seq_nx e2, seq_nx e3]
  have ep : ∀ (b6 : Option A), mTup (maCons (mVar 4) (maCons (mVar 5) maNil)) (R7 ds rows (some (.d (.int (n : Nat)))) (some (.d (.int au))) (some (.d (.int n3))) b6) [] = some (.ok (.d (.tup [.int au, .int n3])) []) := fun b6 => tup_of (dcons_of (var_of rfl) (dcons_of (var_of rfl) dnil_of)) (by show 2 ≤ 16777216; decide)
  rw [seq_nx (τ1 := R7 ds rows (some (.d (.int (n : Nat)))) (some (.d (.int au))) (some (.d (.int n3))) (some (.d (.bl (pst r.hs au n3))))) (h1 := []) (set_of (callP_of (ds := [.tup [.int au, .int n3], chg r]) (len_of (n := 2) (cons_of (ep _) (cons_of (r := []) (by
    rw [bin_of (var_of rfl) (var_of rfl)]
    exact gGet_lst (by rw [List.getElem?_map, er]; rfl)) rfl)) rfl) e4 (vw_d _ _ _)))]
  rw [if_ff (h1 := []) (orff_of (tru_bl (b := true) (by rw [isi_of (d := .bl (pst r.hs au n3)) (n := "bool") rfl rfl, show isiN "bool" "bool" = true from by decide +kernel])) (nebl_of (b := pst r.hs au n3) (var_of rfl) (callP_of (ds := [.tup [.int au, .int n3], rD r]) (len_of (n := 2) (cons_of (ep _) (cons_of (r := []) (row _ rfl rfl) rfl)) rfl) e5 (vw_d _ _ _))))]
  rfl
end K02

set_option maxHeartbeats 1000000
namespace K02
open PySem PySem.Spec PyProof.Rows L2 Tq
theorem asks_ok {ds : List Int} (hd : Drs ds) {rows : List Row} (hr : Rows rows) : sem__law_asks_past [.d (LD ds), .d (.lst (rows.map rD)), .d (.lst (rows.map chg))] [] = some (.ok (.d (.bl true)) []) := by
  have inner : ∀ {n : Nat} {r : Row}, rows[n]? = some r → n < 150 → ∀ (a4 a5 a6 : Option A), ∃ b4 b5 b6, B2__law_asks_past (R7 ds rows (some (.d (.int (n : Nat)))) a4 a5 a6) [] = some (.nx (R7 ds rows (some (.d (.int (n : Nat)))) b4 b5 b6) []) := by
    intro n r er hn a4 a5 a6
    obtain ⟨τ', h', e, ⟨b4, b5, b6, rfl⟩, rfl⟩ := forL_inv (g := mgName 4) (mb := B1__law_asks_past) (ws := rangeA (-9) 21) (fun _ τ h => (∃ b4 b5 b6, τ = R7 ds rows (some (.d (.int (n : Nat)))) b4 b5 b6) ∧ h = []) (τ := R7 ds rows (some (.d (.int (n : Nat)))) a4 a5 a6) (h := []) ⟨⟨a4, a5, a6, rfl⟩, rfl⟩
      (fun j w τ h hw i => by
        obtain ⟨⟨b4, b5, b6, rfl⟩, rfl⟩ := i
        obtain ⟨hj, rfl⟩ := rangeA_get hw
        obtain ⟨c5, c6, e⟩ := asks_turn hd er (hr.o r (List.mem_of_getElem? er)) (by omega) (au := -9 + (j : Int)) (by omega) (a5 := b5) (a6 := b6)
        exact ⟨R7 ds rows (some (.d (.int (n : Nat)))) (some (.d (.int (-9 + (j : Int))))) b5 b6, _, [], rfl, .inl e, ⟨_, _, _, rfl⟩, rfl⟩) (by rw [rangeA_len]; show 21 ≤ 16777216; decide)
    refine ⟨b4, b5, b6, ?_⟩
    unfold B2__law_asks_past L1__law_asks_past
    rw [mFor_of (nx := nxL (rangeA (-9) 21)) (h1 := []) rfl]
    exact e
  obtain ⟨τ', h', e, ⟨b3, b4, b5, b6, rfl⟩, rfl⟩ := forL_inv (g := mgName 3) (mb := B2__law_asks_past) (ws := rangeA 0 rows.length) (fun _ τ h => (∃ b3 b4 b5 b6, τ = R7 ds rows b3 b4 b5 b6) ∧ h = []) (τ := R7 ds rows none none none none) (h := []) ⟨⟨_, _, _, _, rfl⟩, rfl⟩
    (fun j w τ h hw i => by
      obtain ⟨⟨b3, b4, b5, b6, rfl⟩, rfl⟩ := i
      obtain ⟨hj, rfl⟩ := rangeA_get hw
      have hl := hr.l
      obtain ⟨c4, c5, c6, e⟩ := inner (n := j) (List.getElem?_eq_getElem hj) (by omega) b4 b5 b6
      refine ⟨R7 ds rows (some (.d (.int (0 + (j : Int))))) b4 b5 b6, R7 ds rows (some (.d (.int (j : Nat)))) c4 c5 c6, [], rfl, .inl ?_, ⟨_, _, _, _, rfl⟩, rfl⟩
      rw [Int.zero_add]
      exact e) (by rw [rangeA_len]; have := hr.l; show _ ≤ 16777216; omega)
  refine runB_rt rfl (w := .d (.bl true)) (h1 := []) ?_
  show b__law_asks_past (R7 ds rows none none none none) [] = _
  unfold b__law_asks_past
  rw [seq_nx (τ1 := R7 ds rows b3 b4 b5 b6) (h1 := []) (by
    unfold L2__law_asks_past
    rw [mFor_of (h1 := []) (mRange1_of (j := (rows.length : Nat)) (by
      rw [un_of (var_of rfl)]
      show some (Rs.ok (A.d (D.int ((((rows.map rD).map A.d).length : Nat) : Int))) _) = _
      rw [List.length_map, List.length_map]) (by omega) (by have := hr.l; omega)), Int.toNat_natCast]
    exact e)]
  rfl
end K02

set_option maxHeartbeats 1000000
namespace K02
open PySem PySem.Spec PyProof.Rows L2 Tq
def Lt3 (p q : Row) : Prop := p.hs.sum < q.hs.sum ∨ (p.hs.sum = q.hs.sum ∧ (p.a < q.a ∨ (p.a = q.a ∧ p.n < q.n)))
def lsR (r : Row) : List Int := [r.hs.sum, (r.a : Int), r.n]
def kzR (r : Row) : Int × List Int := (r.hs.sum, [(r.a : Int), r.n])
def Dis (p q : Row) : Prop := ¬ (p.a = q.a ∧ p.n = q.n)
theorem lsR_lt {p q : Row} (h : lsR p ≤ lsR q) (d : Dis p q) : Lt3 p q := by
  have h : [p.hs.sum, (p.a : Int), p.n] ≤ [q.hs.sum, (q.a : Int), q.n] := h
  rw [List.cons_le_cons_iff, List.cons_le_cons_iff, List.cons_le_cons_iff] at h
  unfold Dis at d
  unfold Lt3
  rcases h with h | ⟨h, h2 | ⟨h2, h3 | ⟨h3, _⟩⟩⟩
  · exact .inl h
  · exact .inr ⟨h, .inl (by omega)⟩
  · exact .inr ⟨h, .inr ⟨by omega, h3⟩⟩
  · exact absurd ⟨by omega, h3⟩ d
theorem keyOf_chg (r : Row) : keyOf sem_order_key (chg r) = some (kzR r) := by
  unfold keyOf
  rw [key_ok r]
  dsimp only
  rw [show view [] (.d (kyD r)) = some (kyD r) from vw_d _ _ _]
  rfl
theorem mapMn_chg : ∀ (rows : List Row), mapMn (keyOf sem_order_key) (rows.map chg) = some (rows.map kzR)
  | [] => rfl
  | r :: rs => by
    rw [List.map_cons, List.map_cons]
    unfold mapMn
    rw [keyOf_chg, mapMn_chg rs]
theorem sort_ok {rows : List Row} (hr : Rows rows) : ∃ rs : List Row, rs.Perm rows ∧ rs.Pairwise Lt3 ∧ sem_in_order [.d (.lst (rows.map chg))] [] = some (.ok (.r 0) [.lst ((rs.map chg).map A.d)]) := by
  have pm : (rows.mergeSort (fun p q => decide (lsR p ≤ lsR q))).Perm rows := List.mergeSort_perm _ _
  refine ⟨rows.mergeSort (fun p q => decide (lsR p ≤ lsR q)), pm, ?_, ?_⟩
  · have a : (rows.mergeSort (fun p q => decide (lsR p ≤ lsR q))).Pairwise (fun p q => decide (lsR p ≤ lsR q) = true) := List.pairwise_mergeSort (le := fun p q => decide (lsR p ≤ lsR q)) (fun x y z h1 h2 => decide_eq_true (List.le_trans (of_decide_eq_true h1) (of_decide_eq_true h2))) (fun x y => by
      rcases List.le_total (lsR x) (lsR y) with h | h
      · simp [h]
      · simp [h]) _
    have d0 : rows.Pairwise Dis := hr.u.imp fun {p q} h ⟨e1, e2⟩ => by have := h e1; omega
    have d : (rows.mergeSort (fun p q => decide (lsR p ≤ lsR q))).Pairwise Dis := pm.symm.pairwise d0 (fun {x y} h ⟨e1, e2⟩ => h ⟨e1.symm, e2.symm⟩)
    exact (a.and d).imp fun {p q} h => lsR_lt (of_decide_eq_true h.1) h.2
  · refine runB_rt rfl (w := .r 0) (h1 := [.lst (((rows.mergeSort (fun p q => decide (lsR p ≤ lsR q))).map chg).map A.d)]) ?_
    show b_in_order [some (.d (.lst (rows.map chg)))] [] = _
    unfold b_in_order
    refine ret_of ?_
    rw [un_of (var_of rfl)]
    have eb : byKeyA ((rows.map chg).map A.d) (rows.map kzR) = ((rows.mergeSort (fun p q => decide (lsR p ≤ lsR q))).map chg).map A.d := by
      unfold byKeyA
      rw [List.map_map, List.map_map, List.zip_map', ← List.map_mergeSort (r := fun p q => decide (lsR p ≤ lsR q)) (fun p _ q _ => by
        show _ = (!PySem.W.dataLt (encI (kzR q)) (encI (kzR p)))
        unfold encI
        rw [PySem.W.dataLt_tuple]
        show _ = (!PySem.W.rowLt ((lsR q).map PyData.int) ((lsR p).map PyData.int))
        rw [PySem.W.dataLt_ints]
        by_cases z : lsR q < lsR p
        · have z' : ¬ lsR p ≤ lsR q := fun r => List.not_lt.mpr r z
          simp [z, z']
        · have z' : lsR p ≤ lsR q := List.not_lt.mp z
          simp [z, z']), List.map_map, List.map_map]
      rfl
    show (match allD ((rows.map chg).map A.d) with | some es => (match mapMn (keyOf sem_order_key) es with | some kz => mkL true (byKeyA ((rows.map chg).map A.d) kz) [] | none => none) | none => none) = _
    rw [allD_map]
    dsimp only
    rw [mapMn_chg]
    dsimp only
    rw [eb]
    unfold mkL
    rw [if_pos (by rw [List.length_map, List.length_map, pm.length_eq]; have := hr.l; show _ ≤ 16777216; omega)]
    rfl
end K02

set_option maxHeartbeats 1000000
namespace K02
open PySem PySem.Spec PyProof.Rows L2 Tq
theorem comes_ok {p q : Row} (hl : Lt3 p q) : sem__law_comes_first [.d (rD p), .d (rD q)] [] = some (.ok (.d (.bl true)) []) := by
  have g : ∀ (τ : Sl) (j i : Nat) (z : Int) (r : Row) (x : D), z = ((i : Nat) : Int) → τ[j]? = some (some (.d (rD r))) → ([.int (r.a : Nat), .int r.n, LD r.hs, r.cap, .lst r.pubs, .lst r.parts] : List D)[i]? = some x → mBin gGet (mVar j) (mC (.int z)) τ [] = some (.ok (.d x) []) := fun τ j i z r x hz e ex => row_get (r := r) (j := j) (i := i) (z := z) hz e ex
  have s0 : mUn gSum (mBin gGet (mVar 0) (mC (.int 2))) [some (.d (rD p)), some (.d (rD q))] [] = some (.ok (.d (.int p.hs.sum)) []) := by rw [un_of (g _ 0 2 2 p _ rfl rfl rfl)]; exact sum_lst _ _
  have s1 : mUn gSum (mBin gGet (mVar 1) (mC (.int 2))) [some (.d (rD p)), some (.d (rD q))] [] = some (.ok (.d (.int q.hs.sum)) []) := by rw [un_of (g _ 1 2 2 q _ rfl rfl rfl)]; exact sum_lst _ _
  have a0 : mBin gGet (mVar 0) (mC (.int 0)) [some (.d (rD p)), some (.d (rD q))] [] = some (.ok (.d (.int (p.a : Nat))) []) := g _ 0 0 0 p _ rfl rfl rfl
  have a1 : mBin gGet (mVar 1) (mC (.int 0)) [some (.d (rD p)), some (.d (rD q))] [] = some (.ok (.d (.int (q.a : Nat))) []) := g _ 1 0 0 q _ rfl rfl rfl
  have n0 : mBin gGet (mVar 0) (mC (.int 1)) [some (.d (rD p)), some (.d (rD q))] [] = some (.ok (.d (.int p.n)) []) := g _ 0 1 1 p _ rfl rfl rfl
  have n1 : mBin gGet (mVar 1) (mC (.int 1)) [some (.d (rD p)), some (.d (rD q))] [] = some (.ok (.d (.int q.n)) []) := g _ 1 1 1 q _ rfl rfl rfl
  refine runB_rt rfl (w := .d (.bl true)) (h1 := []) ?_
  show b__law_comes_first [some (.d (rD p)), some (.d (rD q))] [] = _
  unfold b__law_comes_first
  have t1 := tb_of (nei_of s0 s1)
  have t2 := tb_of (nei_of a0 a1)
  by_cases z : p.hs.sum = q.hs.sum
  · rw [decide_eq_true z] at t1
    rw [seq_nx (τ1 := [some (.d (rD p)), some (.d (rD q))]) (h1 := []) (by rw [if_ff t1]; rfl)]
    by_cases y : ((p.a : Nat) : Int) = (q.a : Nat)
    · rw [decide_eq_true y] at t2
      rw [seq_nx (τ1 := [some (.d (rD p)), some (.d (rD q))]) (h1 := []) (by rw [if_ff t2]; rfl)]
      refine ret_of ?_
      rw [bin_of n0 n1, ordLT, decide_eq_true (by unfold Lt3 at hl; omega)]
    · rw [decide_eq_false y] at t2
      refine seq_rt ?_
      rw [if_tt t2]
      refine ret_of ?_
      rw [bin_of a0 a1, ordLT, decide_eq_true (by unfold Lt3 at hl; omega)]
  · rw [decide_eq_false z] at t1
    refine seq_rt ?_
    rw [if_tt t1]
    refine ret_of ?_
    rw [bin_of s0 s1]
    show some (Rs.ok (A.d (D.bl (decide (p.hs.sum < q.hs.sum)))) []) = _
    rw [decide_eq_true (by unfold Lt3 at hl; omega)]
abbrev R13 (ns ds : List Int) (rows : List Row) (a3 a4 a5 a6 a7 a8 a9 a10 a11 a12 : Option A) : Sl := [some (.d (.scr ns)), some (.d (LD ds)), some (.d (.lst (rows.map rD))), a3, a4, a5, a6, a7, a8, a9, a10, a11, a12]
theorem nm_get {rows : List Row} {n : Nat} {r : Row} (er : rows[n]? = some r) {τ : Sl} {h : Hq} (e2 : τ[2]? = some (some (.d (.lst (rows.map rD))))) (e4 : τ[4]? = some (some (.d (.int (n : Nat))))) : mTup (maCons (mBin gGet (mBin gGet (mVar 2) (mVar 4)) (mC (.int 0))) (maCons (mBin gGet (mBin gGet (mVar 2) (mVar 4)) (mC (.int 1))) maNil)) τ h = some (.ok (.d (nmD r)) h) := by
  have e : mBin gGet (mVar 2) (mVar 4) τ h = some (.ok (.d (rD r)) h) := by
    rw [bin_of (var_of e2) (var_of e4)]
    show (match atI ((rows.map rD).map A.d) ((n : Nat) : Int) with | some w => some (Rs.ok w h) | none => none) = _
    rw [Tq.atI_nat (x := A.d (rD r)) (by rw [List.getElem?_map, List.getElem?_map, er]; rfl)]
  exact tup_of (dcons_of (by rw [bin_of e rfl]; rfl) (dcons_of (by rw [bin_of e rfl]; rfl) dnil_of)) (by show 2 ≤ 16777216; decide)
theorem eqD_nm (p q : Row) : eqD false (nmD p) (nmD q) = some (decide (p.a = q.a ∧ p.n = q.n)) := by
  have s : ∀ r : Row, (nmD r).shp = true := fun r => shp_tup (ds := [.int (r.a : Nat), .int r.n]) rfl
  have v : D.eqv (nmD p) (nmD q) = decide ([((p.a : Nat) : Int), p.n] = [((q.a : Nat) : Int), q.n]) := eqvAll_ints [((p.a : Nat) : Int), p.n] [((q.a : Nat) : Int), q.n]
  unfold eqD
  rw [s, s, v]
  show some (decide _) = _
  congr 1
  rw [Bool.eq_iff_iff, decide_eq_true_iff, decide_eq_true_iff, List.cons.injEq, List.cons.injEq]
  constructor
  · rintro ⟨h1, h2, _⟩
    exact ⟨by omega, h2⟩
  · rintro ⟨h1, h2⟩
    exact ⟨by omega, h2, rfl⟩
theorem find_ok {rows : List Row} (hr : Rows rows) {ns ds : List Int} {n : Nat} {r : Row} (er : rows[n]? = some r) {a3 a4 a5 a6 a7 a8 a9 a11 a12 : Option A} {h : Hq} : C3_law (R13 ns ds rows a3 a4 a5 a6 a7 a8 a9 (some (.d (nmD r))) a11 a12) h = some (.ok (.d (LD [((n : Nat) : Int)])) h) := by
  have hn : n < rows.length := (List.getElem?_eq_some_iff.mp er).1
  have hd : rows.Pairwise Dis := hr.u.imp fun {p q} h ⟨e1, e2⟩ => by have := h e1; omega
  obtain ⟨as, h', e, rfl, rfl⟩ := compL_inv (ws := rangeA 0 rows.length) (g := mgName 4) (mt := T1_law) (me := E3_law) (τw := wipeT (R13 ns ds rows a3 a4 a5 a6 a7 a8 a9 (some (.d (nmD r))) a11 a12) [4]) (h := h) (fun k h1 as => h1 = h ∧ as = if n < k then [A.d (.int (n : Nat))] else []) ⟨rfl, by rw [if_neg (Nat.not_lt_zero _)]⟩
    (fun k w h1 as hw i => by
      obtain ⟨rfl, rfl⟩ := i
      obtain ⟨hk, rfl⟩ := rangeA_get hw
      rw [Int.zero_add]
      have et : T1_law (R13 ns ds rows a3 (some (.d (.int (k : Nat)))) a5 a6 a7 a8 a9 (some (.d (nmD r))) a11 a12) h1 = some (.ok (decide (rows[k].a = r.a ∧ rows[k].n = r.n)) h1) := tb_of (eqv_of (nm_get (List.getElem?_eq_getElem hk) rfl rfl) (var_of rfl) (vw_d _ _ _) (vw_d _ _ _) (eqD_nm _ _))
      refine ⟨R13 ns ds rows a3 (some (.d (.int (k : Nat)))) a5 a6 a7 a8 a9 (some (.d (nmD r))) a11 a12, rfl, ?_⟩
      rw [List.getElem?_eq_getElem hn] at er
      cases er
      by_cases z : k = n
      · subst z
        refine .inl ⟨h1, h1, .d (.int (k : Nat)), ?_, var_of rfl, rfl, ?_⟩
        · rw [et, decide_eq_true ⟨rfl, rfl⟩]
        · rw [if_neg (Nat.lt_irrefl _), if_pos (Nat.lt_succ_self _)]
          rfl
      · refine .inr ⟨h1, ?_, rfl, ?_⟩
        · rw [et, decide_eq_false]
          rintro ⟨h2, h3⟩
          rcases Nat.lt_or_gt_of_ne z with l | l
          · exact List.pairwise_iff_getElem.mp hd k n hk hn l ⟨h2, h3⟩
          · exact List.pairwise_iff_getElem.mp hd n k hn hk l ⟨h2.symm, h3.symm⟩
        · by_cases y : n < k
          · rw [if_pos y, if_pos (by omega)]
          · rw [if_neg y, if_neg (by omega)]) (by rw [rangeA_len]; have := hr.l; show _ ≤ 16777216; omega)
  rw [rangeA_len, if_pos hn] at e
  unfold C3_law mLC
  rw [mRange1_of (j := (rows.length : Nat)) (h1 := h') (by
    rw [un_of (var_of rfl)]
    show some (Rs.ok (A.d (D.int ((((rows.map rD).map A.d).length : Nat) : Int))) _) = _
    rw [List.length_map, List.length_map]) (by omega) (by have := hr.l; omega), bd_ok, Int.toNat_natCast, e]
  rfl
end K02

set_option maxHeartbeats 1000000
namespace K02
open PySem PySem.Spec PyProof.Rows L2 Tq
theorem inD_no {i : Int} {ps : List Int} (h : i ∉ ps) : inD false (.int i) (LD ps) = some false := by
  show (if (D.int i).shp && (LD ps).shp then some ((ps.map D.int).any fun z => D.eqv z (.int i)) else none) = _
  rw [shp_LD, show (D.int i).shp = true from shp_fok rfl, Bool.and_self, if_pos rfl]
  congr 1
  rw [List.any_eq_false]
  intro x hx
  obtain ⟨j, hj, rfl⟩ := List.mem_map.mp hx
  rw [show D.eqv (.int j) (.int i) = decide (j = i) from rfl, decide_eq_true_iff]
  rintro rfl
  exact h hj
def Ix (rows rs : List Row) (n : Nat) (ix : List Nat) : Prop := ix.length = n ∧ ∀ (j i : Nat), ix[j]? = some i → ∃ r, rows[i]? = some r ∧ rs[j]? = some r
theorem lt3_irr {p : Row} : ¬ Lt3 p p := by
  unfold Lt3
  omega
theorem places_ok {rows rs : List Row} (hr : Rows rows) (pm : rs.Perm rows) (pw : rs.Pairwise Lt3) {ns ds : List Int} {a3 a4 a5 a6 a8 a10 a11 a12 : Option A} {C : O} : ∃ ix b10 b11, Ix rows rs rs.length ix ∧ L2_law (R13 ns ds rows a3 a4 a5 a6 (some (.d (.lst (rs.map nmD)))) a8 (some (.r 1)) a10 a11 a12) [C, .lst (LI [])] = some (.nx (R13 ns ds rows a3 a4 a5 a6 (some (.d (.lst (rs.map nmD)))) a8 (some (.r 1)) b10 b11 a12) [C, .lst (LI (ix.map fun i => ((i : Nat) : Int)))]) := by
  have hl : rs.length ≤ 150 := by rw [pm.length_eq]; exact hr.l
  obtain ⟨τ', h', e, ix, b10, b11, hx, rfl, rfl⟩ := forL_inv (g := mgName 10) (mb := B2_law) (ws := (rs.map nmD).map A.d)
    (fun n τ h => ∃ ix b10 b11, Ix rows rs n ix ∧ τ = R13 ns ds rows a3 a4 a5 a6 (some (.d (.lst (rs.map nmD)))) a8 (some (.r 1)) b10 b11 a12 ∧ h = [C, .lst (LI (ix.map fun i => ((i : Nat) : Int)))])
    (τ := R13 ns ds rows a3 a4 a5 a6 (some (.d (.lst (rs.map nmD)))) a8 (some (.r 1)) a10 a11 a12) (h := [C, .lst (LI [])]) ⟨[], _, _, ⟨rfl, fun j i z => by cases z⟩, rfl, rfl⟩
    (fun n w τ h hw i => by
      obtain ⟨ix, b10, b11, ⟨hxl, hx⟩, rfl, rfl⟩ := i
      rw [List.getElem?_map, List.getElem?_map] at hw
      have hn : n < rs.length := by
        rcases Nat.lt_or_ge n rs.length with z | z
        · exact z
        · rw [List.getElem?_eq_none z] at hw
          cases hw
      have er : rs[n]? = some rs[n] := List.getElem?_eq_getElem hn
      rw [er] at hw
      cases hw
      have hm : rs[n] ∈ rows := pm.mem_iff.mp (List.getElem_mem hn)
      generalize hrr : rs[n] = r at er hm
      obtain ⟨k, hk⟩ := List.mem_iff_getElem?.mp hm
      have nin : ((k : Nat) : Int) ∉ ix.map fun i => ((i : Nat) : Int) := by
        intro hc
        obtain ⟨k', h1, h2⟩ := List.mem_map.mp hc
        obtain rfl : k' = k := by omega
        obtain ⟨j, hj⟩ := List.mem_iff_getElem?.mp h1
        obtain ⟨r', h3, h4⟩ := hx j k' hj
        rw [hk] at h3
        cases h3
        have hjl : j < n := by rw [← hxl]; exact (List.getElem?_eq_some_iff.mp hj).1
        have q := List.pairwise_iff_getElem.mp pw j n (by omega) hn hjl
        rw [hrr, (List.getElem?_eq_some_iff.mp h4).2] at q
        exact lt3_irr q
      have hk' : k < 150 := Nat.lt_of_lt_of_le (List.getElem?_eq_some_iff.mp hk).1 hr.l
      refine ⟨R13 ns ds rows a3 a4 a5 a6 (some (.d (.lst (rs.map nmD)))) a8 (some (.r 1)) (some (.d (nmD r))) b11 a12, R13 ns ds rows a3 a4 a5 a6 (some (.d (.lst (rs.map nmD)))) a8 (some (.r 1)) (some (.d (nmD r))) (some (.d (LD [((k : Nat) : Int)]))) a12, [C, .lst (LI ((ix ++ [k]).map fun i => ((i : Nat) : Int)))], rfl, .inl ?_, ix ++ [k], _, _, ⟨by rw [List.length_append, hxl]; rfl, fun j i hj => ?_⟩, rfl, rfl⟩
      · unfold B2_law
        rw [seq_nx (τ1 := R13 ns ds rows a3 a4 a5 a6 (some (.d (.lst (rs.map nmD)))) a8 (some (.r 1)) (some (.d (nmD r))) (some (.d (LD [((k : Nat) : Int)]))) a12) (h1 := [C, .lst (LI (ix.map fun i => ((i : Nat) : Int)))]) (set_of (find_ok hr hk))]
        have ef : ∀ h, mBin gGet (mVar 11) (mC (.int 0)) (R13 ns ds rows a3 a4 a5 a6 (some (.d (.lst (rs.map nmD)))) a8 (some (.r 1)) (some (.d (nmD r))) (some (.d (LD [((k : Nat) : Int)]))) a12) h = some (.ok (.d (.int (k : Nat))) h) := fun h => by
          rw [bin_of (var_of rfl) rfl]
          exact gGet_d (n := 0) h rfl
        rw [seq_nx (τ1 := R13 ns ds rows a3 a4 a5 a6 (some (.d (.lst (rs.map nmD)))) a8 (some (.r 1)) (some (.d (nmD r))) (some (.d (LD [((k : Nat) : Int)]))) a12) (h1 := [C, .lst (LI (ix.map fun i => ((i : Nat) : Int)))]) (by
          rw [if_ff (h1 := [C, .lst (LI (ix.map fun i => ((i : Nat) : Int)))]) (orff_of (h1 := [C, .lst (LI (ix.map fun i => ((i : Nat) : Int)))]) (tb_of (nei_of (i := 1) (j := 1) (by
            rw [un_of (var_of rfl)]
            exact gLen_d _ _) rfl)) (tb_of (k := false) (by
            rw [bin_of (ef _) (var_of rfl)]
            unfold g2V
            rw [show view [C, .lst (LI (ix.map fun i => ((i : Nat) : Int)))] (.d (.int (k : Nat))) = some (.int (k : Nat)) from vw_d _ _ _, view_LI (xs := ix.map fun i => ((i : Nat) : Int)) rfl]
            dsimp only
            rw [inD_no nin])))]
          rfl)]
        rw [append_of (k := 1) (ws := LI (ix.map fun i => ((i : Nat) : Int))) (w := .d (.int (k : Nat))) (var_of rfl) rfl (ef _) (by
          unfold LI
          rw [List.length_map, List.length_map, List.length_map]
          show ix.length < 16777216
          omega)]
        rw [List.map_append, LI_app]
        rfl
      · rcases Nat.lt_or_ge j ix.length with z | z
        · rw [List.getElem?_append_left z] at hj
          exact hx j i hj
        · rw [List.getElem?_append_right z] at hj
          have : j = ix.length := by
            rcases Nat.eq_or_lt_of_le z with y | y
            · exact y.symm
            · rw [List.getElem?_eq_none (by rw [List.length_singleton]; omega)] at hj
              cases hj
          subst this
          rw [Nat.sub_self] at hj
          cases hj
          exact ⟨r, hk, by rw [hxl]; exact er⟩) (by rw [List.length_map, List.length_map]; show _ ≤ 16777216; omega)
  rw [List.length_map, List.length_map] at hx
  refine ⟨ix, b10, b11, hx, ?_⟩
  unfold L2_law
  rw [mFor_of (nx := nxL ((rs.map nmD).map A.d)) (h1 := [C, .lst (LI [])]) rfl]
  exact e
end K02

set_option maxHeartbeats 1000000
namespace K02
open PySem PySem.Spec PyProof.Rows L2 Tq
theorem andff_of {a b : E Bool} {τ : Sl} {h h1 : Hq} (e : a τ h = some (.ok false h1)) : mAndT a b τ h = some (.ok false h1) := by
  unfold mAndT
  rw [e]
  rfl
abbrev LX (ix : List Nat) : List Int := ix.map fun i => ((i : Nat) : Int)
theorem gGetd {ds : List D} {i : Nat} {x : D} {h : Hq} (e : ds[i]? = some x) : gGet (.d (.lst ds)) (.d (.int (i : Nat))) h = some (.ok (.d x) h) := by
  show (match atI (ds.map A.d) (i : Int) with | some w => some (Rs.ok w h) | none => none) = _
  rw [Tq.atI_nat (x := A.d x) (by rw [List.getElem?_map, e]; rfl)]
theorem loop3_ok {rows rs : List Row} (hr : Rows rows) (pm : rs.Perm rows) (pw : rs.Pairwise Lt3) {ix : List Nat} (hx : Ix rows rs rs.length ix) {ns ds : List Int} {a3 a4 a5 a7 a8 a10 a11 a12 : Option A} : ∃ b4, L3_law (R13 ns ds rows a3 a4 a5 (some (.r 0)) a7 a8 (some (.r 1)) a10 a11 a12) [.lst ((rs.map chg).map A.d), .lst (LI (LX ix))] = some (.nx (R13 ns ds rows a3 b4 a5 (some (.r 0)) a7 a8 (some (.r 1)) a10 a11 a12) [.lst ((rs.map chg).map A.d), .lst (LI (LX ix))]) := by
  have hl : rs.length ≤ 150 := by rw [pm.length_eq]; exact hr.l
  obtain ⟨hxl, hxg⟩ := hx
  have place : ∀ (τ : Sl) (m : E A) (j : Nat) (r : Row), rs[j]? = some r → τ[2]? = some (some (.d (.lst (rows.map rD)))) → τ[9]? = some (some (.r 1)) → m τ [.lst ((rs.map chg).map A.d), .lst (LI (LX ix))] = some (.ok (.d (.int (j : Nat))) [.lst ((rs.map chg).map A.d), .lst (LI (LX ix))]) → mBin gGet (mVar 2) (mBin gGet (mVar 9) m) τ [.lst ((rs.map chg).map A.d), .lst (LI (LX ix))] = some (.ok (.d (rD r)) [.lst ((rs.map chg).map A.d), .lst (LI (LX ix))]) := fun τ m j r ej e2 e9 em => by
    have hj : j < ix.length := by rw [hxl]; exact (List.getElem?_eq_some_iff.mp ej).1
    have ei : ix[j]? = some ix[j] := List.getElem?_eq_getElem hj
    obtain ⟨r', h1, h2⟩ := hxg j _ ei
    rw [ej] at h2
    cases h2
    rw [bin_of (b := .d (.int (ix[j] : Nat))) (h2 := [.lst ((rs.map chg).map A.d), .lst (LI (LX ix))]) (var_of e2) (by
      rw [bin_of (var_of e9) em]
      exact gGet_c (ws := LI (LX ix)) rfl (by
        unfold LI LX
        rw [List.getElem?_map, List.getElem?_map, List.getElem?_map, ei]
        rfl))]
    exact gGetd (by rw [List.getElem?_map, h1]; rfl)
  obtain ⟨τ', h', e, ⟨b4, rfl⟩, rfl⟩ := forL_inv (g := mgName 4) (mb := B3_law) (ws := rangeA 0 ix.length) (fun _ τ h => (∃ b4, τ = R13 ns ds rows a3 b4 a5 (some (.r 0)) a7 a8 (some (.r 1)) a10 a11 a12) ∧ h = [.lst ((rs.map chg).map A.d), .lst (LI (LX ix))]) (τ := R13 ns ds rows a3 a4 a5 (some (.r 0)) a7 a8 (some (.r 1)) a10 a11 a12) (h := [.lst ((rs.map chg).map A.d), .lst (LI (LX ix))]) ⟨⟨_, rfl⟩, rfl⟩
    (fun n w τ h hw i => by
      obtain ⟨⟨b4, rfl⟩, rfl⟩ := i
      obtain ⟨hn, rfl⟩ := rangeA_get hw
      rw [Int.zero_add]
      have hn' : n < rs.length := by omega
      have er : rs[n]? = some rs[n] := List.getElem?_eq_getElem hn'
      refine ⟨R13 ns ds rows a3 (some (.d (.int (n : Nat)))) a5 (some (.r 0)) a7 a8 (some (.r 1)) a10 a11 a12, R13 ns ds rows a3 (some (.d (.int (n : Nat)))) a5 (some (.r 0)) a7 a8 (some (.r 1)) a10 a11 a12, [.lst ((rs.map chg).map A.d), .lst (LI (LX ix))], rfl, .inl ?_, ⟨_, rfl⟩, rfl⟩
      have ek : mCallP sem__law_is_kept (lenIs 2 (maCons (mBin gGet (mVar 6) (mVar 4)) (maCons (mBin gGet (mVar 2) (mBin gGet (mVar 9) (mVar 4))) maNil))) (R13 ns ds rows a3 (some (.d (.int (n : Nat)))) a5 (some (.r 0)) a7 a8 (some (.r 1)) a10 a11 a12) [.lst ((rs.map chg).map A.d), .lst (LI (LX ix))] = some (.ok (.d (.bl true)) [.lst ((rs.map chg).map A.d), .lst (LI (LX ix))]) :=
        callP_of (ds := [chg rs[n], rD rs[n]]) (len_of (n := 2) (cons_of (by
          rw [bin_of (var_of rfl) (var_of rfl)]
          exact gGet_c (ws := (rs.map chg).map A.d) rfl (by rw [List.getElem?_map, List.getElem?_map, er]; rfl)) (cons_of (r := []) (place _ _ n _ er rfl rfl (var_of rfl)) rfl)) rfl) (kept_ok (hr.o _ (pm.mem_iff.mp (List.getElem_mem hn')))) (vw_d _ _ _)
      unfold B3_law
      rw [seq_nx (τ1 := R13 ns ds rows a3 (some (.d (.int (n : Nat)))) a5 (some (.r 0)) a7 a8 (some (.r 1)) a10 a11 a12) (h1 := [.lst ((rs.map chg).map A.d), .lst (LI (LX ix))]) (by
        rw [if_ff (tru_bl (b := true) ek)]
        rfl)]
      have tg : mTB (mBin gGt (mVar 4) (mC (.int 0))) (R13 ns ds rows a3 (some (.d (.int (n : Nat)))) a5 (some (.r 0)) a7 a8 (some (.r 1)) a10 a11 a12) [.lst ((rs.map chg).map A.d), .lst (LI (LX ix))] = some (.ok (decide (0 < ((n : Nat) : Int))) [.lst ((rs.map chg).map A.d), .lst (LI (LX ix))]) := gt_of (var_of rfl) rfl
      by_cases z : 0 < ((n : Nat) : Int)
      · rw [decide_eq_true z] at tg
        obtain ⟨m, rfl⟩ : ∃ m, n = m + 1 := ⟨n - 1, by omega⟩
        have hm' : m < rs.length := by omega
        have em : rs[m]? = some rs[m] := List.getElem?_eq_getElem hm'
        have q := List.pairwise_iff_getElem.mp pw m (m + 1) hm' hn' (Nat.lt_succ_self _)
        rw [if_ff (and_of tg (tru_bl (b := true) (callP_of (ds := [rD rs[m], rD rs[m + 1]]) (len_of (n := 2) (cons_of (place _ _ m _ em rfl rfl (by
          rw [sub_of (i := ((m + 1 : Nat) : Int)) (j := 1) (var_of rfl) rfl]
          rw [show ((m + 1 : Nat) : Int) - 1 = ((m : Nat) : Int) by omega])) (cons_of (r := []) (place _ _ (m + 1) _ er rfl rfl (var_of rfl)) rfl)) rfl) (comes_ok q) (vw_d _ _ _))))]
        rfl
      · rw [decide_eq_false z] at tg
        rw [if_ff (andff_of tg)]
        rfl) (by rw [rangeA_len, hxl]; show _ ≤ 16777216; omega)
  refine ⟨b4, ?_⟩
  unfold L3_law
  rw [mFor_of (h1 := [.lst ((rs.map chg).map A.d), .lst (LI (LX ix))]) (mRange1_of (j := (ix.length : Nat)) (by
    rw [un_of (var_of rfl)]
    show some (Rs.ok (A.d (D.int (((LI (LX ix)).length : Nat) : Int))) _) = _
    unfold LI LX
    rw [List.length_map, List.length_map, List.length_map]) (by omega) (by omega)), Int.toNat_natCast]
  exact e
end K02

set_option maxHeartbeats 1000000
namespace K02
open PySem PySem.Spec PyProof.Rows L2 Tq
theorem lays_nm : ∀ (rs : List Row), PyData.canLayAll0 (D.toPs (rs.map nmD)) = true ∧ PyData.depthAll (D.toPs (rs.map nmD)) ≤ 1
  | [] => ⟨rfl, Nat.zero_le _⟩
  | r :: rs => by
    obtain ⟨h1, h2⟩ := lays_nm rs
    constructor
    · show ((nmD r).toP.canLay0 && PyData.canLayAll0 (D.toPs (rs.map nmD))) = true
      rw [h1]
      rfl
    · show max (nmD r).toP.depth (PyData.depthAll (D.toPs (rs.map nmD))) ≤ 1
      exact Nat.max_le.mpr ⟨by show max 0 (max 0 0) + 1 ≤ 1; decide, h2⟩
theorem shp_nms (rs : List Row) : (D.lst (rs.map nmD)).shp = true := by
  obtain ⟨h1, h2⟩ := lays_nm rs
  show (PyData.canLayAll0 (D.toPs (rs.map nmD)) && decide (PyData.depthAll (D.toPs (rs.map nmD)) + 1 ≤ 64)) = true
  rw [h1, decide_eq_true (by omega)]
  rfl
def chF (rows : List Row) : A → A
  | .d (.int j) => .d ((rows.map chg).getD j.toNat .non)
  | w => w
def nmF : A → A
  | .d (.nd _ (a :: n :: _)) => .d (.tup [a, n])
  | .d (.lst (a :: n :: _)) => .d (.tup [a, n])
  | w => w
theorem c1_law {rows : List Row} (hr : Rows rows) {ns ds : List Int} (hd : Drs ds) {a3 a4 a5 a6 a7 a8 a9 a10 a11 a12 : Option A} : C1_law (R13 ns ds rows a3 a4 a5 a6 a7 a8 a9 a10 a11 a12) [] = some (.ok (.d (.lst (rows.map chg))) []) := by
  have hlr := hr.l
  unfold C1_law
  rw [lc_of (ws := rangeA 0 rows.length) (h1 := []) (chF rows) (by
    rw [mRange1_of (j := (rows.length : Nat)) (h1 := []) (by
      rw [un_of (var_of rfl)]
      show some (Rs.ok (A.d (D.int ((((rows.map rD).map A.d).length : Nat) : Int))) _) = _
      rw [List.length_map, List.length_map]) (by omega) (by omega), Int.toNat_natCast]) (fun w hw => by
    obtain ⟨i, hi, rfl⟩ := rangeA_mem hw
    rw [Int.zero_add]
    have er : rows[i]? = some rows[i] := List.getElem?_eq_getElem hi
    have ho := hr.o _ (List.getElem_mem hi)
    refine ⟨R13 ns ds rows a3 (some (.d (.int (i : Nat)))) a5 a6 a7 a8 a9 a10 a11 a12, rfl, ?_⟩
    have ec : chF rows (.d (.int (i : Nat))) = .d (chg rows[i]) := by
      show A.d ((rows.map chg).getD ((i : Nat) : Int).toNat .non) = _
      rw [Int.toNat_natCast, List.getD_eq_getElem?_getD, List.getElem?_map, er]
      rfl
    rw [ec]
    have eb : mBin (gEq false) (mBin gMod (mCallP sem__law_at (lenIs 2 (maCons (mVar 1) (maCons (mBin (gAdd false) (mC (.int 40)) (mVar 4)) maNil)))) (mC (.int 2))) (mC (.int 1)) (R13 ns ds rows a3 (some (.d (.int (i : Nat)))) a5 a6 a7 a8 a9 a10 a11 a12) [] = some (.ok (.d (.bl (decide (atv ds (40 + (i : Int)) % 2 = 1)))) []) := eqi_of (mod_of (atr_ok hd (i := 40 + (i : Int)) (by omega) (var_of rfl) (add_of rfl (var_of rfl))) rfl (by decide)) rfl
    have eg : mBin gGet (mVar 2) (mVar 4) (R13 ns ds rows a3 (some (.d (.int (i : Nat)))) a5 a6 a7 a8 a9 a10 a11 a12) [] = some (.ok (.d (rD rows[i])) []) := by
      rw [bin_of (var_of rfl) (var_of rfl)]
      exact gGetd (by rw [List.getElem?_map, er]; rfl)
    have sm : ∃ h', sem__law_change ([rD rows[i], .bl (decide (atv ds (40 + (i : Int)) % 2 = 1))].map A.d) [] = some (.ok (.d (chg rows[i])) h') := by
      cases decide (atv ds (40 + (i : Int)) % 2 = 1) with
      | false => exact ⟨[], change_f ho⟩
      | true => exact change_t ho
    obtain ⟨h', sm⟩ := sm
    exact callP_of (ds := [rD rows[i], .bl (decide (atv ds (40 + (i : Int)) % 2 = 1))]) (len_of (n := 2) (cons_of eg (cons_of (r := []) eb rfl)) rfl) sm (vw_d _ _ _)) (by rw [rangeA_len]; show _ ≤ 16777216; omega)]
  have : (rangeA 0 rows.length).map (chF rows) = (rows.map chg).map A.d := by
    apply List.ext_getElem?
    intro i
    rw [List.getElem?_map, List.getElem?_map, List.getElem?_map]
    rcases Nat.lt_or_ge i rows.length with z | z
    · unfold rangeA
      rw [List.getElem?_map, List.getElem?_range z, List.getElem?_eq_getElem z]
      show some (A.d ((rows.map chg).getD ((0 : Int) + ((i : Nat) : Int)).toNat .non)) = _
      rw [Int.zero_add, Int.toNat_natCast, List.getD_eq_getElem?_getD, List.getElem?_map, List.getElem?_eq_getElem z]
      rfl
    · rw [List.getElem?_eq_none (by rw [rangeA_len]; exact z), List.getElem?_eq_none z]
      rfl
  rw [this]
  exact mkL_d (by rw [List.length_map]; show _ ≤ 16777216; omega)
theorem l1_law {rows : List Row} (hr : Rows rows) {ns ds : List Int} {a4 a5 a6 a7 a8 a9 a10 a11 a12 : Option A} : ∃ b4, L1_law (R13 ns ds rows (some (.d (.lst (rows.map chg)))) a4 a5 a6 a7 a8 a9 a10 a11 a12) [] = some (.nx (R13 ns ds rows (some (.d (.lst (rows.map chg)))) b4 a5 a6 a7 a8 a9 a10 a11 a12) []) := by
  have hlr := hr.l
  obtain ⟨τ', h', e, ⟨b4, rfl⟩, rfl⟩ := forL_inv (g := mgName 4) (mb := B1_law) (ws := rangeA 0 rows.length) (fun _ τ h => (∃ b4, τ = R13 ns ds rows (some (.d (.lst (rows.map chg)))) b4 a5 a6 a7 a8 a9 a10 a11 a12) ∧ h = []) (τ := R13 ns ds rows (some (.d (.lst (rows.map chg)))) a4 a5 a6 a7 a8 a9 a10 a11 a12) (h := []) ⟨⟨_, rfl⟩, rfl⟩
    (fun n w τ h hw i => by
      obtain ⟨⟨b4, rfl⟩, rfl⟩ := i
      obtain ⟨hn, rfl⟩ := rangeA_get hw
      rw [Int.zero_add]
      have er : rows[n]? = some rows[n] := List.getElem?_eq_getElem hn
      refine ⟨R13 ns ds rows (some (.d (.lst (rows.map chg)))) (some (.d (.int (n : Nat)))) a5 a6 a7 a8 a9 a10 a11 a12, R13 ns ds rows (some (.d (.lst (rows.map chg)))) (some (.d (.int (n : Nat)))) a5 a6 a7 a8 a9 a10 a11 a12, [], rfl, .inl ?_, ⟨_, rfl⟩, rfl⟩
      unfold B1_law
      rw [if_ff (h1 := []) (tru_bl (b := true) (callP_of (ds := [chg rows[n], rD rows[n]]) (len_of (n := 2) (cons_of (by
          rw [bin_of (var_of rfl) (var_of rfl)]
          exact gGetd (by rw [List.getElem?_map, er]; rfl)) (cons_of (r := []) (by
          rw [bin_of (var_of rfl) (var_of rfl)]
          exact gGetd (by rw [List.getElem?_map, er]; rfl)) rfl)) rfl) (kept_ok (hr.o _ (List.getElem_mem hn))) (vw_d _ _ _)))]
      rfl) (by rw [rangeA_len]; show _ ≤ 16777216; omega)
  refine ⟨b4, ?_⟩
  unfold L1_law
  rw [mFor_of (h1 := []) (mRange1_of (j := (rows.length : Nat)) (by
    rw [un_of (var_of rfl)]
    show some (Rs.ok (A.d (D.int ((((rows.map rD).map A.d).length : Nat) : Int))) _) = _
    rw [List.length_map, List.length_map]) (by omega) (by omega)), Int.toNat_natCast]
  exact e
theorem nm_of (r : Row) {τ : Sl} {h : Hq} (e : τ[8]? = some (some (.d (chg r)))) : mMethP "Change" "name" 1 sem_Change__name (mVar 8) maNil τ h = some (.ok (.d (nmD r)) h) := methP_of (ds := []) (var_of e) (ins_chg r (by decide +kernel) h) rfl rfl (name_ok r)
/-- names over a frozen list of changes -/
theorem nms_of {rs : List Row} (hl : rs.length ≤ 150) {mi : E Nxt} {τ : Sl} {h : Hq} (l8 : 8 < τ.length) (e : mi τ h = some (.ok (nxL ((rs.map chg).map A.d)) h)) : mLC false mi (mgName 8) mYes (mMethP "Change" "name" 1 sem_Change__name (mVar 8) maNil) [8] τ h = some (.ok (.d (.lst (rs.map nmD))) h) := by
  rw [lc_of (ws := (rs.map chg).map A.d) (h1 := h) nmF e (fun w hw => by
    obtain ⟨d, h1, rfl⟩ := List.mem_map.mp hw
    obtain ⟨r, h2, rfl⟩ := List.mem_map.mp h1
    refine ⟨(wipeT τ [8]).set 8 (some (.d (chg r))), rfl, ?_⟩
    show _ = some (Rs.ok (A.d (nmD r)) h)
    exact nm_of r (by
      rw [List.getElem?_set_self (by show 8 < (τ.set 8 none).length; rw [List.length_set]; exact l8)])) (by rw [List.length_map, List.length_map]; show _ ≤ 16777216; omega)]
  rw [show ((rs.map chg).map A.d).map nmF = (rs.map nmD).map A.d by rw [List.map_map, List.map_map, List.map_map]; rfl]
  exact mkL_d (by rw [List.length_map]; show _ ≤ 16777216; omega)
end K02

set_option maxHeartbeats 1000000
namespace K02
open PySem PySem.Spec PyProof.Rows L2 Tq
theorem law_ok {ns : List Int} (hl : ns.length ≤ 63) (hb : ∀ z ∈ ns, Builtin.Int.intBits z ≤ 1048576) : ∃ h', sem_law [.d (.scr ns)] [] = some (.ok (.d (.bl true)) h') := by
  obtain ⟨ds, hd, e1⟩ := draws_ok hl hb
  obtain ⟨rows, hr, e2⟩ := rows_ok hd
  obtain ⟨rs, pm, pw, so⟩ := sort_ok hr
  have hlr := hr.l
  have hlp := pm.length_eq
  obtain ⟨b4, e4⟩ := l1_law hr (ns := ns) (ds := ds) (a4 := none) (a5 := none) (a6 := none) (a7 := none) (a8 := none) (a9 := none) (a10 := none) (a11 := none) (a12 := none)
  obtain ⟨ix, b10, b11, hx, e9⟩ := places_ok hr pm pw (ns := ns) (ds := ds) (a3 := some (A.d (.lst (rows.map chg)))) (a4 := b4) (a5 := some (A.d (.lst (rows.map chg)))) (a6 := some (.r 0)) (a8 := none) (a10 := none) (a11 := none) (a12 := none) (C := (O.lst ((rs.map chg).map A.d)))
  obtain ⟨c4, e10⟩ := loop3_ok hr pm pw hx (ns := ns) (ds := ds) (a3 := some (A.d (.lst (rows.map chg)))) (a4 := b4) (a5 := some (A.d (.lst (rows.map chg)))) (a7 := some (.d (.lst (rs.map nmD)))) (a8 := none) (a10 := b10) (a11 := b11) (a12 := none)
  refine ⟨([O.lst ((rs.map chg).map A.d ++ [A.d D.non]), O.lst (LI (LX ix))] : Hq), ?_⟩
  refine runB_rt rfl (w := .d (.bl true)) (h1 := ([O.lst ((rs.map chg).map A.d ++ [A.d D.non]), O.lst (LI (LX ix))] : Hq)) ?_
  show b_law [some (.d (.scr ns)), none, none, none, none, none, none, none, none, none, none, none, none] [] = _
  unfold b_law
  rw [seq_nx (τ1 := [some (.d (.scr ns)), some (.d (LD ds)), none, none, none, none, none, none, none, none, none, none, none]) (h1 := []) (set_of (e1 _ _ rfl))]
  rw [seq_nx (τ1 := R13 ns ds rows none none none none none none none none none none) (h1 := []) (set_of (e2 _ _ _ (var_of rfl)))]
  rw [seq_nx (τ1 := R13 ns ds rows (some (A.d (.lst (rows.map chg)))) none none none none none none none none none) (h1 := []) (set_of (c1_law hr hd))]
  rw [seq_nx e4]
  rw [seq_nx (τ1 := R13 ns ds rows (some (A.d (.lst (rows.map chg)))) b4 (some (A.d (.lst (rows.map chg)))) none none none none none none none) (h1 := []) (set_of (by
    rw [un_of (var_of rfl)]
    show mkL false ((rows.map chg).map A.d) [] = _
    exact mkL_d (by rw [List.length_map]; show _ ≤ 16777216; omega)))]
  rw [seq_nx (τ1 := R13 ns ds rows (some (A.d (.lst (rows.map chg)))) b4 (some (A.d (.lst (rows.map chg)))) (some (.r 0)) none none none none none none) (h1 := [(O.lst ((rs.map chg).map A.d))]) (set_of (by
    unfold mCallO
    rw [len_of (n := 1) (ws := [(A.d (.lst (rows.map chg)))]) (cons_of (r := []) (var_of rfl) rfl) rfl, bd_ok]
    unfold callO
    rw [show mapMn (view []) [(A.d (.lst (rows.map chg)))] = some [.lst (rows.map chg)] from rfl]
    dsimp only
    rw [show ([D.lst (rows.map chg)] : List D).map A.d = [.d (.lst (rows.map chg))] from rfl, so]
    dsimp only
    rw [show ([O.lst ((rs.map chg).map A.d)] : Hq)[0]? = some (.lst ((rs.map chg).map A.d)) from rfl]
    dsimp only
    rw [mapMn_d _ (rs.map chg) (fun x => by unfold vwA; rfl)]
    rfl))]
  rw [seq_nx (τ1 := R13 ns ds rows (some (A.d (.lst (rows.map chg)))) b4 (some (A.d (.lst (rows.map chg)))) (some (.r 0)) none none none none none none) (h1 := [(O.lst ((rs.map chg).map A.d))]) (by
    rw [if_ff (h1 := [(O.lst ((rs.map chg).map A.d))]) (orff_of (h1 := [(O.lst ((rs.map chg).map A.d))]) (tru_bl (b := true) (by
      rw [un_of (var_of rfl)]
      rfl)) (tb_of (k := false) (by
      have t := nei_of (i := ((rs.length : Nat) : Int)) (j := ((rows.length : Nat) : Int)) (a := mUn gLen (mVar 6)) (b := mUn gLen (mVar 2)) (τ := R13 ns ds rows (some (A.d (.lst (rows.map chg)))) b4 (some (A.d (.lst (rows.map chg)))) (some (.r 0)) none none none none none none) (h := [(O.lst ((rs.map chg).map A.d))]) (by
        rw [un_of (var_of rfl)]
        show some (Rs.ok (A.d (D.int ((((rs.map chg).map A.d).length : Nat) : Int))) _) = _
        rw [List.length_map, List.length_map]) (by
        rw [un_of (var_of rfl)]
        show some (Rs.ok (A.d (D.int ((((rows.map rD).map A.d).length : Nat) : Int))) _) = _
        rw [List.length_map, List.length_map])
      rw [decide_eq_true (show ((rs.length : Nat) : Int) = ((rows.length : Nat) : Int) by rw [hlp])] at t
      exact t)))]
    rfl)]
  rw [seq_nx (τ1 := R13 ns ds rows (some (A.d (.lst (rows.map chg)))) b4 (some (A.d (.lst (rows.map chg)))) (some (.r 0)) (some (.d (.lst (rs.map nmD)))) none none none none none) (h1 := [(O.lst ((rs.map chg).map A.d))]) (set_of (by
    unfold C2_law mLC
    rw [show mItems (mVar 6) (R13 ns ds rows (some (A.d (.lst (rows.map chg)))) b4 (some (A.d (.lst (rows.map chg)))) (some (.r 0)) none none none none none none) [(O.lst ((rs.map chg).map A.d))] = some (.ok (nxC 0) [(O.lst ((rs.map chg).map A.d))]) from rfl, bd_ok]
    rw [compC_map (ws := (rs.map chg).map A.d) (us := (rs.map nmD).map A.d) rfl (by simp only [List.length_map]) (fun i w u h1 h2 => by
      rw [List.getElem?_map, List.getElem?_map] at h1 h2
      rcases Nat.lt_or_ge i rs.length with z | z
      · rw [List.getElem?_eq_getElem z] at h1 h2
        cases h1
        cases h2
        exact ⟨R13 ns ds rows (some (A.d (.lst (rows.map chg)))) b4 (some (A.d (.lst (rows.map chg)))) (some (.r 0)) none (some (.d (chg rs[i]))) none none none none, rfl, nm_of rs[i] rfl⟩
      · rw [List.getElem?_eq_none z] at h1
        cases h1) (by rw [List.length_map, List.length_map]; show _ ≤ 16777216; omega)]
    dsimp only
    rw [if_pos (by rw [List.length_map, List.length_map]; show _ ≤ 16777216; omega)]
    exact mkL_d (by rw [List.length_map]; show _ ≤ 16777216; omega)))]
  rw [seq_nx (τ1 := R13 ns ds rows (some (A.d (.lst (rows.map chg)))) b4 (some (A.d (.lst (rows.map chg)))) (some (.r 0)) (some (.d (.lst (rs.map nmD)))) none (some (.r 1)) none none none) (h1 := [(O.lst ((rs.map chg).map A.d)), .lst (LI [])]) rfl]
  rw [seq_nx e9, seq_nx e10]
  rw [seq_nx (τ1 := R13 ns ds rows (some (A.d (.lst (rows.map chg)))) c4 (some (A.d (.lst (rows.map chg)))) (some (.r 0)) (some (.d (.lst (rs.map nmD)))) none (some (.r 1)) b10 b11 none) (h1 := ([O.lst ((rs.map chg).map A.d ++ [A.d D.non]), O.lst (LI (LX ix))] : Hq)) (append_of (k := 0) (ws := (rs.map chg).map A.d) (w := .d .non) (var_of rfl) rfl rfl (by rw [List.length_map, List.length_map]; show _ < 16777216; omega))]
  have n4 : C4_law (R13 ns ds rows (some (A.d (.lst (rows.map chg)))) c4 (some (A.d (.lst (rows.map chg)))) (some (.r 0)) (some (.d (.lst (rs.map nmD)))) none (some (.r 1)) b10 b11 none) ([O.lst ((rs.map chg).map A.d ++ [A.d D.non]), O.lst (LI (LX ix))] : Hq) = some (.ok (.d (.lst (rows.map nmD))) ([O.lst ((rs.map chg).map A.d ++ [A.d D.non]), O.lst (LI (LX ix))] : Hq)) := nms_of hlr (by show 8 < 13; decide) rfl
  have n5 : C5_law (R13 ns ds rows (some (A.d (.lst (rows.map chg)))) c4 (some (A.d (.lst (rows.map chg)))) (some (.r 0)) (some (.d (.lst (rs.map nmD)))) none (some (.r 1)) b10 b11 none) ([O.lst ((rs.map chg).map A.d ++ [A.d D.non]), O.lst (LI (LX ix))] : Hq) = some (.ok (.d (.lst (rows.map nmD))) ([O.lst ((rs.map chg).map A.d ++ [A.d D.non]), O.lst (LI (LX ix))] : Hq)) := by
    unfold C5_law
    rw [lc_of (ws := (rows.map rD).map A.d) (h1 := ([O.lst ((rs.map chg).map A.d ++ [A.d D.non]), O.lst (LI (LX ix))] : Hq)) nmF rfl (fun w hw => by
      obtain ⟨d, h1, rfl⟩ := List.mem_map.mp hw
      obtain ⟨r, h2, rfl⟩ := List.mem_map.mp h1
      refine ⟨R13 ns ds rows (some (A.d (.lst (rows.map chg)))) c4 (some (A.d (.lst (rows.map chg)))) (some (.r 0)) (some (.d (.lst (rs.map nmD)))) none (some (.r 1)) b10 b11 (some (.d (rD r))), rfl, ?_⟩
      exact tup_of (dcons_of (row_get (r := r) (j := 12) (i := 0) (z := 0) rfl rfl rfl) (dcons_of (row_get (r := r) (j := 12) (i := 1) (z := 1) rfl rfl rfl) dnil_of)) (by show 2 ≤ 16777216; decide)) (by rw [List.length_map, List.length_map]; show _ ≤ 16777216; omega)]
    rw [show ((rows.map rD).map A.d).map nmF = (rows.map nmD).map A.d by rw [List.map_map, List.map_map, List.map_map]; rfl]
    exact mkL_d (by rw [List.length_map]; show _ ≤ 16777216; omega)
  have n6 : C6_law (R13 ns ds rows (some (A.d (.lst (rows.map chg)))) c4 (some (A.d (.lst (rows.map chg)))) (some (.r 0)) (some (.d (.lst (rs.map nmD)))) none (some (.r 1)) b10 b11 none) ([O.lst ((rs.map chg).map A.d ++ [A.d D.non]), O.lst (LI (LX ix))] : Hq) = some (.ok (.d (.lst (rs.map nmD))) ([O.lst ((rs.map chg).map A.d ++ [A.d D.non]), O.lst (LI (LX ix))] : Hq)) := nms_of (by omega) (by show 8 < 13; decide) (by
    unfold mItems
    rw [callP_of (ds := [.lst (rows.map chg)]) (len_of (n := 1) (cons_of (r := []) (var_of rfl) rfl) rfl) so (view_lst (ds := rs.map chg) rfl), bd_ok]
    rfl)
  rw [seq_nx (τ1 := (R13 ns ds rows (some (A.d (.lst (rows.map chg)))) c4 (some (A.d (.lst (rows.map chg)))) (some (.r 0)) (some (.d (.lst (rs.map nmD)))) none (some (.r 1)) b10 b11 none)) (h1 := ([O.lst ((rs.map chg).map A.d ++ [A.d D.non]), O.lst (LI (LX ix))] : Hq)) (by
    rw [if_ff (tb_of (eqv_of n4 n5 (vw_d _ _ _) (vw_d _ _ _) (eqD_same (n := true) (shp_nms rows))))]
    rfl)]
  rw [seq_nx (τ1 := (R13 ns ds rows (some (A.d (.lst (rows.map chg)))) c4 (some (A.d (.lst (rows.map chg)))) (some (.r 0)) (some (.d (.lst (rs.map nmD)))) none (some (.r 1)) b10 b11 none)) (h1 := ([O.lst ((rs.map chg).map A.d ++ [A.d D.non]), O.lst (LI (LX ix))] : Hq)) (by
    rw [if_ff (tb_of (eqv_of n6 (var_of rfl) (vw_d _ _ _) (vw_d _ _ _) (eqD_same (n := true) (shp_nms rs))))]
    rfl)]
  exact ret_of (callP_of (ds := [LD ds, .lst (rows.map rD), .lst (rows.map chg)]) (len_of (n := 3) (cons_of (var_of rfl) (cons_of (var_of rfl) (cons_of (r := []) (var_of rfl) rfl))) rfl) (asks_ok hd hr) (vw_d _ _ _))
end K02

open PySem PySem.W PyProof.Rows
set_option maxHeartbeats 0 in
theorem PySem.Challenge.cw_kithwhole_k02_order_of_changes_holds : PySem.Challenge.rw_kithwhole_k02_order_of_changes.Holds := by
  w_on; o_law; k_head; (case hw => w_witness2)
  k_fill
  refine L2.walk_ofB (l := PySem.Challenge.rw_kithwhole_k02_order_of_changes) (n := 63) (k := 12) (x := "script") (CX := fun _ => L2.CX0) (sp := fun w => (fun vs H Q _ => Tq.spQ _ 1 K02.sem_law vs H Q L2.E0)) rfl (by decide) rfl ⟨rfl, by decide, by decide⟩ (fun w h Y => PySem.W.kIn_of Y) ?F (fun _ _ _ ns hl hb _ hS => Tq.sp_law hS (K02.law_ok hl hb)) (fun _ _ _ _ _ h => h)
  case F =>
    intro w mg fa h KX G hmg
    refine' K02.all_mk KX G hmg ?a_Change ?pg_Change ?hd_Change ?po_Change ?sa_Change ?n_Change_author ?n_Change_number ?n_Change_heard ?n_Change_capability ?n_Change_publics ?n_Change_parts ?mk_Change ?kc_Change ?a0 ?l0 ?c0 ?k0 ?a1 ?l1 ?c1 ?k1 ?a2 ?l2 ?c2 ?k2 ?a3 ?l3 ?c3 ?k3 ?a4 ?l4 ?c4 ?k4 ?a5 ?l5 ?c5 ?k5 ?a6 ?l6 ?c6 ?k6 ?a7 ?l7 ?c7 ?k7 ?a8 ?l8 ?c8 ?k8 ?a9 ?l9 ?c9 ?k9 ?a10 ?l10 ?c10 ?k10 ?a11 ?i11 ?l11 ?c11 ?k11 ?a12 ?l12 ?c12 ?k12 ?a13 ?i13 ?l13 ?c13 ?k13 ?a14 ?i14 ?l14 ?c14 ?k14 ?a15 ?l15 ?c15 ?k15 ?a16 ?l16 ?c16 ?k16 ?a17 ?i17 ?l17 ?c17 ?k17 ?a18 ?l18 ?c18 ?k18 ?a19 ?l19 ?c19 ?k19 ?a20 ?l20 ?c20 ?k20 ?y_bool ?y_int ?y_isinstance ?y_len ?y_list ?y_max ?y_min ?y_range ?y_sorted ?y_str ?y_sum ?y_tuple
    (case a_Change => k_is); (case pg_Change => k_is); (case hd_Change => k_is); (case po_Change => k_is); (case sa_Change => k_is); (case n_Change_author => k_is); (case n_Change_number => k_is); (case n_Change_heard => k_is); (case n_Change_capability => k_is); (case n_Change_publics => k_is); (case n_Change_parts => k_is); (case mk_Change => k_is); (case kc_Change => k_is); (case a0 => k_is); (case l0 => k_is); (case c0 => k_is); (case k0 => k_is); (case a1 => k_is); (case l1 => k_is); (case c1 => k_is); (case k1 => k_is); (case a2 => k_is); (case l2 => k_is); (case c2 => k_is); (case k2 => k_is); (case a3 => k_is); (case l3 => k_is); (case c3 => k_is); (case k3 => k_is); (case a4 => k_is); (case l4 => k_is); (case c4 => k_is); (case k4 => k_is); (case a5 => k_is); (case l5 => k_is); (case c5 => k_is); (case k5 => k_is); (case a6 => k_is); (case l6 => k_is); (case c6 => k_is); (case k6 => k_is); (case a7 => k_is); (case l7 => k_is); (case c7 => k_is); (case k7 => k_is); (case a8 => k_is); (case l8 => k_is); (case c8 => k_is); (case k8 => k_is); (case a9 => k_is); (case l9 => k_is); (case c9 => k_is); (case k9 => k_is); (case a10 => k_is); (case l10 => k_is); (case c10 => k_is); (case k10 => k_is); (case a11 => k_is); (case i11 => k_is); (case l11 => k_is); (case c11 => k_is); (case k11 => k_is); (case a12 => k_is); (case l12 => k_is); (case c12 => k_is); (case k12 => k_is); (case a13 => k_is); (case i13 => k_is); (case l13 => k_is); (case c13 => k_is); (case k13 => k_is); (case a14 => k_is); (case i14 => k_is); (case l14 => k_is); (case c14 => k_is); (case k14 => k_is); (case a15 => k_is); (case l15 => k_is); (case c15 => k_is); (case k15 => k_is); (case a16 => k_is); (case l16 => k_is); (case c16 => k_is); (case k16 => k_is); (case a17 => k_is); (case i17 => k_is); (case l17 => k_is); (case c17 => k_is); (case k17 => k_is); (case a18 => k_is); (case l18 => k_is); (case c18 => k_is); (case k18 => k_is); (case a19 => k_is); (case l19 => k_is); (case c19 => k_is); (case k19 => k_is); (case a20 => k_is); (case l20 => k_is); (case c20 => k_is); (case k20 => k_is); (case y_bool => k_is); (case y_int => k_is); (case y_isinstance => k_is); (case y_len => k_is); (case y_list => k_is); (case y_max => k_is); (case y_min => k_is); (case y_range => k_is); (case y_sorted => k_is); (case y_str => k_is); (case y_sum => k_is); (case y_tuple => k_is)

